/- The common part of the laws on queries, text 3 of 7: contracts of the functions that they reach, and the plain mathematics. -/
import Derived.Test.YtijaoedlhmdpnaaDoorZ2
import Derived.Deep.LoopGhost
import Derived.Laws.Rows
import Derived.Laws.ResultCell
import Derived.Test.YtijaoedlhmdpnaaDoorZ1
import Derived.Lib.ItoaLen
import Derived.Lib.Atoi
set_option linter.unusedVariables false
set_option linter.unusedSimpArgs false
/- revset.Validate walked. -/
namespace Go.Proofs.YtijaoedlhmdpnaaDoor
open Go.RowKit Go.Proofs.YtijaoedlhmdpnaaDoor.PTopQueriesKept Go.Proofs.YtijaoedlhmdpnaaDoorW.PrintWords

/-- A fault is handed back; nothing that was there has turned. -/
def RetFault (w : World) (f : Int × Int) (e : Ending) (w' : World) : Prop := e = .returned (.agg #[.int .i64 f.1, .int .i64 f.2]) ∧ Bel w w'

/-- The head of Validate's loop. -/
structure VHead (w1 wr : World) (xs : List S53) (i : Nat) (op : List Int) (v : Value) : Prop where
  b : Bel w1 wr
  r : Kd.R (Kd.int .i64) 3 wr w1.heap.size (fun _ => True) v op
  l : op.length ≤ i
  s : vLoop xs 0 [] = vLoop (xs.drop i) i op

theorem blk2 {w : World} {b : Nat} {ty : TypeId} {a0 a1 : Value} (h : w.heap[b]? = some (.cells #[a0, a1] ty (0, 0))) :
    (w.cell? ⟨b, 0, none⟩ = some a0 ∧ w.cell? ⟨b, 1, none⟩ = some a1) ∧ ∀ o, w.frozen? ⟨b, o, none⟩ = false := by
  refine ⟨by simp [World.cell?, h], fun o => ?_⟩
  simp [World.frozen?, h]
theorem info3 : (Tryd.prog.info? 3).map (fun i => (i.zero, i.size, i.bytes)) = some (some (.int .i64 0), 1, 8) := by kernel_rfl
/-- open[len(open)-a:] and open[:len(open)-a]. -/
theorem cut49_tail (g m cap : Nat) (a : Nat) (j : Int) (hj : j = (m : Int) - (a : Int)) (ha : 0 < a) (ham : a ≤ m) (hmc : m ≤ cap) (W : World) :
    (Instr.slice 49 (.slice (some ⟨g, 0, none⟩) m cap) (some (.int .i64 j)) none none).run Tryd.prog W = .ok (.slice (some ⟨g, m - a, none⟩) a (cap - (m - a))) W := by
  subst hj
  obtain ⟨i, hi, _, hsz, _⟩ := info_parts info3
  have hel : Tryd.prog.elem 49 = 3 := by simp [Program.elem, Tryd.underlying49]
  have hu : Tryd.prog.underlying 49 = some (.slice (Tryd.prog.elem 49)) := by rw [hel]; exact Tryd.underlying49
  have e : ((m : Int) - (a : Int)) = ((m - a : Nat) : Int) := by omega
  rw [e, run_slice_l W 49 _ m cap hu .i64 ((m - a : Nat) : Int) (Int.natCast_nonneg _) (by omega), hel]
  have hne : ¬ cap = m - a := by omega
  have h2 : m - (m - a) = a := by omega
  by_cases hz : m - a = 0
  · simp [sizeOf, typeInfo, hi, hsz, sliced, Result.andThen, hne, h2, hz, Addr.add, go_sem]
    omega
  · simp [sizeOf, typeInfo, hi, hsz, sliced, Result.andThen, hne, h2, hz, Addr.add, go_sem]
theorem cut49_none (A : Option Addr) (m cap : Nat) : ∃ A9, ∀ W, (Instr.slice 49 (.slice A m cap) (some (.int .i64 (m : Int))) none none).run Tryd.prog W = .ok (.slice A9 0 (cap - m)) W := by
  obtain ⟨i, hi, _, hsz, _⟩ := info_parts info3
  obtain ⟨A', h, _⟩ := print_cut (P := Tryd.prog) 49 3 .i64 Tryd.underlying49 hi hsz A m cap m (Nat.le_refl _)
  exact ⟨A', fun W => by have := h W; rwa [Nat.sub_self] at this⟩
theorem cut49_head (A : Option Addr) (m cap a : Nat) (j : Int) (hj : j = (m : Int) - (a : Int)) (ham : a ≤ m) (hmc : m ≤ cap) (W : World) :
    (Instr.slice 49 (.slice A m cap) none (some (.int .i64 j)) none).run Tryd.prog W = .ok (.slice A (m - a) cap) W := by
  subst hj
  obtain ⟨i, hi, _, hsz, _⟩ := info_parts info3
  have hel : Tryd.prog.elem 49 = 3 := by simp [Program.elem, Tryd.underlying49]
  have hu : Tryd.prog.underlying 49 = some (.slice (Tryd.prog.elem 49)) := by rw [hel]; exact Tryd.underlying49
  have ha : (A.map fun x => x.add 0) = A := by cases A <;> simp [Addr.add]
  have e : ((m : Int) - (a : Int)) = ((m - a : Nat) : Int) := by omega
  rw [e, run_slice_h W 49 A m cap hu .i64 ((m - a : Nat) : Int) (Int.natCast_nonneg _) (by omega), hel]
  simp [sizeOf, typeInfo, hi, hsz, sliced, Result.andThen, ha, go_sem]

theorem rdOf_nat {α : Type} (d : α) (xs : List α) (n : Nat) : rdOf d xs (n : Int) = xs.getD n d := by simp [rdOf]
theorem VHead.push {w1 wr w2 w' : World} {xs : List S53} {i : Nat} {op : List Int} {v v' : Value} {n : S53} (h : VHead w1 wr xs i op v) (hb : Bel wr w2) (hg : w2.grownBy w' v.ownBlock) (hn : xs[i]? = some n) (he : vErr op i n = none)
    (hr : Kd.R (Kd.int .i64) 3 w' w1.heap.size (fun _ => True) v' (op.take (op.length - ar n.f0) ++ [(i : Int)])) : VHead w1 w' xs (i + 1) (vNext op i n) v' := by
  refine ⟨?_, hr, ?_, ?_⟩
  · exact ((Chg.refl (fun k => w1.heap.size ≤ k) w2).grown hg (fun k hk => .inl (by
      obtain ⟨inner, ho⟩ := Kd.R_own h.r
      exact own_base ho k hk))).to_bel (h.b.trans hb) (fun _ hk => hk)
  · have := h.l
    simp only [vNext, List.length_append, List.length_take, List.length_singleton]
    omega
  · rw [h.s]
    have hlt : i < xs.length := (List.getElem?_eq_some_iff.1 hn).1
    rw [List.drop_eq_getElem_cons hlt, vLoop]
    have : xs[i] = n := (List.getElem?_eq_some_iff.1 hn).2
    rw [this, he]
    rfl
theorem VHead.err {w1 wr : World} {xs : List S53} {i : Nat} {op : List Int} {v : Value} {n : S53} {f : Int × Int} (h : VHead w1 wr xs i op v) (h0 : ¬ (xs.length = 0 ∨ 40 < xs.length)) (hn : xs[i]? = some n) (he : vErr op i n = some f) : validate xs = f := by
  unfold validate
  rw [if_neg h0, h.s]
  have hlt : i < xs.length := (List.getElem?_eq_some_iff.1 hn).1
  rw [List.drop_eq_getElem_cons hlt, vLoop]
  have : xs[i] = n := (List.getElem?_eq_some_iff.1 hn).2
  rw [this, he]
theorem VHead.done {w1 wr : World} {xs : List S53} {op : List Int} {v : Value} (h : VHead w1 wr xs xs.length op v) (h0 : ¬ (xs.length = 0 ∨ 40 < xs.length)) : validate xs = if 1 < op.length then (5, -1) else (0, 0) := by
  unfold validate
  rw [if_neg h0, h.s, List.drop_length, vLoop]

set_option maxRecDepth 100000 in
set_option maxHeartbeats 8000000 in
theorem validate_any (xs : List S53) (A : Option Addr) (c : Nat) (w : World) (hC : Kd.C k53 w A xs.length xs) (hc : xs.length ≤ c) :
    Calls Tryd.prog 39 #[.agg #[.slice A xs.length c]] w (RetFault w (validate xs)) := by
  by_cases h0 : xs.length = 0
  · have hv : validate xs = (9, -1) := by simp [validate, h0]
    rw [hv]
    go_enter Tryd.func39, Tryd.ntmps39
    go_wp2_with fail
    exact bodyPost_ret (results_cell_row rfl _ _ (w.heap.size + 1) 46 #[.int .i64 9, .int .i64 (-1)] (0, 0) _ rfl (heap_alloc_at _ (by simp)) Tryd.underlying46 rfl (by kernel_rfl)) rfl ⟨rfl, (Bel.alloc _ _).thenAlloc _⟩
  · have h0b : ((xs.length : Int) == 0) = false := by simpa using h0
    by_cases h40 : 40 < xs.length
    · have hv : validate xs = (9, -1) := by simp [validate, h40]
      rw [hv]
      go_enter Tryd.func39, Tryd.ntmps39
      go_wp2_with fail
      exact bodyPost_ret (results_cell_row rfl _ _ (w.heap.size + 1) 46 #[.int .i64 9, .int .i64 (-1)] (0, 0) _ rfl (heap_alloc_at _ (by simp)) Tryd.underlying46 rfl (by kernel_rfl)) rfl ⟨rfl, (Bel.alloc _ _).thenAlloc _⟩
    · have HV := Lib.hid (by omega : ¬ (xs.length = 0 ∨ 40 < xs.length))
      have HC := Lib.hid hC
      clear hC h0
      go_enter Tryd.func39, Tryd.ntmps39
      go_wp2_with fail
      have S0 := Lib.hid ((Bel.alloc w (.cells #[.slice A xs.length c] 25)).thenAlloc (.cells #[.int .i64 0, .int .i64 0] 46))
      have S1 : ((w.alloc (.cells #[.slice A xs.length c] 25)).alloc (.cells #[.int .i64 0, .int .i64 0] 46)).heap[w.heap.size + 1]? = some (.cells #[.int .i64 0, .int .i64 0] 46 (0, 0)) := heap_alloc_at _ (by simp)
      have HB1 : ((w.alloc (.cells #[.slice A xs.length c] 25)).alloc (.cells #[.int .i64 0, .int .i64 0] 46)).cell? ⟨w.heap.size, 0, none⟩ = some (.slice A xs.length c) := by simp
      generalize ((w.alloc (.cells #[.slice A xs.length c] 25)).alloc (.cells #[.int .i64 0, .int .i64 0] 46)) = w1 at *
      obtain ⟨r0, hr0⟩ : ∃ r0, w.heap.size + 1 = r0 := ⟨_, rfl⟩
      obtain ⟨q0, hq0⟩ : ∃ q0, w.heap.size = q0 := ⟨_, rfl⟩
      rw [hr0, hq0]
      rw [hr0] at S1
      have HR0 := Lib.hid hr0
      have HS1 := Lib.hid S1
      clear hr0 hq0 HB1 S1
      go_loopw [3, 24] (fun v i wr => ∃ (k : Nat) (op : List Int), k ≤ xs.length ∧ i = .int .i64 k ∧ Hid (VHead w1 wr xs k op v)) (fun _ i _ => xs.length - (intOf i).toNat)
      case atStart => exact ⟨0, [], Nat.zero_le _, rfl, ⟨Bel.refl _, Kd.R_nil _ _ _ _ _, Nat.zero_le _, by simp⟩⟩
      case round =>
        obtain ⟨i, op, hi, rfl, hv⟩ := hrel
        obtain ⟨A3, cap3, rfl⟩ := Kd.R_slice hv.out.r
        obtain ⟨m, hm⟩ : ∃ m, op.length = m := ⟨_, rfl⟩
        rw [hm] at hv ⊢
        have HM := Lib.hid hm
        have hmi : m ≤ i := hm ▸ hv.out.l
        have hmc : m ≤ cap3 := (Kd.R_reads' hv.out.r).2.1
        clear hm
        obtain ⟨⟨z0, z1⟩, z2⟩ := blk2 (hv.out.b.heap HS1.out)
        have hrl : r0 < wr.heap.size := World.block_lt_of_cell? _ _ z0
        by_cases hlt : i < xs.length
        · obtain ⟨n, hn⟩ : ∃ n, xs[i]? = some n := ⟨_, List.getElem?_eq_getElem hlt⟩
          obtain ⟨ad, B, O, rfl, hadd, hB, c0, c1, c2, c3⟩ := at53 (Kd.C_below HC.out (S0.out.trans hv.out.b)) (i : Int) (by omega) (by omega)
          have hrd : rd_T53 xs (i : Int) = n := by simp [rd_T53, hn]
          rw [hrd] at c0 c1 c2 c3
          clear hrd
          simp only [Int.toNat_natCast] at hadd
          have HN := Lib.hid hn
          clear hn
          obtain ⟨k, n1, l, r⟩ := n
          simp only at c0 c1 c2 c3
          have HH := Lib.hid (hv.out.b.heap HS1.out)
          have HBW := Lib.hid (S0.out.trans hv.out.b)
          have hr0w : w.heap.size ≤ r0 := by have := HR0.out; omega
          by_cases hk1 : k < 1
          · have he : validate xs = (4, (i : Int)) := hv.out.err HV.out HN.out (by simp [vErr, hk1])
            rw [he]
            clear he
            go_wp2_with fail
            exact bodyPost_ret (results_cell_row rfl _ _ r0 46 #[.int .i64 4, .int .i64 i] (0, 0) _ rfl (heap_alloc_old (heap_setCell_at (heap_setCell_at HH.out 0 _) 1 _) _) Tryd.underlying46 rfl (by kernel_rfl)) rfl ⟨rfl, ((HBW.out.setCell (p := ⟨r0, 0, none⟩) hr0w _).setCell (p := ⟨r0, 1, none⟩) hr0w _).thenAlloc _⟩
          · by_cases hk16 : 16 < k
            · have he : validate xs = (4, (i : Int)) := hv.out.err HV.out HN.out (by simp [vErr, hk16])
              rw [he]
              clear he
              go_wp2_with fail
              exact bodyPost_ret (results_cell_row rfl _ _ r0 46 #[.int .i64 4, .int .i64 i] (0, 0) _ rfl (heap_alloc_old (heap_setCell_at (heap_setCell_at HH.out 0 _) 1 _) _) Tryd.underlying46 rfl (by kernel_rfl)) rfl ⟨rfl, ((HBW.out.setCell (p := ⟨r0, 0, none⟩) hr0w _).setCell (p := ⟨r0, 1, none⟩) hr0w _).thenAlloc _⟩
            · by_cases hn0 : n1 < 0
              · have he : validate xs = (3, (i : Int)) := hv.out.err HV.out HN.out (by simp [vErr, hk1, hk16, hn0])
                rw [he]
                clear he
                go_wp2_with (go_at_call 46; go_must (refine (arity_any k (by omega) (by omega) _).mono ?_); rintro e w2 ⟨rfl, nd, rfl⟩)
                exact bodyPost_ret (results_cell_row rfl _ _ r0 46 #[.int .i64 3, .int .i64 i] (0, 0) _ rfl (heap_setCell_at (heap_setCell_at (((Bel.alloc _ _).trans (Bel.drewN _ _)).heap HH.out) 0 _) 1 _) Tryd.underlying46 rfl (by kernel_rfl)) rfl ⟨rfl, ((HBW.out.trans ((Bel.alloc _ _).trans (Bel.drewN _ _))).setCell (p := ⟨r0, 0, none⟩) hr0w _).setCell (p := ⟨r0, 1, none⟩) hr0w _⟩
              · by_cases hnm : most k < n1
                · have he : validate xs = (3, (i : Int)) := hv.out.err HV.out HN.out (by simp [vErr, hk1, hk16, hn0, hnm])
                  rw [he]
                  clear he
                  go_wp2_with (go_at_call 46; go_must (refine (arity_any k (by omega) (by omega) _).mono ?_); rintro e w2 ⟨rfl, nd, rfl⟩)
                  exact bodyPost_ret (results_cell_row rfl _ _ r0 46 #[.int .i64 3, .int .i64 i] (0, 0) _ rfl (heap_setCell_at (heap_setCell_at (((Bel.alloc _ _).trans (Bel.drewN _ _)).heap HH.out) 0 _) 1 _) Tryd.underlying46 rfl (by kernel_rfl)) rfl ⟨rfl, ((HBW.out.trans ((Bel.alloc _ _).trans (Bel.drewN _ _))).setCell (p := ⟨r0, 0, none⟩) hr0w _).setCell (p := ⟨r0, 1, none⟩) hr0w _⟩
                · by_cases hk7 : k < 7
                  · have har : ar k = 0 := by simp [ar, hk7]
                    have HAR : ∀ w, Calls Tryd.prog 46 #[.int .i64 k] w (RetTwo w 0 (most k)) := fun w => by have := arity_any k (by omega) (by omega) w; rw [har] at this; exact this
                    obtain ⟨A9, hcut⟩ := cut49_none A3 m cap3
                    have hcut2 := cut49_head A3 m cap3 0 (m : Int) (by simp) (Nat.zero_le _) hmc
                    simp only [Nat.sub_zero] at hcut2
                    have TK := Lib.hid (by have := Kd.R_take hv.out.r (m := op.length - ar k) (Nat.sub_le _ _); rw [har, HM.out] at this; rw [har, HM.out]; exact this : Kd.R (Kd.int .i64) 3 wr w1.heap.size (fun _ => True) (.slice A3 (m - 0) cap3) (op.take (op.length - ar k)))
                    simp only [Nat.sub_zero] at TK
                    by_cases hl : l = 0
                    · subst hl
                      by_cases hr : r = 0
                      · subst hr
                        have HE := Lib.hid (by simp [vErr, hk1, hk16, hn0, hnm, har] : vErr op i ⟨k, n1, 0, 0⟩ = none)
                        go_wp2_with (first | (go_at_call 46; go_must (refine (HAR _).mono ?_); rintro e w2 ⟨rfl, nd, rfl⟩) | (at_builtin; go_must (refine Kd.R_append (Kd.int .i64) w1.heap.size rfl (.tmp 95) (.tmp 97) 49 3 _ 8 rfl Tryd.underlying49 info3 rfl (by decide) (by decide) (.slice A3 m cap3) (op.take (op.length - ar k)) (i : Int) _ (fun _ => True) (fun _ => False) (by simp [Act.eval]) (by simp [Act.eval]) rfl (fun _ hk => hk.elim) (fun _ _ => trivial) (Kd.R_below TK.out (((Bel.alloc _ _).trans (Bel.drewN _ _)).thenAlloc _)) (Below.refl _ _) (Nat.le_trans hv.out.b.size (Bel.size (((Bel.alloc _ _).trans (Bel.drewN _ _)).thenAlloc _))) (by rw [List.length_take, HM.out]; omega) ?_); intro v4 w4 hr4 hb4 hg4 hat4; have HP4 := Lib.hid (hv.out.push (((Bel.alloc _ _).trans (Bel.drewN _ _)).thenAlloc _) hg4 HN.out HE.out hr4); clear hr4 hb4 hg4 hat4))
                        go_roundw
                        case rel => exact ⟨i + 1, _, by omega, by go_num, HP4⟩
                        case measure => simp [intOf]; omega
                      · have hrb : (r == 0) = false := by simpa using hr
                        have he : validate xs = (5, (i : Int)) := hv.out.err HV.out HN.out (by simp [vErr, hk1, hk16, hn0, hnm, har, hr])
                        rw [he]
                        clear he
                        go_wp2_with (first | (go_at_call 46; go_must (refine (HAR _).mono ?_); rintro e w2 ⟨rfl, nd, rfl⟩))
                        first | exact bodyPost_ret (results_cell_row rfl _ _ r0 46 #[.int .i64 5, .int .i64 i] (0, 0) _ rfl (heap_setCell_at (heap_setCell_at ((((Bel.alloc _ _).trans (Bel.drewN _ _)).thenAlloc _).heap HH.out) 0 _) 1 _) Tryd.underlying46 rfl (by kernel_rfl)) rfl ⟨rfl, ((HBW.out.trans (((Bel.alloc _ _).trans (Bel.drewN _ _)).thenAlloc _)).setCell (p := ⟨r0, 0, none⟩) hr0w _).setCell (p := ⟨r0, 1, none⟩) hr0w _⟩ | exact bodyPost_ret (results_cell_row rfl _ _ r0 46 #[.int .i64 5, .int .i64 i] (0, 0) _ rfl (heap_alloc_old (heap_setCell_at (heap_setCell_at (((Bel.alloc _ _).trans (Bel.drewN _ _)).heap HH.out) 0 _) 1 _) _) Tryd.underlying46 rfl (by kernel_rfl)) rfl ⟨rfl, (((HBW.out.trans ((Bel.alloc _ _).trans (Bel.drewN _ _))).setCell (p := ⟨r0, 0, none⟩) hr0w _).setCell (p := ⟨r0, 1, none⟩) hr0w _).thenAlloc _⟩
                    · have hlb : (l == 0) = false := by simpa using hl
                      have he : validate xs = (5, (i : Int)) := hv.out.err HV.out HN.out (by simp [vErr, hk1, hk16, hn0, hnm, har, hl])
                      rw [he]
                      clear he
                      go_wp2_with (first | (go_at_call 46; go_must (refine (HAR _).mono ?_); rintro e w2 ⟨rfl, nd, rfl⟩))
                      first | exact bodyPost_ret (results_cell_row rfl _ _ r0 46 #[.int .i64 5, .int .i64 i] (0, 0) _ rfl (heap_setCell_at (heap_setCell_at ((((Bel.alloc _ _).trans (Bel.drewN _ _)).thenAlloc _).heap HH.out) 0 _) 1 _) Tryd.underlying46 rfl (by kernel_rfl)) rfl ⟨rfl, ((HBW.out.trans (((Bel.alloc _ _).trans (Bel.drewN _ _)).thenAlloc _)).setCell (p := ⟨r0, 0, none⟩) hr0w _).setCell (p := ⟨r0, 1, none⟩) hr0w _⟩ | exact bodyPost_ret (results_cell_row rfl _ _ r0 46 #[.int .i64 5, .int .i64 i] (0, 0) _ rfl (heap_alloc_old (heap_setCell_at (heap_setCell_at (((Bel.alloc _ _).trans (Bel.drewN _ _)).heap HH.out) 0 _) 1 _) _) Tryd.underlying46 rfl (by kernel_rfl)) rfl ⟨rfl, (((HBW.out.trans ((Bel.alloc _ _).trans (Bel.drewN _ _))).setCell (p := ⟨r0, 0, none⟩) hr0w _).setCell (p := ⟨r0, 1, none⟩) hr0w _).thenAlloc _⟩
                  · have hm0k : 0 < ar k := by unfold ar; rw [if_neg hk7]; split <;> omega
                    by_cases hk14 : k < 14
                    · have har : ar k = 1 := by simp [ar, hk7, hk14]
                      have HAR : ∀ w, Calls Tryd.prog 46 #[.int .i64 k] w (RetTwo w 1 (most k)) := fun w => by have := arity_any k (by omega) (by omega) w; rw [har] at this; exact this
                      by_cases hma : m < 1
                      · have hmb : ((m : Int) < 1) := by omega
                        have he : validate xs = (5, (i : Int)) := hv.out.err HV.out HN.out (by simp [vErr, hk1, hk16, hn0, hnm, har, HM.out, hma])
                        rw [he]
                        clear he
                        go_wp2_with (first | (go_at_call 46; go_must (refine (HAR _).mono ?_); rintro e w2 ⟨rfl, nd, rfl⟩))
                        first | exact bodyPost_ret (results_cell_row rfl _ _ r0 46 #[.int .i64 5, .int .i64 i] (0, 0) _ rfl (heap_setCell_at (heap_setCell_at ((((Bel.alloc _ _).trans (Bel.drewN _ _)).thenAlloc _).heap HH.out) 0 _) 1 _) Tryd.underlying46 rfl (by kernel_rfl)) rfl ⟨rfl, ((HBW.out.trans (((Bel.alloc _ _).trans (Bel.drewN _ _)).thenAlloc _)).setCell (p := ⟨r0, 0, none⟩) hr0w _).setCell (p := ⟨r0, 1, none⟩) hr0w _⟩ | exact bodyPost_ret (results_cell_row rfl _ _ r0 46 #[.int .i64 5, .int .i64 i] (0, 0) _ rfl (heap_alloc_old (heap_setCell_at (heap_setCell_at (((Bel.alloc _ _).trans (Bel.drewN _ _)).heap HH.out) 0 _) 1 _) _) Tryd.underlying46 rfl (by kernel_rfl)) rfl ⟨rfl, (((HBW.out.trans ((Bel.alloc _ _).trans (Bel.drewN _ _))).setCell (p := ⟨r0, 0, none⟩) hr0w _).setCell (p := ⟨r0, 1, none⟩) hr0w _).thenAlloc _⟩
                      · have hml : 1 ≤ m := by omega
                        obtain ⟨g3, cap3', hv3, hg3b, hg3, _⟩ := Kd.R_form hv.out.r (by rw [HM.out]; omega)
                        injection hv3 with hv3 hv4 hv5
                        subst hv3
                        clear hv4 hv5 hg3b
                        have hcut := cut49_tail g3 m cap3 1 ((m : Int) - 1) (by simp) (by omega) hml hmc
                        have hcut2 := cut49_head (some ⟨g3, 0, none⟩) m cap3 1 ((m : Int) - 1) (by simp) hml hmc
                        have TK := Lib.hid (by have := Kd.R_take hv.out.r (m := op.length - ar k) (Nat.sub_le _ _); rw [har, HM.out] at this; rw [har, HM.out]; exact this : Kd.R (Kd.int .i64) 3 wr w1.heap.size (fun _ => True) (.slice (some ⟨g3, 0, none⟩) (m - 1) cap3) (op.take (op.length - ar k)))
                        have y1 := (Kd.R_celln (0 : Int) hv.out.r ((m - 1 : Nat) : Int) (by omega) (by omega)).1
                        obtain ⟨x1, hx1⟩ : ∃ x, op.getD (op.length - 1) 0 = x := ⟨_, rfl⟩
                        rw [Int.toNat_natCast, rdOf_nat, ← HM.out, hx1, HM.out] at y1
                        have HX1 := Lib.hid hx1
                        clear hx1
                        by_cases hl : l = x1
                        · subst hl
                          by_cases hr : r = 0
                          · subst hr
                            have HE := Lib.hid (by (have X1 := HX1.out; rw [HM.out] at X1; simp only [List.getD_eq_getElem?_getD] at X1; simp [vErr, hk1, hk16, hn0, hnm, har, HM.out, hma, X1]) : vErr op i ⟨k, n1, l, 0⟩ = none)
                            go_wp2_with (first | (go_at_call 46; go_must (refine (HAR _).mono ?_); rintro e w2 ⟨rfl, nd, rfl⟩) | (at_builtin; go_must (refine Kd.R_append (Kd.int .i64) w1.heap.size rfl (.tmp 95) (.tmp 97) 49 3 _ 8 rfl Tryd.underlying49 info3 rfl (by decide) (by decide) (.slice (some ⟨g3, 0, none⟩) (m - 1) cap3) (op.take (op.length - ar k)) (i : Int) _ (fun _ => True) (fun _ => False) (by simp [Act.eval]) (by simp [Act.eval]) rfl (fun _ hk => hk.elim) (fun _ _ => trivial) (Kd.R_below TK.out (((Bel.alloc _ _).trans (Bel.drewN _ _)).thenAlloc _)) (Below.refl _ _) (Nat.le_trans hv.out.b.size (Bel.size (((Bel.alloc _ _).trans (Bel.drewN _ _)).thenAlloc _))) (by rw [List.length_take, HM.out]; omega) ?_); intro v4 w4 hr4 hb4 hg4 hat4; have HP4 := Lib.hid (hv.out.push (((Bel.alloc _ _).trans (Bel.drewN _ _)).thenAlloc _) hg4 HN.out HE.out hr4); clear hr4 hb4 hg4 hat4))
                            go_roundw
                            case rel => exact ⟨i + 1, _, by omega, by go_num, HP4⟩
                            case measure => simp [intOf]; omega
                          · have hrb : (r == 0) = false := by simpa using hr
                            have he : validate xs = (5, (i : Int)) := hv.out.err HV.out HN.out (by (have X1 := HX1.out; rw [HM.out] at X1; simp only [List.getD_eq_getElem?_getD] at X1; simp [vErr, hk1, hk16, hn0, hnm, har, HM.out, hma, X1, hr]))
                            rw [he]
                            clear he
                            go_wp2_with (first | (go_at_call 46; go_must (refine (HAR _).mono ?_); rintro e w2 ⟨rfl, nd, rfl⟩))
                            first | exact bodyPost_ret (results_cell_row rfl _ _ r0 46 #[.int .i64 5, .int .i64 i] (0, 0) _ rfl (heap_setCell_at (heap_setCell_at ((((Bel.alloc _ _).trans (Bel.drewN _ _)).thenAlloc _).heap HH.out) 0 _) 1 _) Tryd.underlying46 rfl (by kernel_rfl)) rfl ⟨rfl, ((HBW.out.trans (((Bel.alloc _ _).trans (Bel.drewN _ _)).thenAlloc _)).setCell (p := ⟨r0, 0, none⟩) hr0w _).setCell (p := ⟨r0, 1, none⟩) hr0w _⟩ | exact bodyPost_ret (results_cell_row rfl _ _ r0 46 #[.int .i64 5, .int .i64 i] (0, 0) _ rfl (heap_alloc_old (heap_setCell_at (heap_setCell_at (((Bel.alloc _ _).trans (Bel.drewN _ _)).heap HH.out) 0 _) 1 _) _) Tryd.underlying46 rfl (by kernel_rfl)) rfl ⟨rfl, (((HBW.out.trans ((Bel.alloc _ _).trans (Bel.drewN _ _))).setCell (p := ⟨r0, 0, none⟩) hr0w _).setCell (p := ⟨r0, 1, none⟩) hr0w _).thenAlloc _⟩
                        · have hlb : (l == x1) = false := by simpa using hl
                          have he : validate xs = (5, (i : Int)) := hv.out.err HV.out HN.out (by (have X1 := HX1.out; rw [HM.out] at X1; simp only [List.getD_eq_getElem?_getD] at X1; simp [vErr, hk1, hk16, hn0, hnm, har, HM.out, hma, X1, hl]))
                          rw [he]
                          clear he
                          go_wp2_with (first | (go_at_call 46; go_must (refine (HAR _).mono ?_); rintro e w2 ⟨rfl, nd, rfl⟩))
                          first | exact bodyPost_ret (results_cell_row rfl _ _ r0 46 #[.int .i64 5, .int .i64 i] (0, 0) _ rfl (heap_setCell_at (heap_setCell_at ((((Bel.alloc _ _).trans (Bel.drewN _ _)).thenAlloc _).heap HH.out) 0 _) 1 _) Tryd.underlying46 rfl (by kernel_rfl)) rfl ⟨rfl, ((HBW.out.trans (((Bel.alloc _ _).trans (Bel.drewN _ _)).thenAlloc _)).setCell (p := ⟨r0, 0, none⟩) hr0w _).setCell (p := ⟨r0, 1, none⟩) hr0w _⟩ | exact bodyPost_ret (results_cell_row rfl _ _ r0 46 #[.int .i64 5, .int .i64 i] (0, 0) _ rfl (heap_alloc_old (heap_setCell_at (heap_setCell_at (((Bel.alloc _ _).trans (Bel.drewN _ _)).heap HH.out) 0 _) 1 _) _) Tryd.underlying46 rfl (by kernel_rfl)) rfl ⟨rfl, (((HBW.out.trans ((Bel.alloc _ _).trans (Bel.drewN _ _))).setCell (p := ⟨r0, 0, none⟩) hr0w _).setCell (p := ⟨r0, 1, none⟩) hr0w _).thenAlloc _⟩
                    · have har : ar k = 2 := by simp [ar, hk7, hk14]
                      have HAR : ∀ w, Calls Tryd.prog 46 #[.int .i64 k] w (RetTwo w 2 (most k)) := fun w => by have := arity_any k (by omega) (by omega) w; rw [har] at this; exact this
                      by_cases hma : m < 2
                      · have hmb : ((m : Int) < 2) := by omega
                        have he : validate xs = (5, (i : Int)) := hv.out.err HV.out HN.out (by simp [vErr, hk1, hk16, hn0, hnm, har, HM.out, hma])
                        rw [he]
                        clear he
                        go_wp2_with (first | (go_at_call 46; go_must (refine (HAR _).mono ?_); rintro e w2 ⟨rfl, nd, rfl⟩))
                        first | exact bodyPost_ret (results_cell_row rfl _ _ r0 46 #[.int .i64 5, .int .i64 i] (0, 0) _ rfl (heap_setCell_at (heap_setCell_at ((((Bel.alloc _ _).trans (Bel.drewN _ _)).thenAlloc _).heap HH.out) 0 _) 1 _) Tryd.underlying46 rfl (by kernel_rfl)) rfl ⟨rfl, ((HBW.out.trans (((Bel.alloc _ _).trans (Bel.drewN _ _)).thenAlloc _)).setCell (p := ⟨r0, 0, none⟩) hr0w _).setCell (p := ⟨r0, 1, none⟩) hr0w _⟩ | exact bodyPost_ret (results_cell_row rfl _ _ r0 46 #[.int .i64 5, .int .i64 i] (0, 0) _ rfl (heap_alloc_old (heap_setCell_at (heap_setCell_at (((Bel.alloc _ _).trans (Bel.drewN _ _)).heap HH.out) 0 _) 1 _) _) Tryd.underlying46 rfl (by kernel_rfl)) rfl ⟨rfl, (((HBW.out.trans ((Bel.alloc _ _).trans (Bel.drewN _ _))).setCell (p := ⟨r0, 0, none⟩) hr0w _).setCell (p := ⟨r0, 1, none⟩) hr0w _).thenAlloc _⟩
                      · have hml : 2 ≤ m := by omega
                        obtain ⟨g3, cap3', hv3, hg3b, hg3, _⟩ := Kd.R_form hv.out.r (by rw [HM.out]; omega)
                        injection hv3 with hv3 hv4 hv5
                        subst hv3
                        clear hv4 hv5 hg3b
                        have hcut := cut49_tail g3 m cap3 2 ((m : Int) - 2) (by simp) (by omega) hml hmc
                        have hcut2 := cut49_head (some ⟨g3, 0, none⟩) m cap3 2 ((m : Int) - 2) (by simp) hml hmc
                        have TK := Lib.hid (by have := Kd.R_take hv.out.r (m := op.length - ar k) (Nat.sub_le _ _); rw [har, HM.out] at this; rw [har, HM.out]; exact this : Kd.R (Kd.int .i64) 3 wr w1.heap.size (fun _ => True) (.slice (some ⟨g3, 0, none⟩) (m - 2) cap3) (op.take (op.length - ar k)))
                        have y1 := (Kd.R_celln (0 : Int) hv.out.r ((m - 1 : Nat) : Int) (by omega) (by omega)).1
                        obtain ⟨x1, hx1⟩ : ∃ x, op.getD (op.length - 1) 0 = x := ⟨_, rfl⟩
                        rw [Int.toNat_natCast, rdOf_nat, ← HM.out, hx1, HM.out] at y1
                        have HX1 := Lib.hid hx1
                        clear hx1
                        have y0 := (Kd.R_celln (0 : Int) hv.out.r ((m - 2 : Nat) : Int) (by omega) (by omega)).1
                        obtain ⟨x0, hx0⟩ : ∃ x, op.getD (op.length - 2) 0 = x := ⟨_, rfl⟩
                        rw [Int.toNat_natCast, rdOf_nat, ← HM.out, hx0, HM.out] at y0
                        have HX0 := Lib.hid hx0
                        clear hx0
                        have em : m - 2 + 1 = m - 1 := by omega
                        rw [← em] at y1
                        clear em
                        by_cases hl : l = x0
                        · subst hl
                          by_cases hr : r = x1
                          · subst hr
                            have HE := Lib.hid (by (have X1 := HX1.out; have X0 := HX0.out; rw [HM.out] at X1 X0; simp only [List.getD_eq_getElem?_getD] at X1 X0; simp [vErr, hk1, hk16, hn0, hnm, har, HM.out, hma, X1, X0]) : vErr op i ⟨k, n1, l, r⟩ = none)
                            go_wp2_with (first | (go_at_call 46; go_must (refine (HAR _).mono ?_); rintro e w2 ⟨rfl, nd, rfl⟩) | (at_builtin; go_must (refine Kd.R_append (Kd.int .i64) w1.heap.size rfl (.tmp 95) (.tmp 97) 49 3 _ 8 rfl Tryd.underlying49 info3 rfl (by decide) (by decide) (.slice (some ⟨g3, 0, none⟩) (m - 2) cap3) (op.take (op.length - ar k)) (i : Int) _ (fun _ => True) (fun _ => False) (by simp [Act.eval]) (by simp [Act.eval]) rfl (fun _ hk => hk.elim) (fun _ _ => trivial) (Kd.R_below TK.out (((Bel.alloc _ _).trans (Bel.drewN _ _)).thenAlloc _)) (Below.refl _ _) (Nat.le_trans hv.out.b.size (Bel.size (((Bel.alloc _ _).trans (Bel.drewN _ _)).thenAlloc _))) (by rw [List.length_take, HM.out]; omega) ?_); intro v4 w4 hr4 hb4 hg4 hat4; have HP4 := Lib.hid (hv.out.push (((Bel.alloc _ _).trans (Bel.drewN _ _)).thenAlloc _) hg4 HN.out HE.out hr4); clear hr4 hb4 hg4 hat4))
                            go_roundw
                            case rel => exact ⟨i + 1, _, by omega, by go_num, HP4⟩
                            case measure => simp [intOf]; omega
                          · have hrb : (r == x1) = false := by simpa using hr
                            have he : validate xs = (5, (i : Int)) := hv.out.err HV.out HN.out (by (have X1 := HX1.out; have X0 := HX0.out; rw [HM.out] at X1 X0; simp only [List.getD_eq_getElem?_getD] at X1 X0; simp [vErr, hk1, hk16, hn0, hnm, har, HM.out, hma, X1, X0, hr]))
                            rw [he]
                            clear he
                            go_wp2_with (first | (go_at_call 46; go_must (refine (HAR _).mono ?_); rintro e w2 ⟨rfl, nd, rfl⟩))
                            first | exact bodyPost_ret (results_cell_row rfl _ _ r0 46 #[.int .i64 5, .int .i64 i] (0, 0) _ rfl (heap_setCell_at (heap_setCell_at ((((Bel.alloc _ _).trans (Bel.drewN _ _)).thenAlloc _).heap HH.out) 0 _) 1 _) Tryd.underlying46 rfl (by kernel_rfl)) rfl ⟨rfl, ((HBW.out.trans (((Bel.alloc _ _).trans (Bel.drewN _ _)).thenAlloc _)).setCell (p := ⟨r0, 0, none⟩) hr0w _).setCell (p := ⟨r0, 1, none⟩) hr0w _⟩ | exact bodyPost_ret (results_cell_row rfl _ _ r0 46 #[.int .i64 5, .int .i64 i] (0, 0) _ rfl (heap_alloc_old (heap_setCell_at (heap_setCell_at (((Bel.alloc _ _).trans (Bel.drewN _ _)).heap HH.out) 0 _) 1 _) _) Tryd.underlying46 rfl (by kernel_rfl)) rfl ⟨rfl, (((HBW.out.trans ((Bel.alloc _ _).trans (Bel.drewN _ _))).setCell (p := ⟨r0, 0, none⟩) hr0w _).setCell (p := ⟨r0, 1, none⟩) hr0w _).thenAlloc _⟩
                        · have hlb : (l == x0) = false := by simpa using hl
                          have he : validate xs = (5, (i : Int)) := hv.out.err HV.out HN.out (by (have X1 := HX1.out; have X0 := HX0.out; rw [HM.out] at X1 X0; simp only [List.getD_eq_getElem?_getD] at X1 X0; simp [vErr, hk1, hk16, hn0, hnm, har, HM.out, hma, X1, X0, hl]))
                          rw [he]
                          clear he
                          go_wp2_with (first | (go_at_call 46; go_must (refine (HAR _).mono ?_); rintro e w2 ⟨rfl, nd, rfl⟩))
                          first | exact bodyPost_ret (results_cell_row rfl _ _ r0 46 #[.int .i64 5, .int .i64 i] (0, 0) _ rfl (heap_setCell_at (heap_setCell_at ((((Bel.alloc _ _).trans (Bel.drewN _ _)).thenAlloc _).heap HH.out) 0 _) 1 _) Tryd.underlying46 rfl (by kernel_rfl)) rfl ⟨rfl, ((HBW.out.trans (((Bel.alloc _ _).trans (Bel.drewN _ _)).thenAlloc _)).setCell (p := ⟨r0, 0, none⟩) hr0w _).setCell (p := ⟨r0, 1, none⟩) hr0w _⟩ | exact bodyPost_ret (results_cell_row rfl _ _ r0 46 #[.int .i64 5, .int .i64 i] (0, 0) _ rfl (heap_alloc_old (heap_setCell_at (heap_setCell_at (((Bel.alloc _ _).trans (Bel.drewN _ _)).heap HH.out) 0 _) 1 _) _) Tryd.underlying46 rfl (by kernel_rfl)) rfl ⟨rfl, (((HBW.out.trans ((Bel.alloc _ _).trans (Bel.drewN _ _))).setCell (p := ⟨r0, 0, none⟩) hr0w _).setCell (p := ⟨r0, 1, none⟩) hr0w _).thenAlloc _⟩
        · obtain rfl : i = xs.length := by omega
          have HH := Lib.hid (hv.out.b.heap HS1.out)
          have HBW := Lib.hid (S0.out.trans hv.out.b)
          have hr0w : w.heap.size ≤ r0 := by have := HR0.out; omega
          have he := hv.out.done HV.out
          rw [HM.out] at he
          by_cases hm1 : 1 < m
          · rw [if_pos hm1] at he
            have HE := Lib.hid he
            clear he
            go_wp2_with fail
            exact bodyPost_ret (results_cell_row rfl _ _ r0 46 #[.int .i64 5, .int .i64 (-1)] (0, 0) _ rfl (heap_setCell_at (heap_setCell_at HH.out 0 _) 1 _) Tryd.underlying46 rfl (by kernel_rfl)) rfl ⟨by rw [HE.out], (HBW.out.setCell (p := ⟨r0, 0, none⟩) hr0w _).setCell (p := ⟨r0, 1, none⟩) hr0w _⟩
          · rw [if_neg hm1] at he
            have HE := Lib.hid he
            clear he
            go_wp2_with fail
            exact bodyPost_ret (results_cell_row rfl _ _ r0 46 #[.int .i64 0, .int .i64 0] (0, 0) _ rfl (heap_setCell_at (heap_setCell_at HH.out 0 _) 1 _) Tryd.underlying46 rfl (by kernel_rfl)) rfl ⟨by rw [HE.out], (HBW.out.setCell (p := ⟨r0, 0, none⟩) hr0w _).setCell (p := ⟨r0, 1, none⟩) hr0w _⟩

end Go.Proofs.YtijaoedlhmdpnaaDoor
/- revset.Eval walked. -/
namespace Go.Proofs.YtijaoedlhmdpnaaDoor
open Go.RowKit Go.Proofs.YtijaoedlhmdpnaaDoor.PTopQueriesKept Go.Proofs.YtijaoedlhmdpnaaDoorW.PrintWords

/-- An error comes back, and no selection. -/
def RetErr (w : World) (e : Ending) (w' : World) : Prop := ∃ c i, c ≠ 0 ∧ e = .returned (.tuple #[.slice none 0 0, .agg #[.int .i64 c, .int .i64 i]]) ∧ Bel w w'
/-- A selection comes back, and no error. -/
def RetEv (w : World) (n : Nat) (xs : List Bool) (e : Ending) (w' : World) : Prop := ∃ A c, e = .returned (.tuple #[.slice A n c, .agg #[.int .i64 0, .int .i64 0]]) ∧ SelV w' n (.slice A n c) xs ∧ Bel w w'

/-- Two results: a slot, and a struct in a block. -/
theorem results_tmp_cell {P : Program} {fn : Func} {u p : Tmp} {ty : TypeId} (h : fn.results = #[.tmp u, .cell p ty]) (tmps : Array Value) (w : World) (g : Nat) (t : TypeId) (cs : Array Value) (fr : Nat × Nat) (d : TypeDesc)
    (hp : tmps.getD p undef = .pointer (some ⟨g, 0, none⟩)) (hg : w.heap[g]? = some (.cells cs t fr))
    (hu : P.underlying ty = some d) (hd : (match d with | .struct _ | .array _ _ => true | _ => false) = true) (hi : (P.info? ty).map (·.size) = some cs.size) :
    (results fn tmps).run P w = .ok (.tuple #[tmps.getD u undef, .agg cs]) w := by
  have hp' : tmps[p]?.getD undef = .pointer (some ⟨g, 0, none⟩) := by simpa using hp
  simp [results, h, hp', asAddr, run_loadVar_row w g t ty cs fr d hg hu hd hi]

/-- Blocks of results that were 0, 0 hold a, b behind two stores. -/
theorem blk46 {w : World} {g : Nat} (h : w.heap[g]? = some (.cells #[.int .i64 0, .int .i64 0] 46 (0, 0))) (a b : Int) :
    ((w.setCell ⟨g, 0, none⟩ (.int .i64 a)).setCell ⟨g, 1, none⟩ (.int .i64 b)).heap[g]? = some (.cells #[.int .i64 a, .int .i64 b] 46 (0, 0)) :=
  heap_setCell_at (heap_setCell_at h 0 _) 1 _

theorem hist_any (cs : List S51) (A : Option Addr) (c : Nat) (w : World) (hC : Kd.C k51 w A cs.length cs) (hc : cs.length ≤ c) (k : Nat) (r : Int × Int) (hk : history_Validate.f k cs = some r) : Calls Tryd.prog 45 #[.slice A cs.length c] w (RetFault w r) :=
  history_Validate.calls k A c cs r.1 r.2 w hC hc hk

set_option maxRecDepth 100000 in
set_option maxHeartbeats 4000000 in
theorem Eval_hist (cs : List S51) (A : Option Addr) (c : Nat) (vq : Value) (w : World) (hC : Kd.C k51 w A cs.length cs) (hc : cs.length ≤ c) (k : Nat) (r1 r2 : Int) (hk : history_Validate.f k cs = some (r1, r2)) (hr : r1 ≠ 0) :
    Calls Tryd.prog 36 #[.slice A cs.length c, .agg #[vq]] w (RetErr w) := by
  have HC := Lib.hid hC
  have HCC := Lib.hid hc
  have HK := Lib.hid hk
  clear hC hc hk
  have e1 : (r1 == 0) = false := by simpa using hr
  have e2 : (0 == r1) = false := by simpa using fun h : 0 = r1 => hr h.symm
  go_enter Tryd.func36, Tryd.ntmps36
  go_wp2_with (first | (go_at_call 45; go_must (refine (hist_any cs A c _ (Kd.C_below HC.out ((Bel.alloc _ _).thenAlloc _)) HCC.out k _ HK.out).mono ?_); rintro e w1 ⟨rfl, hb1⟩; have h5 := hb1.heap (heap_alloc_at (b := w.heap.size + 1) (.cells #[.int .i64 0, .int .i64 0] 46 (0, 0)) (World.size_alloc _ _).symm); obtain ⟨⟨c0, c1⟩, f0⟩ := blk2 h5; have hlt5 : w.heap.size + 1 < w1.heap.size := (Array.getElem?_eq_some_iff.1 h5).1; have HH5 := Lib.hid h5; have HB1 := Lib.hid hb1; clear hb1 h5))
  go_region
  all_goals
    go_wp2_with fail
    refine bodyPost_ret (results_tmp_cell rfl _ _ (w.heap.size + 1) 46 #[.int .i64 r1, .int .i64 r2] (0, 0) _ rfl (heap_alloc_old (blk46 HH5.out r1 r2) _) Tryd.underlying46 rfl (by kernel_rfl)) rfl ?_
    exact ⟨r1, r2, hr, rfl, ((((((Bel.alloc w _).thenAlloc _).trans HB1.out).setCell (by simp) _).setCell (by simp) _).thenAlloc _).trans (Bel.drew _)⟩

set_option maxRecDepth 100000 in
set_option maxHeartbeats 4000000 in
theorem Eval_query (cs : List S51) (A : Option Addr) (c : Nat) (xs : List S53) (A1 : Option Addr) (c1 : Nat) (w : World) (hC : Kd.C k51 w A cs.length cs) (hc : cs.length ≤ c) (k : Nat) (hk : history_Validate.f k cs = some (0, 0))
    (hC1 : Kd.C k53 w A1 xs.length xs) (hc1 : xs.length ≤ c1) (r1 r2 : Int) (hv : validate xs = (r1, r2)) (hr : r1 ≠ 0) :
    Calls Tryd.prog 36 #[.slice A cs.length c, .agg #[.slice A1 xs.length c1]] w (RetErr w) := by
  have HC := Lib.hid hC
  have HCC := Lib.hid hc
  have HK := Lib.hid hk
  have HC1 := Lib.hid hC1
  have HCC1 := Lib.hid hc1
  have HV := Lib.hid hv
  clear hC hc hk hC1 hc1 hv
  have e1 : (r1 == 0) = false := by simpa using hr
  have e2 : (0 == r1) = false := by simpa using fun h : 0 = r1 => hr h.symm
  go_enter Tryd.func36, Tryd.ntmps36
  go_wp2_with (first | (go_at_call 45; go_must (refine (hist_any cs A c _ (Kd.C_below HC.out ((Bel.alloc _ _).thenAlloc _)) HCC.out k _ HK.out).mono ?_); rintro e w1 ⟨rfl, hb1⟩; have h3 := hb1.heap (heap_alloc_old (heap_alloc_new w (.cells #[.slice A1 xs.length c1] 25 (0, 0))) _); have h5 := hb1.heap (heap_alloc_at (b := w.heap.size + 1) (.cells #[.int .i64 0, .int .i64 0] 46 (0, 0)) (World.size_alloc _ _).symm); obtain ⟨d0, g0⟩ := blk1 h3; have hlt3 : w.heap.size < w1.heap.size := (Array.getElem?_eq_some_iff.1 h3).1; have hlt5 : w.heap.size + 1 < w1.heap.size := (Array.getElem?_eq_some_iff.1 h5).1; have HH5 := Lib.hid h5; have HB1 := Lib.hid (((Bel.alloc w _).thenAlloc _).trans hb1); clear hb1 h5 h3) | (go_at_call 39; go_must (refine (validate_any xs A1 c1 _ (Kd.C_below HC1.out (HB1.out.thenAlloc _)) HCC1.out).mono ?_); rw [HV.out]; rintro e w2 ⟨rfl, hb2⟩; have h5 := hb2.heap (heap_alloc_old HH5.out (.cells #[.int .i64 0, .int .i64 0] 46 (0, 0))); obtain ⟨⟨c0, c1'⟩, f0⟩ := blk2 h5; have hlt6 : w.heap.size + 1 < w2.heap.size := (Array.getElem?_eq_some_iff.1 h5).1; have HH6 := Lib.hid h5; have HB2 := Lib.hid ((HB1.out.thenAlloc _).trans hb2); clear hb2 h5))
  go_region
  all_goals
    go_wp2_with fail
    refine bodyPost_ret (results_tmp_cell rfl _ _ (w.heap.size + 1) 46 #[.int .i64 r1, .int .i64 (-2)] (0, 0) _ rfl (heap_alloc_old (blk46 HH6.out r1 (-2)) _) Tryd.underlying46 rfl (by kernel_rfl)) rfl ?_
    exact ⟨r1, -2, hr, rfl, (((HB2.out.setCell (by simp) _).setCell (by simp) _).thenAlloc _).trans (Bel.drew _)⟩

theorem grownBy_set (w : World) (a : Addr) (u : Value) : w.grownBy (w.setCell a u) (some a.block) :=
  ⟨rfl, rfl, rfl, by simp, fun k _ hk => Below.heap_setCell w a u k (fun e => hk (by rw [e]))⟩

/-- Slices of n elements. -/
def kw (n : Nat) : Kd (Option Addr × Nat) := Kd.scalar (fun p => Value.slice p.1 n p.2) (fun _ => rfl)
theorem kw_mkM (n : Nat) (w : World) (base : Nat) (ok : Nat → Prop) (p : Option Addr × Nat) : (kw n).M w base ok p [.slice p.1 n p.2] := rfl
theorem info44 : (Tryd.prog.info? 44).map (fun i => (i.zero, i.size, i.bytes)) = some (some (.slice none 0 0), 1, 24) := by kernel_rfl

/-- Eval under way: the selections of the nodes so far. -/
structure AllSt (w wr : World) (n b5 : Nat) (v : Value) (ps : List (Option Addr × Nat)) (sels : List (List Bool)) : Prop where
  ge : w.heap.size ≤ b5
  blk : wr.heap[b5]? = some (.cells #[.int .i64 0, .int .i64 0] 46 (0, 0))
  row : Kd.R (kw n) 44 wr w.heap.size (fun _ => True) v ps
  len : ps.length = sels.length
  sel : ∀ j (hj : j < ps.length), SelV wr n (.slice ps[j].1 n ps[j].2) (sels.getD j [])
  bel : Bel w wr
theorem AllSt.to {w wr w2 : World} {n b5 : Nat} {v : Value} {ps : List (Option Addr × Nat)} {sels : List (List Bool)} (h : AllSt w wr n b5 v ps sels) (hb : Bel wr w2) : AllSt w w2 n b5 v ps sels :=
  ⟨h.ge, hb.heap h.blk, Kd.R_below h.row hb, h.len, fun j hj => (h.sel j hj).bel hb, h.bel.trans hb⟩
theorem AllSt.add {w w2 w4 : World} {n b5 : Nat} {v v4 : Value} {ps : List (Option Addr × Nat)} {sels : List (List Bool)} {p : Option Addr × Nat} {x : List Bool} (h : AllSt w w2 n b5 v ps sels) (hs : SelV w2 n (.slice p.1 n p.2) x)
    (hg : w2.grownBy w4 v.ownBlock) (hr : Kd.R (kw n) 44 w4 w.heap.size (fun _ => True) v4 (ps ++ [p])) (hb : Below w.heap.size w w4) : AllSt w w4 n b5 v4 (ps ++ [p]) (sels ++ [x]) := by
  obtain ⟨inner, ho⟩ := Kd.R_own h.row
  have hty : ∀ k, v.ownBlock = some k → ∃ cells, w2.heap[k]? = some (.cells cells 44 (0, 0)) := fun k hk => own_typed ho k hk
  have hne : ∀ k cells, v.ownBlock = some k → w2.heap[k]? ≠ some (.cells cells 4 (0, 0)) := by
    intro k cells hk he
    obtain ⟨c2, h2⟩ := hty k hk
    rw [h2] at he; injection he with he; injection he with _ e; exact absurd e (by decide)
  refine ⟨h.ge, ?_, hr, by simp [h.len], fun j hj => ?_, hb⟩
  · refine (hg.block b5 (Array.getElem?_eq_some_iff.1 h.blk).1 (fun e => ?_)).trans h.blk
    obtain ⟨c2, h2⟩ := hty b5 e.symm
    rw [h.blk] at h2; injection h2 with h2; injection h2 with _ e; exact absurd e (by decide)
  · by_cases hjl : j < ps.length
    · have := (h.sel j hjl).grown hg hne
      rw [List.getElem_append_left hjl, List.getD_eq_getElem?_getD, List.getElem?_append_left (by rw [← h.len]; exact hjl), ← List.getD_eq_getElem?_getD]
      exact this
    · have hj' : j = ps.length := by simp at hj; omega
      subst hj'
      have := hs.grown hg hne
      simpa [h.len] using this
theorem AllSt.cell {w wr : World} {n b5 g m c : Nat} {ps : List (Option Addr × Nat)} {sels : List (List Bool)} (h : AllSt w wr n b5 (.slice (some ⟨g, 0, none⟩) m c) ps sels) (j : Nat) (hj : j < m) :
    ∃ p : Option Addr × Nat, wr.cell? ⟨g, j, none⟩ = some (.slice p.1 n p.2) ∧ SelV wr n (.slice p.1 n p.2) (sels.getD j []) := by
  have hm := (Kd.R_reads' h.row).1
  have h1 := (Kd.R_celln (none, 0) h.row (j : Int) (by omega) (by omega)).1
  rw [rdOf, Int.toNat_natCast] at h1
  refine ⟨ps.getD j (none, 0), h1, ?_⟩
  have := h.sel j (by omega)
  rw [List.getD_eq_getElem?_getD, List.getElem?_eq_getElem (by omega), Option.getD_some]
  exact this

set_option maxRecDepth 100000 in
set_option maxHeartbeats 4000000 in
theorem Eval_ok (cs : List S51) (A : Option Addr) (c : Nat) (xs : List S53) (A1 : Option Addr) (c1 : Nat) (w : World) (hC : Kd.C k51 w A cs.length cs) (hc : cs.length ≤ c) (k : Nat) (hk : history_Validate.f k cs = some (0, 0)) (hvh : VH cs)
    (hC1 : Kd.C k53 w A1 xs.length xs) (hc1 : xs.length ≤ c1) (hv : validate xs = (0, 0)) (hx0 : 0 < xs.length) (hx40 : xs.length ≤ 40)
    (hnd : ∀ i, i < xs.length → 1 ≤ (xs.getD i z53).f0 ∧ (xs.getD i z53).f0 ≤ 16 ∧ (7 ≤ (xs.getD i z53).f0 → 0 ≤ (xs.getD i z53).f2 ∧ (xs.getD i z53).f2 < (i : Int) ∧ 0 ≤ (xs.getD i z53).f3 ∧ (xs.getD i z53).f3 < (i : Int))) :
    Calls Tryd.prog 36 #[.slice A cs.length c, .agg #[.slice A1 xs.length c1]] w (RetEv w cs.length ((evList cs xs).getD (xs.length - 1) [])) := by
  have HC := Lib.hid hC
  have HCC := Lib.hid hc
  have HK := Lib.hid hk
  have HVH := Lib.hid hvh
  have HC1 := Lib.hid hC1
  have HCC1 := Lib.hid hc1
  have HV := Lib.hid hv
  have HND := Lib.hid hnd
  clear hC hc hk hvh hC1 hc1 hv hnd
  go_enter Tryd.func36, Tryd.ntmps36
  go_wp2_with (first | (go_at_call 45; go_must (refine (hist_any cs A c _ (Kd.C_below HC.out ((Bel.alloc _ _).thenAlloc _)) HCC.out k _ HK.out).mono ?_); rintro e w1 ⟨rfl, hb1⟩; have h3 := hb1.heap (heap_alloc_old (heap_alloc_new w (.cells #[.slice A1 xs.length c1] 25 (0, 0))) _); have h5 := hb1.heap (heap_alloc_at (b := w.heap.size + 1) (.cells #[.int .i64 0, .int .i64 0] 46 (0, 0)) (World.size_alloc _ _).symm); obtain ⟨d0, g0⟩ := blk1 h3; have hlt3 : w.heap.size < w1.heap.size := (Array.getElem?_eq_some_iff.1 h3).1; have hlt5 : w.heap.size + 1 < w1.heap.size := (Array.getElem?_eq_some_iff.1 h5).1; have HH3 := Lib.hid h3; have HH5 := Lib.hid h5; have HB1 := Lib.hid (((Bel.alloc w _).thenAlloc _).trans hb1); clear hb1 h5 h3) | (go_at_call 39; go_must (refine (validate_any xs A1 c1 _ (Kd.C_below HC1.out (HB1.out.thenAlloc _)) HCC1.out).mono ?_); rw [HV.out]; rintro e w2 ⟨rfl, hb2⟩; have h3 := hb2.heap (heap_alloc_old HH3.out (.cells #[.int .i64 0, .int .i64 0] 46 (0, 0))); have h5 := hb2.heap (heap_alloc_old HH5.out (.cells #[.int .i64 0, .int .i64 0] 46 (0, 0))); obtain ⟨d1, g1⟩ := blk1 h3; have hlt4 : w.heap.size < w2.heap.size := (Array.getElem?_eq_some_iff.1 h3).1; have hlt6 : w.heap.size + 1 < w2.heap.size := (Array.getElem?_eq_some_iff.1 h5).1; have HH6 := Lib.hid h5; have HB2 := Lib.hid ((HB1.out.thenAlloc _).trans hb2); clear hb2 h5 h3))
  have HS : Hid (AllSt w (w2.alloc (Obj.cells #[.int .i64 0, .int .i64 0] 46 (0, 0))) cs.length (w.heap.size + 1) (.slice none 0 0) [] (evList cs (xs.take 0))) := by
    refine Lib.hid ⟨by omega, heap_alloc_old HH6.out _, Kd.R_nil _ _ _ _ _, rfl, fun j hj => absurd hj (by simp), HB2.out.thenAlloc _⟩
  clear d0 g0 d1 g1 hlt3 hlt4 hlt5 hlt6 HH3 HH5 HH6 HB1 HB2
  obtain ⟨b5, hb5⟩ : ∃ b5, w.heap.size + 1 = b5 := ⟨_, rfl⟩
  rw [hb5] at HS ⊢
  clear hb5
  generalize w2.alloc (Obj.cells #[.int .i64 0, .int .i64 0] 46 (0, 0)) = W at *
  go_loopw [8, 32] (fun v iv wr => ∃ (i : Nat) (ps : List (Option Addr × Nat)) (A8 : Option Addr) (c8 : Nat), i ≤ xs.length ∧ v = .slice A8 i c8 ∧ iv = .int .i64 i ∧ Hid (AllSt w wr cs.length b5 (.slice A8 i c8) ps (evList cs (xs.take i)))) (fun _ iv _ => xs.length - (intOf iv).toNat)
  case atStart => exact ⟨0, [], none, 0, Nat.zero_le _, rfl, rfl, HS⟩
  case round =>
    obtain ⟨i, ps, A8, c8, hi, rfl, rfl, HE⟩ := hrel
    by_cases hlt : i < xs.length
    · obtain ⟨hk1, hk16, hk7⟩ := HND.out i hlt
      obtain ⟨ad, B, O, rfl, hadd, hB, n0, n1, n2, n3⟩ := at53 (Kd.C_below HC1.out HE.out.bel) (i : Int) (by omega) (by omega)
      rw [Int.toNat_natCast] at hadd
      have hrd : rd_T53 xs (i : Int) = xs.getD i z53 := by simp [rd_T53]
      rw [hrd] at n0 n1 n2 n3
      clear hrd
      have HST := Lib.hid (evList_take cs xs i hlt)
      generalize hnode : xs.getD i z53 = nd at *
      obtain ⟨kk, num, lf, rt⟩ := nd
      clear hnode
      simp only at hk1 hk16 hk7 n0 n1 n2 n3
      have HPL : ∀ p : Option Addr × Nat, Hid ((ps ++ [p]).length = i + 1) := fun p => Lib.hid (by rw [List.length_append, ← (Kd.R_reads' HE.out.row).1]; rfl)
      have HLN : Hid ((ps.length + 1) * 24 ≤ 140737488355328) := Lib.hid (by rw [← (Kd.R_reads' HE.out.row).1]; omega)
      by_cases h6 : kk ≤ 6
      · have HAR : ∀ w, Calls Tryd.prog 46 #[.int .i64 kk] w (RetTwo w 0 (most kk)) := fun w => by
          have h := arity_any kk hk1 hk16 w
          rwa [show ar kk = 0 by simp [ar]; omega] at h
        clear hk7
        unfold evStep at HST
        simp only at HST
        rw [evalF_leaf kk num h6 cs _ _ [] []] at HST
        have H7 := Lib.hid (by omega : kk < 7)
        have H14 := Lib.hid (by omega : kk < 14)
        go_wp2_with (first | (go_at_call 46; go_must (refine (HAR _).mono ?_); rintro e w3 ⟨rfl, nd, rfl⟩) | (go_at_call 47; go_must (refine (eval_any kk num lf rt hk1 hk16 cs A c [] [] _ _ _ HVH.out (Kd.C_below HC.out (HE.out.bel.trans ((Bel.alloc wr _).trans (Bel.drewN _ _)))) HCC.out (fun h => absurd h (Int.not_le.2 H7.out)) (fun h => absurd h (Int.not_le.2 H14.out))).mono ?_); rintro e w4 ⟨A4, c4, rfl, hs4, hb4⟩; have HE4 := Lib.hid (HE.out.to (((Bel.alloc wr _).trans (Bel.drewN _ _)).trans hb4)); have HS4 := Lib.hid hs4; clear hs4 hb4) | (at_builtin; go_must (refine Kd.R_append (w0 := w) (kw cs.length) w.heap.size rfl (.tmp 54) (.tmp 60) 66 44 (.slice none 0 0) 24 rfl Tryd.underlying66 info44 rfl Nat.one_pos (by decide) (.slice A8 i c8) ps (A4, c4) _ (fun _ => True) (fun _ => False) (by simp [Act.eval]) (by simp [Act.eval]) (kw_mkM _ _ _ _ _) (fun _ hk => hk.elim) (fun _ _ => trivial) HE4.out.row HE4.out.bel HE4.out.bel.size HLN.out ?_); intro v5 w5 hr5 hb5 hg5 hat5; have HP := Lib.hid (HE4.out.add HS4.out hg5 hr5 hb5); obtain ⟨A5, c5, hv5⟩ := Kd.R_slice hr5; rw [(HPL _).out] at hv5; subst hv5; clear hr5 hb5 hg5 hat5))
        go_roundw
        case rel => exact ⟨i + 1, ps ++ [(A4, c4)], A5, c5, by omega, rfl, by go_num, Lib.hid (by rw [HST.out]; exact HP.out)⟩
        case measure => simp [intOf]; omega
      · obtain ⟨ha0, hai, hb0, hbi⟩ := hk7 (by omega)
        clear hk7
        obtain ⟨a, rfl⟩ := Int.eq_ofNat_of_zero_le ha0
        obtain ⟨b, rfl⟩ := Int.eq_ofNat_of_zero_le hb0
        have har := arity_any kk hk1 hk16
        have hm0 : (0 : Int) < (ar kk : Int) := by unfold ar; split <;> (try split) <;> omega
        generalize ((ar kk : Nat) : Int) = m at *
        have HAR : ∀ w, Calls Tryd.prog 46 #[.int .i64 kk] w (RetTwo w m (most kk)) := har
        clear har
        unfold evStep at HST
        simp only [Int.toNat_natCast] at HST
        obtain ⟨g8, cap8, hform, _⟩ := Kd.R_form HE.out.row (by rw [← (Kd.R_reads' HE.out.row).1]; omega)
        injection hform with hform1 hform2 hform3
        subst hform1
        clear hform2 hform3
        obtain ⟨⟨Aa, ca⟩, hca, hsa⟩ := HE.out.cell a (by omega)
        obtain ⟨⟨Ab, cb⟩, hcb, hsb⟩ := HE.out.cell b (by omega)
        simp only at hca hsa hcb hsb
        have HSA := Lib.hid hsa
        have HSB := Lib.hid hsb
        clear hsa hsb
        have hlg : g8 < wr.heap.size := Kd.R_lt HE.out.row g8 rfl
        go_wp2_with (first | (go_at_call 46; go_must (refine (HAR _).mono ?_); rintro e w3 ⟨rfl, nd, rfl⟩))
        go_quiet (fail)
        go_wp2_with (first | (go_at_call 47; go_must (refine (eval_any kk num a b hk1 hk16 cs A c ((evList cs (xs.take i)).getD a []) ((evList cs (xs.take i)).getD b []) _ _ _ HVH.out (Kd.C_below HC.out (HE.out.bel.trans ((Bel.alloc wr _).trans (Bel.drewN _ _)))) HCC.out (fun _ => HSA.out.bel ((Bel.alloc wr _).trans (Bel.drewN _ _))) (fun _ => HSB.out.bel ((Bel.alloc wr _).trans (Bel.drewN _ _)))).mono ?_); rintro e w4 ⟨A4, c4, rfl, hs4, hb4⟩; have HE4 := Lib.hid (HE.out.to (((Bel.alloc wr _).trans (Bel.drewN _ _)).trans hb4)); have HS4 := Lib.hid hs4; clear hs4 hb4) | (at_builtin; go_must (refine Kd.R_append (w0 := w) (kw cs.length) w.heap.size rfl (.tmp 54) (.tmp 60) 66 44 (.slice none 0 0) 24 rfl Tryd.underlying66 info44 rfl Nat.one_pos (by decide) (.slice (some ⟨g8, 0, none⟩) i c8) ps (A4, c4) _ (fun _ => True) (fun _ => False) (by simp [Act.eval]) (by simp [Act.eval]) (kw_mkM _ _ _ _ _) (fun _ hk => hk.elim) (fun _ _ => trivial) HE4.out.row HE4.out.bel HE4.out.bel.size HLN.out ?_); intro v5 w5 hr5 hb5 hg5 hat5; have HP := Lib.hid (HE4.out.add HS4.out hg5 hr5 hb5); obtain ⟨A5, c5, hv5⟩ := Kd.R_slice hr5; rw [(HPL _).out] at hv5; subst hv5; clear hr5 hb5 hg5 hat5))
        go_roundw
        case rel => exact ⟨i + 1, ps ++ [(A4, c4)], A5, c5, by omega, rfl, by go_num, Lib.hid (by rw [HST.out]; exact HP.out)⟩
        case measure => simp [intOf]; omega
    · obtain rfl : i = xs.length := by omega
      obtain ⟨g8, cap8, hform, _⟩ := Kd.R_form HE.out.row (by rw [← (Kd.R_reads' HE.out.row).1]; omega)
      injection hform with hform1 hform2 hform3
      subst hform1
      clear hform2 hform3
      obtain ⟨⟨Aa, ca⟩, hca, hsa⟩ := HE.out.cell (xs.length - 1) (by omega)
      simp only at hca hsa
      have HSA := Lib.hid hsa
      clear hsa
      obtain ⟨⟨c0, c1'⟩, f0⟩ := blk2 HE.out.blk
      have hi1 : ((xs.length - 1 : Nat) : Int) = (xs.length : Int) - 1 := by omega
      go_wp2_with fail
      refine bodyPost_ret (results_tmp_cell rfl _ _ b5 46 #[.int .i64 0, .int .i64 0] (0, 0) _ rfl (blk46 HE.out.blk 0 0) Tryd.underlying46 rfl (by kernel_rfl)) rfl ?_
      have hxs := HSA.out
      rw [List.take_length] at hxs
      have hne : ∀ (W : World) (cells : Array Value), W.heap[b5]? = some (.cells cells 46 (0, 0)) → ∀ k cells', some b5 = some k → W.heap[k]? ≠ some (.cells cells' 4 (0, 0)) := by
        intro W cells hW k cells' hk he
        cases hk
        rw [hW] at he; injection he with he; injection he with _ e; exact absurd e (by decide)
      have h1 := hxs.grown (grownBy_set wr ⟨b5, 0, none⟩ (.int .i64 0)) (hne _ _ HE.out.blk)
      have h2 := h1.grown (grownBy_set _ ⟨b5, 1, none⟩ (.int .i64 0)) (hne _ _ (heap_setCell_at HE.out.blk 0 _))
      exact ⟨Aa, ca, rfl, h2, (HE.out.bel.setCell HE.out.ge _).setCell HE.out.ge _⟩

/-- revset.Eval: an error, or what the query's tree selects; then the history is right, and the query a tree's. -/
theorem Eval_any (cs : List S51) (A : Option Addr) (c : Nat) (xs : List S53) (A1 : Option Addr) (c1 : Nat) (w : World) (hC : Kd.C k51 w A cs.length cs) (hc : cs.length ≤ c) (hC1 : Kd.C k53 w A1 xs.length xs) (hc1 : xs.length ≤ c1) :
    Calls Tryd.prog 36 #[.slice A cs.length c, .agg #[.slice A1 xs.length c1]] w (RetErr w) ∨
      ∃ t, VH cs ∧ Sh t ∧ NOk t ∧ t.size ≤ 40 ∧ xs = t.post 0 ∧ Calls Tryd.prog 36 #[.slice A cs.length c, .agg #[.slice A1 xs.length c1]] w (RetEv w cs.length (ev cs t)) := by
  obtain ⟨k, ⟨r1, r2⟩, hk, hr⟩ := hist_f cs
  rcases hr with ⟨he, hvh⟩ | hr
  · rw [he] at hk
    by_cases hv : (validate xs).1 = 0
    · refine .inr ?_
      have hv0 : validate xs = (0, 0) := validate_zero hv
      obtain ⟨t, hs, hn, hz, hx⟩ := validate_tree hv0
      refine ⟨t, hvh, hs, hn, hz, hx, ?_⟩
      have hsz : 0 < t.size := by cases hs <;> simp [RT.size]
      have hl : xs.length = t.size := by rw [hx, RT.post_length]
      have h := Eval_ok cs A c xs A1 c1 w hC hc k hk hvh hC1 hc1 hv0 (by omega) (by omega) (fun i hi => by
        have := post_nodes hs 0 i (xs.getD i z53) (by rw [← hx]; simp [hi])
        simpa using this)
      rw [hl, hx, evList_post cs hs, evs_last cs hs] at h
      rw [hl]
      exact h
    · exact .inl (Eval_query cs A c xs A1 c1 w hC hc k hk hC1 hc1 (validate xs).1 (validate xs).2 rfl hv)
  · exact .inl (Eval_hist cs A c _ w hC hc k r1 r2 hk hr)

end Go.Proofs.YtijaoedlhmdpnaaDoor
/- The text of a query; what lies in the program's variables. -/
namespace Go.Proofs.YtijaoedlhmdpnaaDoor
open Go.RowKit Go.Proofs.YtijaoedlhmdpnaaDoor.PTopQueriesKept Go.Proofs.YtijaoedlhmdpnaaDoorW.PrintWords

/-- The words of the kinds. -/
def wdl : List (List UInt8) := [[], [97, 108, 108], [110, 111, 110, 101], [], [97, 117, 116, 104, 111, 114], [98, 101, 102, 111, 114, 101], [109, 101, 114, 103, 101, 115], [], [97, 110, 99], [100, 101, 115, 99], [112, 97, 114, 101, 110, 116, 115], [99, 104, 105, 108, 100, 114, 101, 110], [104, 101, 97, 100, 115], [114, 111, 111, 116, 115]]
def wd (k : Int) : List UInt8 := wdl.getD k.toNat []
/-- What binds how much. -/
def lv (k : Int) : Int := if k = 14 then 0 else if k = 15 ∨ k = 16 then 1 else if k = 7 then 2 else 3
/-- A text, in parentheses if it binds less than least. -/
def par (k least : Int) (s : List UInt8) : List UInt8 := if lv k < least then [40] ++ s ++ [41] else s
/-- The text of a tree. -/
def showT : RT → Int → List UInt8
  | .nil, _ => []
  | .node k n l r, least => par k least (
    if k = 14 then showT l 0 ++ [32, 124, 32] ++ showT r 1
    else if k = 15 then showT l 1 ++ [32, 38, 32] ++ showT r 2
    else if k = 16 then showT l 1 ++ [32, 45, 32] ++ showT r 2
    else if k = 7 then [33] ++ showT l 2
    else if k = 3 then [35] ++ Lib.itoa n
    else if k = 4 ∨ k = 5 then wd k ++ [40] ++ Lib.itoa n ++ [41]
    else if k = 1 ∨ k = 2 ∨ k = 6 then wd k
    else wd k ++ [40] ++ showT l 0 ++ [41])

/-- The program's variables hold what they hold at the start. -/
structure Env (w : World) : Prop where
  words : ∃ t fr, w.heap[0]? = some (.cells (wdl.map fun s => Value.string ⟨s.toArray⟩).toArray t fr)
  tab : ∃ t fr, w.heap[1]? = some (.cells (Lib.pow10Tab.map fun z => Value.int .u64 z).toArray t fr)
theorem Env.bel {w w' : World} (h : Env w) (hb : Bel w w') : Env w' := by
  obtain ⟨⟨t, fr, h0⟩, ⟨t1, fr1, h1⟩⟩ := h
  exact ⟨⟨t, fr, hb.heap h0⟩, ⟨t1, fr1, hb.heap h1⟩⟩
theorem Env.word {w : World} (h : Env w) (k : Nat) (hk : k < 14) : w.cell? ⟨0, k, none⟩ = some (.string ⟨(wd (k : Int)).toArray⟩) := by
  obtain ⟨t, fr, h0⟩ := h.words
  have h1 : w.cell? ⟨0, k, none⟩ = (wdl.map fun s => Value.string ⟨s.toArray⟩).toArray[k]? := by simp [World.cell?, h0]
  rw [h1]
  have : k = 0 ∨ k = 1 ∨ k = 2 ∨ k = 3 ∨ k = 4 ∨ k = 5 ∨ k = 6 ∨ k = 7 ∨ k = 8 ∨ k = 9 ∨ k = 10 ∨ k = 11 ∨ k = 12 ∨ k = 13 := by omega
  rcases this with rfl | rfl | rfl | rfl | rfl | rfl | rfl | rfl | rfl | rfl | rfl | rfl | rfl | rfl <;> rfl
theorem Env.pow {w : World} (h : Env w) : Lib.TabIs Tryd.prog w "internal/strconv.uint64pow10" .u64 Lib.pow10Tab := by
  obtain ⟨t, fr, h1⟩ := h.tab
  have hg : Tryd.prog.globalNamed "internal/strconv.uint64pow10" = some 1 := by kernel_rfl
  unfold Lib.TabIs World.var?
  rw [hg]
  simp only [Option.bind_some, h1]

theorem bel_grow (w : World) (os : Array Obj) : Bel w (Go.Sort.grow w os) := ⟨rfl, rfl, rfl, by simp [Go.Sort.grow], fun k hk => by simp only [Go.Sort.grow]; rw [Array.getElem?_append_left hk]⟩

/-- A text comes back. -/
def RetStr (w : World) (s : List UInt8) (e : Ending) (w' : World) : Prop := e = .returned (.string ⟨s.toArray⟩) ∧ Bel w w'
theorem itoa_any (n : Int) (h0 : 0 ≤ n) (h1 : n ≤ 100000) (w : World) (he : Env w) : Calls Tryd.prog 58 #[.int .i64 n] w (RetStr w (Lib.itoa n)) :=
  (Tryd.strconv_Itoa n (by omega) (by omega) w he.pow).mono fun e w' ⟨he, k, os, hw⟩ => ⟨he, by
    subst hw
    exact (Bel.drewN w k).trans (bel_grow _ _)⟩

theorem ba_add (a b : List UInt8) : (⟨a.toArray⟩ : ByteArray) ++ ⟨b.toArray⟩ = ⟨(a ++ b).toArray⟩ := by
  apply ByteArray.ext
  simp [ByteArray.data_append]
theorem str_add (a b : List UInt8) (h : a.length + b.length ≤ 1000000) (w : World) : Sem.run Tryd.prog (binOp .add 9 (.string ⟨a.toArray⟩) (.string ⟨b.toArray⟩)) w = .ok (.string ⟨(a ++ b).toArray⟩) w := by
  have hu := Tryd.underlying9
  go_simp
  rw [if_neg (by omega), ba_add]

end Go.Proofs.YtijaoedlhmdpnaaDoor
/- revset.show walked. -/
namespace Go.Proofs.YtijaoedlhmdpnaaDoor
open Go.RowKit Go.Proofs.YtijaoedlhmdpnaaDoor.PTopQueriesKept Go.Proofs.YtijaoedlhmdpnaaDoorW.PrintWords

theorem ba_list (a b : ByteArray) : (a ++ b).data.toList = a.data.toList ++ b.data.toList := by simp [ByteArray.data_append]
theorem ret_str {a : ByteArray} {l : List UInt8} (h : a.data.toList = l) : Ending.returned (.string a) = .returned (.string ⟨l.toArray⟩) := by subst h; simp

set_option maxRecDepth 100000 in
set_option maxHeartbeats 4000000 in
theorem show_leaf (xs : List S53) (A : Option Addr) (c : Nat) (k n : Int) (h1 : 1 ≤ k) (h6 : k ≤ 6) (h0 : 0 ≤ n) (hm : n ≤ most k) (off : Nat) (least : Int) (w : World) (hseg : Seg xs off (.node k n .nil .nil)) (hC : Kd.C k53 w A xs.length xs) (he : Env w) :
    Calls Tryd.prog 48 #[.agg #[.slice A xs.length c], .int .i64 ((RT.node k n .nil .nil).root off), .int .i64 least] w (RetStr w (showT (.node k n .nil .nil) least)) := by
  obtain ⟨hr, hz, hlt⟩ := hseg.root
  obtain ⟨ad, B, O, rfl, hadd, hB, c0, c1, c2, c3⟩ := at53 hC _ hz hlt
  rw [hr] at c0 c1 c2 c3
  simp only [RT.root] at c2 c3
  generalize (RT.node k n .nil .nil).root off = i at *
  clear hr hseg hC
  have hpos : 0 < w.heap.size := by obtain ⟨t, fr, h⟩ := he.words; exact (Array.getElem?_eq_some_iff.1 h).1
  have HE := Lib.hid he
  clear he
  have hm' : n ≤ 100000 := by unfold most at hm; (repeat' split at hm) <;> omega
  have hli : (Lib.itoa n).length ≤ 21 := Lib.itoa_length_le n (by omega) (by omega)
  have HM := Lib.hid hm'
  clear hm hm'
  have hk : k = 1 ∨ k = 2 ∨ k = 3 ∨ k = 4 ∨ k = 5 ∨ k = 6 := by omega
  rcases hk with rfl | rfl | rfl | rfl | rfl | rfl
  · have hw := HE.out.word 1 (by decide)
    by_cases hl : (3 : Int) < least
    · go_enter Tryd.func48, Tryd.ntmps48
      go_wp2_with fail
      go_ret
      exact ⟨ret_str (by simp [showT, par, lv, hl, ba_list]), ((Bel.alloc w _).thenAlloc _)⟩
    · go_enter Tryd.func48, Tryd.ntmps48
      go_wp2_with fail
      go_ret
      exact ⟨ret_str (by simp [showT, par, lv, ba_list] <;> first | omega | (intro h; omega)), ((Bel.alloc w _).thenAlloc _)⟩
  · have hw := HE.out.word 2 (by decide)
    by_cases hl : (3 : Int) < least
    · go_enter Tryd.func48, Tryd.ntmps48
      go_wp2_with fail
      go_ret
      exact ⟨ret_str (by simp [showT, par, lv, hl, ba_list]), ((Bel.alloc w _).thenAlloc _)⟩
    · go_enter Tryd.func48, Tryd.ntmps48
      go_wp2_with fail
      go_ret
      exact ⟨ret_str (by simp [showT, par, lv, ba_list] <;> first | omega | (intro h; omega)), ((Bel.alloc w _).thenAlloc _)⟩
  · by_cases hl : (3 : Int) < least
    · go_enter Tryd.func48, Tryd.ntmps48
      go_wp2_with ((go_at_call 58; go_must (refine (itoa_any n h0 HM.out _ (HE.out.bel ((Bel.alloc w _).thenAlloc _))).mono ?_); rintro e w3 ⟨rfl, hb3⟩; have HB3 := Lib.hid hb3; clear hb3))
      go_ret
      exact ⟨ret_str (by simp [showT, par, lv, hl, ba_list]), ((Bel.alloc w _).thenAlloc _).trans HB3.out⟩
    · go_enter Tryd.func48, Tryd.ntmps48
      go_wp2_with ((go_at_call 58; go_must (refine (itoa_any n h0 HM.out _ (HE.out.bel ((Bel.alloc w _).thenAlloc _))).mono ?_); rintro e w3 ⟨rfl, hb3⟩; have HB3 := Lib.hid hb3; clear hb3))
      go_ret
      exact ⟨ret_str (by simp [showT, par, lv, ba_list] <;> first | omega | (intro h; omega)), ((Bel.alloc w _).thenAlloc _).trans HB3.out⟩
  · have hw := HE.out.word 4 (by decide)
    obtain ⟨q0, hq0⟩ : ∃ q, wd ((4 : Nat) : Int) = q := ⟨_, rfl⟩
    rw [hq0] at hw
    have hq0' : q0.length = 6 := by rw [← hq0]; rfl
    obtain ⟨q2, hq2⟩ : ∃ q, Lib.itoa n = q := ⟨_, rfl⟩
    rw [hq2] at hli
    have t1 : (9223372036854775807 < q0.length + 1) = False := eq_false (by omega)
    have t2 : (9223372036854775807 < q0.length + 1 + q2.length) = False := eq_false (by omega)
    have t3 : (9223372036854775807 < q0.length + 1 + q2.length + 1) = False := eq_false (by omega)
    have t4 : (9223372036854775807 < 1 + (q0.length + 1 + q2.length + 1)) = False := eq_false (by omega)
    have t5 : (9223372036854775807 < 1 + (q0.length + 1 + q2.length + 1) + 1) = False := eq_false (by omega)
    have hfin : showT (.node 4 n .nil .nil) least = par 4 least (q0 ++ [40] ++ q2 ++ [41]) := by rw [← hq2, ← hq0]; rfl
    have HF := Lib.hid hfin
    have H2 := Lib.hid hq2
    clear hfin hq0 hq0' hq2 hli
    rw [HF.out]
    by_cases hl : (3 : Int) < least
    · go_enter Tryd.func48, Tryd.ntmps48
      go_wp2_with fail
      have HBW : Hid (Bel w ((w.alloc (Obj.cells #[.slice (some ad) xs.length c] 25 (0, 0))).alloc (Obj.cells #[.int .i64 4, .int .i64 n, .int .i64 0, .int .i64 0] 53 (0, 0)))) := Lib.hid ((Bel.alloc w _).thenAlloc _)
      have hk0 : ((w.alloc (Obj.cells #[.slice (some ad) xs.length c] 25 (0, 0))).alloc (Obj.cells #[.int .i64 4, .int .i64 n, .int .i64 0, .int .i64 0] 53 (0, 0))).cell? ⟨w.heap.size + 1, 0, none⟩ = some (.int .i64 4) := by simp
      have hk1 : ((w.alloc (Obj.cells #[.slice (some ad) xs.length c] 25 (0, 0))).alloc (Obj.cells #[.int .i64 4, .int .i64 n, .int .i64 0, .int .i64 0] 53 (0, 0))).cell? ⟨w.heap.size + 1, 1, none⟩ = some (.int .i64 n) := by simp
      have hww := HBW.out.cell hw
      have HEW := Lib.hid (HE.out.bel HBW.out)
      generalize ((w.alloc (Obj.cells #[.slice (some ad) xs.length c] 25 (0, 0))).alloc (Obj.cells #[.int .i64 4, .int .i64 n, .int .i64 0, .int .i64 0] 53 (0, 0))) = W at *
      have hst : Bel W W.drew ∧ W.drew.cell? ⟨0, 4, none⟩ = some (.string ⟨q0.toArray⟩) ∧ W.drew.cell? ⟨w.heap.size + 1, 0, none⟩ = some (.int .i64 4) ∧ W.drew.cell? ⟨w.heap.size + 1, 1, none⟩ = some (.int .i64 n) := ⟨Bel.drew _, hww, hk0, hk1⟩
      go_region_held3 (fun w' => Bel W w' ∧ w'.cell? ⟨0, 4, none⟩ = some (.string ⟨q0.toArray⟩) ∧ w'.cell? ⟨w.heap.size + 1, 0, none⟩ = some (.int .i64 4) ∧ w'.cell? ⟨w.heap.size + 1, 1, none⟩ = some (.int .i64 n))
        (first | exact hst | exact ⟨Bel.trans (And.left (by assumption)) (by assumption), Bel.cell (by assumption) (And.left (And.right (by assumption))), Bel.cell (by assumption) (And.left (And.right (And.right (by assumption)))), Bel.cell (by assumption) (And.right (And.right (And.right (by assumption))))⟩)
        ((go_at_call 58; go_must (refine (itoa_any n h0 HM.out _ (HEW.out.bel (And.left (by assumption)))).mono ?_); rw [H2.out]; rintro e w3 ⟨rfl, hb3⟩))
      have HB3 := Lib.hid (HBW.out.trans (And.left (by assumption)))
      go_wp2_with fail
      go_ret
      exact ⟨ret_str (by unfold par; rw [if_pos (by simpa [lv] using hl)]; simp [ba_list]), HB3.out⟩
    · go_enter Tryd.func48, Tryd.ntmps48
      go_wp2_with fail
      have HBW : Hid (Bel w ((w.alloc (Obj.cells #[.slice (some ad) xs.length c] 25 (0, 0))).alloc (Obj.cells #[.int .i64 4, .int .i64 n, .int .i64 0, .int .i64 0] 53 (0, 0)))) := Lib.hid ((Bel.alloc w _).thenAlloc _)
      have hk0 : ((w.alloc (Obj.cells #[.slice (some ad) xs.length c] 25 (0, 0))).alloc (Obj.cells #[.int .i64 4, .int .i64 n, .int .i64 0, .int .i64 0] 53 (0, 0))).cell? ⟨w.heap.size + 1, 0, none⟩ = some (.int .i64 4) := by simp
      have hk1 : ((w.alloc (Obj.cells #[.slice (some ad) xs.length c] 25 (0, 0))).alloc (Obj.cells #[.int .i64 4, .int .i64 n, .int .i64 0, .int .i64 0] 53 (0, 0))).cell? ⟨w.heap.size + 1, 1, none⟩ = some (.int .i64 n) := by simp
      have hww := HBW.out.cell hw
      have HEW := Lib.hid (HE.out.bel HBW.out)
      generalize ((w.alloc (Obj.cells #[.slice (some ad) xs.length c] 25 (0, 0))).alloc (Obj.cells #[.int .i64 4, .int .i64 n, .int .i64 0, .int .i64 0] 53 (0, 0))) = W at *
      have hst : Bel W W.drew ∧ W.drew.cell? ⟨0, 4, none⟩ = some (.string ⟨q0.toArray⟩) ∧ W.drew.cell? ⟨w.heap.size + 1, 0, none⟩ = some (.int .i64 4) ∧ W.drew.cell? ⟨w.heap.size + 1, 1, none⟩ = some (.int .i64 n) := ⟨Bel.drew _, hww, hk0, hk1⟩
      go_region_held3 (fun w' => Bel W w' ∧ w'.cell? ⟨0, 4, none⟩ = some (.string ⟨q0.toArray⟩) ∧ w'.cell? ⟨w.heap.size + 1, 0, none⟩ = some (.int .i64 4) ∧ w'.cell? ⟨w.heap.size + 1, 1, none⟩ = some (.int .i64 n))
        (first | exact hst | exact ⟨Bel.trans (And.left (by assumption)) (by assumption), Bel.cell (by assumption) (And.left (And.right (by assumption))), Bel.cell (by assumption) (And.left (And.right (And.right (by assumption)))), Bel.cell (by assumption) (And.right (And.right (And.right (by assumption))))⟩)
        ((go_at_call 58; go_must (refine (itoa_any n h0 HM.out _ (HEW.out.bel (And.left (by assumption)))).mono ?_); rw [H2.out]; rintro e w3 ⟨rfl, hb3⟩))
      have HB3 := Lib.hid (HBW.out.trans (And.left (by assumption)))
      go_wp2_with fail
      go_ret
      exact ⟨ret_str (by unfold par; rw [if_neg (by simpa [lv] using hl)]; simp [ba_list]), HB3.out⟩
  · have hw := HE.out.word 5 (by decide)
    obtain ⟨q0, hq0⟩ : ∃ q, wd ((5 : Nat) : Int) = q := ⟨_, rfl⟩
    rw [hq0] at hw
    have hq0' : q0.length = 6 := by rw [← hq0]; rfl
    obtain ⟨q2, hq2⟩ : ∃ q, Lib.itoa n = q := ⟨_, rfl⟩
    rw [hq2] at hli
    have t1 : (9223372036854775807 < q0.length + 1) = False := eq_false (by omega)
    have t2 : (9223372036854775807 < q0.length + 1 + q2.length) = False := eq_false (by omega)
    have t3 : (9223372036854775807 < q0.length + 1 + q2.length + 1) = False := eq_false (by omega)
    have t4 : (9223372036854775807 < 1 + (q0.length + 1 + q2.length + 1)) = False := eq_false (by omega)
    have t5 : (9223372036854775807 < 1 + (q0.length + 1 + q2.length + 1) + 1) = False := eq_false (by omega)
    have hfin : showT (.node 5 n .nil .nil) least = par 5 least (q0 ++ [40] ++ q2 ++ [41]) := by rw [← hq2, ← hq0]; rfl
    have HF := Lib.hid hfin
    have H2 := Lib.hid hq2
    clear hfin hq0 hq0' hq2 hli
    rw [HF.out]
    by_cases hl : (3 : Int) < least
    · go_enter Tryd.func48, Tryd.ntmps48
      go_wp2_with fail
      have HBW : Hid (Bel w ((w.alloc (Obj.cells #[.slice (some ad) xs.length c] 25 (0, 0))).alloc (Obj.cells #[.int .i64 5, .int .i64 n, .int .i64 0, .int .i64 0] 53 (0, 0)))) := Lib.hid ((Bel.alloc w _).thenAlloc _)
      have hk0 : ((w.alloc (Obj.cells #[.slice (some ad) xs.length c] 25 (0, 0))).alloc (Obj.cells #[.int .i64 5, .int .i64 n, .int .i64 0, .int .i64 0] 53 (0, 0))).cell? ⟨w.heap.size + 1, 0, none⟩ = some (.int .i64 5) := by simp
      have hk1 : ((w.alloc (Obj.cells #[.slice (some ad) xs.length c] 25 (0, 0))).alloc (Obj.cells #[.int .i64 5, .int .i64 n, .int .i64 0, .int .i64 0] 53 (0, 0))).cell? ⟨w.heap.size + 1, 1, none⟩ = some (.int .i64 n) := by simp
      have hww := HBW.out.cell hw
      have HEW := Lib.hid (HE.out.bel HBW.out)
      generalize ((w.alloc (Obj.cells #[.slice (some ad) xs.length c] 25 (0, 0))).alloc (Obj.cells #[.int .i64 5, .int .i64 n, .int .i64 0, .int .i64 0] 53 (0, 0))) = W at *
      have hst : Bel W W.drew ∧ W.drew.cell? ⟨0, 5, none⟩ = some (.string ⟨q0.toArray⟩) ∧ W.drew.cell? ⟨w.heap.size + 1, 0, none⟩ = some (.int .i64 5) ∧ W.drew.cell? ⟨w.heap.size + 1, 1, none⟩ = some (.int .i64 n) := ⟨Bel.drew _, hww, hk0, hk1⟩
      go_region_held3 (fun w' => Bel W w' ∧ w'.cell? ⟨0, 5, none⟩ = some (.string ⟨q0.toArray⟩) ∧ w'.cell? ⟨w.heap.size + 1, 0, none⟩ = some (.int .i64 5) ∧ w'.cell? ⟨w.heap.size + 1, 1, none⟩ = some (.int .i64 n))
        (first | exact hst | exact ⟨Bel.trans (And.left (by assumption)) (by assumption), Bel.cell (by assumption) (And.left (And.right (by assumption))), Bel.cell (by assumption) (And.left (And.right (And.right (by assumption)))), Bel.cell (by assumption) (And.right (And.right (And.right (by assumption))))⟩)
        ((go_at_call 58; go_must (refine (itoa_any n h0 HM.out _ (HEW.out.bel (And.left (by assumption)))).mono ?_); rw [H2.out]; rintro e w3 ⟨rfl, hb3⟩))
      have HB3 := Lib.hid (HBW.out.trans (And.left (by assumption)))
      go_wp2_with fail
      go_ret
      exact ⟨ret_str (by unfold par; rw [if_pos (by simpa [lv] using hl)]; simp [ba_list]), HB3.out⟩
    · go_enter Tryd.func48, Tryd.ntmps48
      go_wp2_with fail
      have HBW : Hid (Bel w ((w.alloc (Obj.cells #[.slice (some ad) xs.length c] 25 (0, 0))).alloc (Obj.cells #[.int .i64 5, .int .i64 n, .int .i64 0, .int .i64 0] 53 (0, 0)))) := Lib.hid ((Bel.alloc w _).thenAlloc _)
      have hk0 : ((w.alloc (Obj.cells #[.slice (some ad) xs.length c] 25 (0, 0))).alloc (Obj.cells #[.int .i64 5, .int .i64 n, .int .i64 0, .int .i64 0] 53 (0, 0))).cell? ⟨w.heap.size + 1, 0, none⟩ = some (.int .i64 5) := by simp
      have hk1 : ((w.alloc (Obj.cells #[.slice (some ad) xs.length c] 25 (0, 0))).alloc (Obj.cells #[.int .i64 5, .int .i64 n, .int .i64 0, .int .i64 0] 53 (0, 0))).cell? ⟨w.heap.size + 1, 1, none⟩ = some (.int .i64 n) := by simp
      have hww := HBW.out.cell hw
      have HEW := Lib.hid (HE.out.bel HBW.out)
      generalize ((w.alloc (Obj.cells #[.slice (some ad) xs.length c] 25 (0, 0))).alloc (Obj.cells #[.int .i64 5, .int .i64 n, .int .i64 0, .int .i64 0] 53 (0, 0))) = W at *
      have hst : Bel W W.drew ∧ W.drew.cell? ⟨0, 5, none⟩ = some (.string ⟨q0.toArray⟩) ∧ W.drew.cell? ⟨w.heap.size + 1, 0, none⟩ = some (.int .i64 5) ∧ W.drew.cell? ⟨w.heap.size + 1, 1, none⟩ = some (.int .i64 n) := ⟨Bel.drew _, hww, hk0, hk1⟩
      go_region_held3 (fun w' => Bel W w' ∧ w'.cell? ⟨0, 5, none⟩ = some (.string ⟨q0.toArray⟩) ∧ w'.cell? ⟨w.heap.size + 1, 0, none⟩ = some (.int .i64 5) ∧ w'.cell? ⟨w.heap.size + 1, 1, none⟩ = some (.int .i64 n))
        (first | exact hst | exact ⟨Bel.trans (And.left (by assumption)) (by assumption), Bel.cell (by assumption) (And.left (And.right (by assumption))), Bel.cell (by assumption) (And.left (And.right (And.right (by assumption)))), Bel.cell (by assumption) (And.right (And.right (And.right (by assumption))))⟩)
        ((go_at_call 58; go_must (refine (itoa_any n h0 HM.out _ (HEW.out.bel (And.left (by assumption)))).mono ?_); rw [H2.out]; rintro e w3 ⟨rfl, hb3⟩))
      have HB3 := Lib.hid (HBW.out.trans (And.left (by assumption)))
      go_wp2_with fail
      go_ret
      exact ⟨ret_str (by unfold par; rw [if_neg (by simpa [lv] using hl)]; simp [ba_list]), HB3.out⟩
  · have hw := HE.out.word 6 (by decide)
    by_cases hl : (3 : Int) < least
    · go_enter Tryd.func48, Tryd.ntmps48
      go_wp2_with fail
      go_ret
      exact ⟨ret_str (by simp [showT, par, lv, hl, ba_list]), ((Bel.alloc w _).thenAlloc _)⟩
    · go_enter Tryd.func48, Tryd.ntmps48
      go_wp2_with fail
      go_ret
      exact ⟨ret_str (by simp [showT, par, lv, ba_list] <;> first | omega | (intro h; omega)), ((Bel.alloc w _).thenAlloc _)⟩

end Go.Proofs.YtijaoedlhmdpnaaDoor
/- The text of a query and its tokens: plain Lean. -/
namespace Go.Proofs.YtijaoedlhmdpnaaDoor
open Go.RowKit Go.Proofs.YtijaoedlhmdpnaaDoor.PTopQueriesKept Go.Proofs.YtijaoedlhmdpnaaDoorW.PrintWords

/-- The letters and the digits of tokens. -/
def lets : List UInt8 := [97, 98, 99, 100, 101, 102, 103, 104, 105, 106, 107, 108, 109, 110, 111, 112, 113, 114, 115, 116, 117, 118, 119, 120, 121, 122]
def digs : List UInt8 := [48, 49, 50, 51, 52, 53, 54, 55, 56, 57]
def inB (s : List UInt8) (c : UInt8) : Bool := decide (0 ≤ Lib.indexByte s c)
theorem lets_digs_fin : ∀ i : Fin 256, inB digs (UInt8.ofNat i.val) = true → inB lets (UInt8.ofNat i.val) = false := by decide +kernel
theorem lets_digs {c : UInt8} (h : inB digs c = true) : inB lets c = false := by
  have h1 : UInt8.ofNat c.toNat = c := by simp
  have := lets_digs_fin ⟨c.toNat, c.toNat_lt⟩
  simp only [h1] at this
  exact this h

/-- Behind spaces. -/
def skip : List UInt8 → List UInt8
  | [] => []
  | c :: r => if c = 32 then skip r else c :: r
theorem skip_of {c : UInt8} {r : List UInt8} (h : c ≠ 32) : skip (c :: r) = c :: r := by simp [skip, h]
theorem skip_space (r : List UInt8) : skip (32 :: r) = skip r := by simp [skip]
theorem skip_suf : ∀ R : List UInt8, skip R <:+ R
  | [] => List.suffix_refl _
  | c :: r => by
    unfold skip
    split
    · exact (skip_suf r).trans (List.suffix_cons c r)
    · exact List.suffix_refl _
/-- How many bytes of r go on a token that begins with c. -/
def ext (c : UInt8) (r : List UInt8) : Nat := if inB lets c = true then (r.takeWhile (inB lets)).length else if inB digs c = true then (r.takeWhile (inB digs)).length else 0
/-- The token that is next. -/
def tokF : List UInt8 → List UInt8
  | [] => []
  | c :: r => c :: r.take (ext c r)
theorem take_takeWhile {p : UInt8 → Bool} (r : List UInt8) : r.take (r.takeWhile p).length = r.takeWhile p := by
  induction r with
  | nil => rfl
  | cons a r ih =>
    simp only [List.takeWhile_cons]
    split
    · simp [ih]
    · rfl
theorem ext_le (c : UInt8) (r : List UInt8) : ext c r ≤ r.length := by
  unfold ext
  repeat' split
  · exact (List.takeWhile_sublist _).length_le
  · exact (List.takeWhile_sublist _).length_le
  · omega
theorem tokF_length (c : UInt8) (r : List UInt8) : (tokF (c :: r)).length = ext c r + 1 := by
  have := ext_le c r
  simp [tokF]; omega
theorem tok_sym {c : UInt8} {r : List UInt8} (h1 : inB lets c = false) (h2 : inB digs c = false) : tokF (c :: r) = [c] := by simp [tokF, ext, h1, h2]
theorem takeWhile_all {p : UInt8 → Bool} {ws rest : List UInt8} (h : ∀ c, c ∈ ws → p c = true) (hr : ∀ c r', rest = c :: r' → p c = false) : (ws ++ rest).takeWhile p = ws := by
  rw [List.takeWhile_append_of_pos h]
  cases rest with
  | nil => simp
  | cons c r' => simp [List.takeWhile_cons, hr c r' rfl]
theorem tok_word {ws rest : List UInt8} (hne : ws ≠ []) (h : ∀ c, c ∈ ws → inB lets c = true) (hr : ∀ c r', rest = c :: r' → inB lets c = false) : tokF (ws ++ rest) = ws := by
  cases ws with
  | nil => exact absurd rfl hne
  | cons c r =>
    have hc := h c List.mem_cons_self
    simp only [List.cons_append, tokF, ext, hc, if_true]
    rw [take_takeWhile, takeWhile_all (fun c hc => h c (List.mem_cons_of_mem _ hc)) hr]
theorem tok_num {ws rest : List UInt8} (hne : ws ≠ []) (h : ∀ c, c ∈ ws → inB digs c = true) (hr : ∀ c r', rest = c :: r' → inB digs c = false) : tokF (ws ++ rest) = ws := by
  cases ws with
  | nil => exact absurd rfl hne
  | cons c r =>
    have hc := h c List.mem_cons_self
    have hl := lets_digs hc
    simp only [List.cons_append, tokF, ext, hc, hl, if_true, Bool.false_eq_true, if_false]
    rw [take_takeWhile, takeWhile_all (fun c hc => h c (List.mem_cons_of_mem _ hc)) hr]

/-! ### numerals -/
theorem digit_byte_fin : ∀ d : Fin 10, inB digs (UInt8.ofNat (48 + d.val)) = true ∧ Lib.digitVal (UInt8.ofNat (48 + d.val)) = some d.val ∧ (UInt8.ofNat (48 + d.val) == 45) = false ∧ (UInt8.ofNat (48 + d.val) == 43) = false ∧ UInt8.ofNat (48 + d.val) ≠ 32 := by decide +kernel
theorem decDigits_all (u : Nat) : ∀ c, c ∈ Lib.decDigits u → ∃ d : Fin 10, c = UInt8.ofNat (48 + d.val) := by
  induction u using Nat.strongRecOn with
  | _ u ih =>
    intro c hc
    rw [Lib.decDigits] at hc
    split at hc
    · rename_i h
      rw [List.mem_singleton] at hc
      exact ⟨⟨u, h⟩, hc⟩
    · rcases List.mem_append.1 hc with hc | hc
      · exact ih (u / 10) (by omega) c hc
      · rw [List.mem_singleton] at hc
        exact ⟨⟨u % 10, by omega⟩, hc⟩
theorem decFrom_append : ∀ (l : List UInt8) (acc : Nat) (b : UInt8) (n d : Nat), Lib.decFrom acc l = some n → Lib.digitVal b = some d → Lib.decFrom acc (l ++ [b]) = some (n * 10 + d)
  | [], acc, b, n, d, h, hb => by
    simp only [Lib.decFrom, Option.some.injEq] at h
    subst h
    simp [Lib.decFrom, hb]
  | a :: l, acc, b, n, d, h, hb => by
    simp only [Lib.decFrom, List.cons_append] at h ⊢
    cases ha : Lib.digitVal a with
    | none => rw [ha] at h; cases h
    | some e =>
      rw [ha] at h
      exact decFrom_append l _ b n d h hb
theorem decFrom_digits (u : Nat) : Lib.decFrom 0 (Lib.decDigits u) = some u := by
  induction u using Nat.strongRecOn with
  | _ u ih =>
    rw [Lib.decDigits]
    split
    · rename_i h
      have := (digit_byte_fin ⟨u, h⟩).2.1
      simp only at this
      simp only [Lib.decFrom, this, Nat.zero_mul, Nat.zero_add]
    · have h1 := ih (u / 10) (by omega)
      have h2 := (digit_byte_fin ⟨u % 10, by omega⟩).2.1
      simp only at h2
      rw [decFrom_append _ _ _ _ _ h1 h2]
      congr 1
      omega
theorem decDigits_ne (u : Nat) : Lib.decDigits u ≠ [] := by
  intro h
  have := Lib.decDigits_length u
  rw [h] at this
  have := Lib.nDigits_pos u
  simp at *
  omega
theorem itoa_nat {n : Int} (h : 0 ≤ n) : Lib.itoa n = Lib.decDigits n.toNat := by unfold Lib.itoa; rw [if_neg (by omega)]
theorem itoa_digs {n : Int} (h : 0 ≤ n) : ∀ c, c ∈ Lib.itoa n → inB digs c = true := by
  rw [itoa_nat h]
  intro c hc
  obtain ⟨d, rfl⟩ := decDigits_all _ c hc
  exact (digit_byte_fin d).1
theorem itoa_ne {n : Int} (h : 0 ≤ n) : Lib.itoa n ≠ [] := by rw [itoa_nat h]; exact decDigits_ne _
theorem atoi_itoa {n : Int} (h : 0 ≤ n) : Lib.atoi (Lib.itoa n) = some n := by
  rw [itoa_nat h]
  have hne := decDigits_ne n.toNat
  have hall := decDigits_all n.toNat
  have hdec := decFrom_digits n.toNat
  cases hd : Lib.decDigits n.toNat with
  | nil => exact absurd hd hne
  | cons b r =>
    rw [hd] at hall hdec
    obtain ⟨d, hb⟩ := hall b List.mem_cons_self
    have h1 : (b == 45) = false := by rw [hb]; exact (digit_byte_fin d).2.2.1
    have h2 : (b == 43) = false := by rw [hb]; exact (digit_byte_fin d).2.2.2.1
    simp only [Lib.atoi, h1, h2, Bool.false_eq_true, if_false, Lib.decNat, List.isEmpty_cons, hdec, Option.map_some]
    congr 1
    omega
theorem itoa_short {n : Int} (h0 : 0 ≤ n) (h1 : n ≤ 100000) : (Lib.itoa n).length ≤ 6 := by
  rw [itoa_nat h0, Lib.decDigits_length]
  by_cases h10 : n.toNat < 1000000
  · have := Lib.lt_pow_nDigits
    by_cases h : Lib.nDigits n.toNat ≤ 6
    · exact h
    · exfalso
      have hlow : ∀ (k u : Nat), k + 1 ≤ Lib.nDigits u → 0 < k → 10 ^ k ≤ u := by
        intro k
        induction k with
        | zero => intro u _ hk; omega
        | succ k ih =>
          intro u hu _
          by_cases hs : u < 10
          · rw [Lib.nDigits_small hs] at hu; omega
          · rw [Lib.nDigits_big hs] at hu
            by_cases hk : k = 0
            · subst hk; simpa using hs
            · have := ih (u / 10) (by omega) (by omega)
              rw [Nat.pow_succ]; omega
      have := hlow 6 n.toNat (by omega) (by omega)
      simp at this
      omega
  · omega

/-! ### words -/
theorem wd_fin : ∀ k : Fin 14, k.val ≠ 0 → k.val ≠ 3 → k.val ≠ 7 → wd (k.val : Int) ≠ [] ∧ (∀ c, c ∈ wd (k.val : Int) → inB lets c = true) ∧ Lib.idxOfS (wdl.map fun s => (⟨s.toArray⟩ : ByteArray)) ⟨(wd (k.val : Int)).toArray⟩ = k.val := by decide +kernel

/-! ### what follows a text -/
/-- What may follow the text of a query that is read at level k. -/
def Fol (k : Int) (rest : List UInt8) : Prop :=
  rest = [] ∨ (∃ r, rest = 41 :: r) ∨ (1 ≤ k ∧ ∃ r, rest = 32 :: 124 :: r) ∨ (2 ≤ k ∧ ∃ r, rest = 32 :: 38 :: r) ∨ (2 ≤ k ∧ ∃ r, rest = 32 :: 45 :: r)
theorem Fol.mono {k k' : Int} {rest : List UInt8} (h : Fol k rest) (hk : k ≤ k') : Fol k' rest := by
  rcases h with h | h | ⟨h1, h⟩ | ⟨h1, h⟩ | ⟨h1, h⟩
  · exact .inl h
  · exact .inr (.inl h)
  · exact .inr (.inr (.inl ⟨by omega, h⟩))
  · exact .inr (.inr (.inr (.inl ⟨by omega, h⟩)))
  · exact .inr (.inr (.inr (.inr ⟨by omega, h⟩)))
theorem Fol.paren (k : Int) (r : List UInt8) : Fol k (41 :: r) := .inr (.inl ⟨r, rfl⟩)
/-- .. begins with no letter and no digit. -/
theorem Fol.head {k : Int} {rest : List UInt8} (h : Fol k rest) : ∀ c r', rest = c :: r' → inB lets c = false ∧ inB digs c = false := by
  intro c r' hc
  have : c = 41 ∨ c = 32 := by
    rcases h with h | ⟨r, h⟩ | ⟨h1, r, h⟩ | ⟨h1, r, h⟩ | ⟨h1, r, h⟩
    · rw [h] at hc; cases hc
    all_goals rw [h] at hc; injection hc with hc _; first | exact .inl hc.symm | exact .inr hc.symm
  rcases this with rfl | rfl <;> decide
/-- The token behind: no operator of level k or above. -/
theorem Fol.tok {k : Int} {rest : List UInt8} (h : Fol k rest) : tokF (skip rest) = [] ∨ tokF (skip rest) = [41] ∨ (1 ≤ k ∧ tokF (skip rest) = [124]) ∨ (2 ≤ k ∧ tokF (skip rest) = [38]) ∨ (2 ≤ k ∧ tokF (skip rest) = [45]) := by
  rcases h with h | ⟨r, h⟩ | ⟨h1, r, h⟩ | ⟨h1, r, h⟩ | ⟨h1, r, h⟩
  · subst h; exact .inl rfl
  · subst h; rw [skip_of (by decide), tok_sym (by decide) (by decide)]; exact .inr (.inl rfl)
  · subst h; rw [skip_space, skip_of (by decide), tok_sym (by decide) (by decide)]; exact .inr (.inr (.inl ⟨h1, rfl⟩))
  · subst h; rw [skip_space, skip_of (by decide), tok_sym (by decide) (by decide)]; exact .inr (.inr (.inr (.inl ⟨h1, rfl⟩)))
  · subst h; rw [skip_space, skip_of (by decide), tok_sym (by decide) (by decide)]; exact .inr (.inr (.inr (.inr ⟨h1, rfl⟩)))

end Go.Proofs.YtijaoedlhmdpnaaDoor
/- revset.show walked, whole. -/
namespace Go.Proofs.YtijaoedlhmdpnaaDoor
open Go.RowKit Go.Proofs.YtijaoedlhmdpnaaDoor.PTopQueriesKept Go.Proofs.YtijaoedlhmdpnaaDoorW.PrintWords

theorem par_length (k least : Int) (s : List UInt8) : (par k least s).length ≤ s.length + 2 := by
  unfold par
  split <;> simp
theorem wd_length_fin : ∀ k : Fin 14, (wd (k.val : Int)).length ≤ 8 := by decide +kernel
theorem wd_length (k : Int) (h0 : 0 ≤ k) (h13 : k ≤ 13) : (wd k).length ≤ 8 := by
  have := wd_length_fin ⟨k.toNat, by omega⟩
  rwa [show (((⟨k.toNat, by omega⟩ : Fin 14).val : Nat) : Int) = k by simp only; omega] at this
theorem most_le (k : Int) : most k ≤ 100000 := by
  unfold most
  repeat' split
  all_goals decide
/-- A text is no longer than 20 bytes a node. -/
theorem showT_length {t : RT} (hs : Sh t) (hn : NOk t) : ∀ k, (showT t k).length ≤ 20 * t.size := by
  induction hs with
  | @leaf kd n h1 h6 =>
    intro k
    have hi := itoa_short hn.1 (Int.le_trans hn.2.1 (most_le kd))
    have hw := wd_length kd (by omega) (by omega)
    refine Nat.le_trans (par_length _ _ _) ?_
    rw [if_neg (by omega), if_neg (by omega), if_neg (by omega), if_neg (by omega)]
    simp only [RT.size]
    repeat' split
    all_goals try simp only [List.length_append, List.length_cons, List.length_nil]
    all_goals first | omega | (exfalso; omega)
  | @un kd n l h7 h13 hl ih =>
    intro k
    have hw := wd_length kd (by omega) (by omega)
    have h0 := ih hn.2.2.1 0
    have h2 := ih hn.2.2.1 2
    refine Nat.le_trans (par_length _ _ _) ?_
    rw [if_neg (by omega), if_neg (by omega), if_neg (by omega)]
    simp only [RT.size]
    repeat' split
    all_goals try simp only [List.length_append, List.length_cons, List.length_nil]
    all_goals first | omega | (exfalso; omega)
  | @bin kd n l r h14 h16 hl hr ihl ihr =>
    intro k
    have h0 := ihl hn.2.2.1 0
    have h1 := ihl hn.2.2.1 1
    have g1 := ihr hn.2.2.2 1
    have g2 := ihr hn.2.2.2 2
    refine Nat.le_trans (par_length _ _ _) ?_
    simp only [RT.size]
    repeat' split
    all_goals try simp only [List.length_append, List.length_cons, List.length_nil]
    all_goals first | omega | (exfalso; omega)

/-- show at the nodes xs writes t, whose first node is number off. -/
def ShowC (xs : List S53) (A : Option Addr) (c : Nat) (off : Nat) (t : RT) : Prop := ∀ (least : Int) (w : World), Kd.C k53 w A xs.length xs → Env w → Calls Tryd.prog 48 #[.agg #[.slice A xs.length c], .int .i64 (t.root off), .int .i64 least] w (RetStr w (showT t least))

set_option maxRecDepth 100000 in
set_option maxHeartbeats 4000000 in
theorem show_14 {xs : List S53} {A : Option Addr} {c off : Nat} {n : Int} {l r : RT} (hseg : Seg xs off (.node 14 n l r)) (hl : ShowC xs A c off l) (hr0 : ShowC xs A c (off + l.size) r) (h1 : (showT l 0).length ≤ 20000) (h2 : (showT r 1).length ≤ 20000) : ShowC xs A c off (.node 14 n l r) := by
  intro least w hC he
  obtain ⟨hr, hz, hlt⟩ := hseg.root
  obtain ⟨ad, B, O, rfl, hadd, hB, c0, c1, c2, c3⟩ := at53 hC _ hz hlt
  rw [hr] at c0 c1 c2 c3
  simp only at c0 c1 c2 c3
  obtain ⟨ro1, hro1⟩ : ∃ x, l.root off = x := ⟨_, rfl⟩
  obtain ⟨ro2, hro2⟩ : ∃ x, r.root (off + l.size) = x := ⟨_, rfl⟩
  obtain ⟨q1, hq1⟩ : ∃ q, showT l 0 = q := ⟨_, rfl⟩
  obtain ⟨q2, hq2⟩ : ∃ q, showT r 1 = q := ⟨_, rfl⟩
  have hfin : showT (.node 14 n l r) least = par 14 least (q1 ++ [32, 124, 32] ++ q2) := by rw [← hq1, ← hq2]; rfl
  have HL : ∀ w, Kd.C k53 w (some ad) xs.length xs → Env w → Calls Tryd.prog 48 #[.agg #[.slice (some ad) xs.length c], .int .i64 ro1, .int .i64 0] w (RetStr w q1) := fun w h h' => by rw [← hro1, ← hq1]; exact hl 0 w h h'
  have HR : ∀ w, Kd.C k53 w (some ad) xs.length xs → Env w → Calls Tryd.prog 48 #[.agg #[.slice (some ad) xs.length c], .int .i64 ro2, .int .i64 1] w (RetStr w q2) := fun w h h' => by rw [← hro2, ← hq2]; exact hr0 1 w h h'
  rw [hro1] at c2
  rw [hro2] at c3
  rw [hq1] at h1
  rw [hq2] at h2
  generalize (RT.node 14 n l r).root off = i at *
  have HLL := Lib.hid HL
  have HRR := Lib.hid HR
  have HF := Lib.hid hfin
  have HCC := Lib.hid hC
  have HE := Lib.hid he
  have t1 : (9223372036854775807 < q1.length + 3) = False := eq_false (by omega)
  have t2 : (9223372036854775807 < q1.length + 3 + q2.length) = False := eq_false (by omega)
  have t4 : (9223372036854775807 < 1 + (q1.length + 3 + q2.length)) = False := eq_false (by omega)
  have t5 : (9223372036854775807 < 1 + (q1.length + 3 + q2.length) + 1) = False := eq_false (by omega)
  rw [HF.out]
  clear hr hseg hC hl hr0 HL HR hro1 hro2 hq1 hq2 hfin he h1 h2
  by_cases hll : (0 : Int) < least
  · go_enter Tryd.func48, Tryd.ntmps48
    go_wp2_with fail
    have HBW : Hid (Bel w ((w.alloc (Obj.cells #[.slice (some ad) xs.length c] 25 (0, 0))).alloc (Obj.cells #[.int .i64 14, .int .i64 n, .int .i64 ro1, .int .i64 ro2] 53 (0, 0)))) := Lib.hid ((Bel.alloc w _).thenAlloc _)
    have hk0 : ((w.alloc (Obj.cells #[.slice (some ad) xs.length c] 25 (0, 0))).alloc (Obj.cells #[.int .i64 14, .int .i64 n, .int .i64 ro1, .int .i64 ro2] 53 (0, 0))).cell? ⟨w.heap.size, 0, none⟩ = some (.slice (some ad) xs.length c) := by simp
    have hk2 : ((w.alloc (Obj.cells #[.slice (some ad) xs.length c] 25 (0, 0))).alloc (Obj.cells #[.int .i64 14, .int .i64 n, .int .i64 ro1, .int .i64 ro2] 53 (0, 0))).cell? ⟨w.heap.size + 1, 2, none⟩ = some (.int .i64 ro1) := by simp
    have hk3 : ((w.alloc (Obj.cells #[.slice (some ad) xs.length c] 25 (0, 0))).alloc (Obj.cells #[.int .i64 14, .int .i64 n, .int .i64 ro1, .int .i64 ro2] 53 (0, 0))).cell? ⟨w.heap.size + 1, 3, none⟩ = some (.int .i64 ro2) := by simp
    have HEW := Lib.hid (HE.out.bel HBW.out)
    have HCW := Lib.hid (Kd.C_below HCC.out HBW.out)
    generalize ((w.alloc (Obj.cells #[.slice (some ad) xs.length c] 25 (0, 0))).alloc (Obj.cells #[.int .i64 14, .int .i64 n, .int .i64 ro1, .int .i64 ro2] 53 (0, 0))) = W at *
    have hst : Bel W W.drew ∧ W.drew.cell? ⟨w.heap.size, 0, none⟩ = some (.slice (some ad) xs.length c) ∧ W.drew.cell? ⟨w.heap.size + 1, 2, none⟩ = some (.int .i64 ro1) ∧ W.drew.cell? ⟨w.heap.size + 1, 3, none⟩ = some (.int .i64 ro2) := ⟨Bel.drew _, hk0, hk2, hk3⟩
    go_region_held3 (fun w' => Bel W w' ∧ w'.cell? ⟨w.heap.size, 0, none⟩ = some (.slice (some ad) xs.length c) ∧ w'.cell? ⟨w.heap.size + 1, 2, none⟩ = some (.int .i64 ro1) ∧ w'.cell? ⟨w.heap.size + 1, 3, none⟩ = some (.int .i64 ro2))
      (first | exact hst | exact ⟨Bel.trans (And.left (by assumption)) (by assumption), Bel.cell (by assumption) (And.left (And.right (by assumption))), Bel.cell (by assumption) (And.left (And.right (And.right (by assumption)))), Bel.cell (by assumption) (And.right (And.right (And.right (by assumption))))⟩)
      (first | (go_at_call_of 48 (Value.int .i64 ro1); (refine (HLL.out _ (Kd.C_below HCW.out (And.left (by assumption))) (HEW.out.bel (And.left (by assumption)))).mono ?_); rintro e w3 ⟨rfl, hb3⟩) | (go_at_call_of 48 (Value.int .i64 ro2); (refine (HRR.out _ (Kd.C_below HCW.out (And.left (by assumption))) (HEW.out.bel (And.left (by assumption)))).mono ?_); rintro e w3 ⟨rfl, hb3⟩))
    have HB3 := Lib.hid (HBW.out.trans (And.left (by assumption)))
    go_wp2_with fail
    go_ret
    exact ⟨ret_str (by unfold par; rw [if_pos (by simpa [lv] using hll)]; simp [ba_list]), HB3.out⟩
  · go_enter Tryd.func48, Tryd.ntmps48
    go_wp2_with fail
    have HBW : Hid (Bel w ((w.alloc (Obj.cells #[.slice (some ad) xs.length c] 25 (0, 0))).alloc (Obj.cells #[.int .i64 14, .int .i64 n, .int .i64 ro1, .int .i64 ro2] 53 (0, 0)))) := Lib.hid ((Bel.alloc w _).thenAlloc _)
    have hk0 : ((w.alloc (Obj.cells #[.slice (some ad) xs.length c] 25 (0, 0))).alloc (Obj.cells #[.int .i64 14, .int .i64 n, .int .i64 ro1, .int .i64 ro2] 53 (0, 0))).cell? ⟨w.heap.size, 0, none⟩ = some (.slice (some ad) xs.length c) := by simp
    have hk2 : ((w.alloc (Obj.cells #[.slice (some ad) xs.length c] 25 (0, 0))).alloc (Obj.cells #[.int .i64 14, .int .i64 n, .int .i64 ro1, .int .i64 ro2] 53 (0, 0))).cell? ⟨w.heap.size + 1, 2, none⟩ = some (.int .i64 ro1) := by simp
    have hk3 : ((w.alloc (Obj.cells #[.slice (some ad) xs.length c] 25 (0, 0))).alloc (Obj.cells #[.int .i64 14, .int .i64 n, .int .i64 ro1, .int .i64 ro2] 53 (0, 0))).cell? ⟨w.heap.size + 1, 3, none⟩ = some (.int .i64 ro2) := by simp
    have HEW := Lib.hid (HE.out.bel HBW.out)
    have HCW := Lib.hid (Kd.C_below HCC.out HBW.out)
    generalize ((w.alloc (Obj.cells #[.slice (some ad) xs.length c] 25 (0, 0))).alloc (Obj.cells #[.int .i64 14, .int .i64 n, .int .i64 ro1, .int .i64 ro2] 53 (0, 0))) = W at *
    have hst : Bel W W.drew ∧ W.drew.cell? ⟨w.heap.size, 0, none⟩ = some (.slice (some ad) xs.length c) ∧ W.drew.cell? ⟨w.heap.size + 1, 2, none⟩ = some (.int .i64 ro1) ∧ W.drew.cell? ⟨w.heap.size + 1, 3, none⟩ = some (.int .i64 ro2) := ⟨Bel.drew _, hk0, hk2, hk3⟩
    go_region_held3 (fun w' => Bel W w' ∧ w'.cell? ⟨w.heap.size, 0, none⟩ = some (.slice (some ad) xs.length c) ∧ w'.cell? ⟨w.heap.size + 1, 2, none⟩ = some (.int .i64 ro1) ∧ w'.cell? ⟨w.heap.size + 1, 3, none⟩ = some (.int .i64 ro2))
      (first | exact hst | exact ⟨Bel.trans (And.left (by assumption)) (by assumption), Bel.cell (by assumption) (And.left (And.right (by assumption))), Bel.cell (by assumption) (And.left (And.right (And.right (by assumption)))), Bel.cell (by assumption) (And.right (And.right (And.right (by assumption))))⟩)
      (first | (go_at_call_of 48 (Value.int .i64 ro1); (refine (HLL.out _ (Kd.C_below HCW.out (And.left (by assumption))) (HEW.out.bel (And.left (by assumption)))).mono ?_); rintro e w3 ⟨rfl, hb3⟩) | (go_at_call_of 48 (Value.int .i64 ro2); (refine (HRR.out _ (Kd.C_below HCW.out (And.left (by assumption))) (HEW.out.bel (And.left (by assumption)))).mono ?_); rintro e w3 ⟨rfl, hb3⟩))
    have HB3 := Lib.hid (HBW.out.trans (And.left (by assumption)))
    go_wp2_with fail
    go_ret
    exact ⟨ret_str (by unfold par; rw [if_neg (by simpa [lv] using hll)]; simp [ba_list]), HB3.out⟩

set_option maxRecDepth 100000 in
set_option maxHeartbeats 4000000 in
theorem show_15 {xs : List S53} {A : Option Addr} {c off : Nat} {n : Int} {l r : RT} (hseg : Seg xs off (.node 15 n l r)) (hl : ShowC xs A c off l) (hr0 : ShowC xs A c (off + l.size) r) (h1 : (showT l 1).length ≤ 20000) (h2 : (showT r 2).length ≤ 20000) : ShowC xs A c off (.node 15 n l r) := by
  intro least w hC he
  obtain ⟨hr, hz, hlt⟩ := hseg.root
  obtain ⟨ad, B, O, rfl, hadd, hB, c0, c1, c2, c3⟩ := at53 hC _ hz hlt
  rw [hr] at c0 c1 c2 c3
  simp only at c0 c1 c2 c3
  obtain ⟨ro1, hro1⟩ : ∃ x, l.root off = x := ⟨_, rfl⟩
  obtain ⟨ro2, hro2⟩ : ∃ x, r.root (off + l.size) = x := ⟨_, rfl⟩
  obtain ⟨q1, hq1⟩ : ∃ q, showT l 1 = q := ⟨_, rfl⟩
  obtain ⟨q2, hq2⟩ : ∃ q, showT r 2 = q := ⟨_, rfl⟩
  have hfin : showT (.node 15 n l r) least = par 15 least (q1 ++ [32, 38, 32] ++ q2) := by rw [← hq1, ← hq2]; rfl
  have HL : ∀ w, Kd.C k53 w (some ad) xs.length xs → Env w → Calls Tryd.prog 48 #[.agg #[.slice (some ad) xs.length c], .int .i64 ro1, .int .i64 1] w (RetStr w q1) := fun w h h' => by rw [← hro1, ← hq1]; exact hl 1 w h h'
  have HR : ∀ w, Kd.C k53 w (some ad) xs.length xs → Env w → Calls Tryd.prog 48 #[.agg #[.slice (some ad) xs.length c], .int .i64 ro2, .int .i64 2] w (RetStr w q2) := fun w h h' => by rw [← hro2, ← hq2]; exact hr0 2 w h h'
  rw [hro1] at c2
  rw [hro2] at c3
  rw [hq1] at h1
  rw [hq2] at h2
  generalize (RT.node 15 n l r).root off = i at *
  have HLL := Lib.hid HL
  have HRR := Lib.hid HR
  have HF := Lib.hid hfin
  have HCC := Lib.hid hC
  have HE := Lib.hid he
  have t1 : (9223372036854775807 < q1.length + 3) = False := eq_false (by omega)
  have t2 : (9223372036854775807 < q1.length + 3 + q2.length) = False := eq_false (by omega)
  have t4 : (9223372036854775807 < 1 + (q1.length + 3 + q2.length)) = False := eq_false (by omega)
  have t5 : (9223372036854775807 < 1 + (q1.length + 3 + q2.length) + 1) = False := eq_false (by omega)
  rw [HF.out]
  clear hr hseg hC hl hr0 HL HR hro1 hro2 hq1 hq2 hfin he h1 h2
  by_cases hll : (1 : Int) < least
  · go_enter Tryd.func48, Tryd.ntmps48
    go_wp2_with fail
    have HBW : Hid (Bel w ((w.alloc (Obj.cells #[.slice (some ad) xs.length c] 25 (0, 0))).alloc (Obj.cells #[.int .i64 15, .int .i64 n, .int .i64 ro1, .int .i64 ro2] 53 (0, 0)))) := Lib.hid ((Bel.alloc w _).thenAlloc _)
    have hk0 : ((w.alloc (Obj.cells #[.slice (some ad) xs.length c] 25 (0, 0))).alloc (Obj.cells #[.int .i64 15, .int .i64 n, .int .i64 ro1, .int .i64 ro2] 53 (0, 0))).cell? ⟨w.heap.size, 0, none⟩ = some (.slice (some ad) xs.length c) := by simp
    have hk2 : ((w.alloc (Obj.cells #[.slice (some ad) xs.length c] 25 (0, 0))).alloc (Obj.cells #[.int .i64 15, .int .i64 n, .int .i64 ro1, .int .i64 ro2] 53 (0, 0))).cell? ⟨w.heap.size + 1, 2, none⟩ = some (.int .i64 ro1) := by simp
    have hk3 : ((w.alloc (Obj.cells #[.slice (some ad) xs.length c] 25 (0, 0))).alloc (Obj.cells #[.int .i64 15, .int .i64 n, .int .i64 ro1, .int .i64 ro2] 53 (0, 0))).cell? ⟨w.heap.size + 1, 3, none⟩ = some (.int .i64 ro2) := by simp
    have HEW := Lib.hid (HE.out.bel HBW.out)
    have HCW := Lib.hid (Kd.C_below HCC.out HBW.out)
    generalize ((w.alloc (Obj.cells #[.slice (some ad) xs.length c] 25 (0, 0))).alloc (Obj.cells #[.int .i64 15, .int .i64 n, .int .i64 ro1, .int .i64 ro2] 53 (0, 0))) = W at *
    have hst : Bel W W.drew ∧ W.drew.cell? ⟨w.heap.size, 0, none⟩ = some (.slice (some ad) xs.length c) ∧ W.drew.cell? ⟨w.heap.size + 1, 2, none⟩ = some (.int .i64 ro1) ∧ W.drew.cell? ⟨w.heap.size + 1, 3, none⟩ = some (.int .i64 ro2) := ⟨Bel.drew _, hk0, hk2, hk3⟩
    go_region_held3 (fun w' => Bel W w' ∧ w'.cell? ⟨w.heap.size, 0, none⟩ = some (.slice (some ad) xs.length c) ∧ w'.cell? ⟨w.heap.size + 1, 2, none⟩ = some (.int .i64 ro1) ∧ w'.cell? ⟨w.heap.size + 1, 3, none⟩ = some (.int .i64 ro2))
      (first | exact hst | exact ⟨Bel.trans (And.left (by assumption)) (by assumption), Bel.cell (by assumption) (And.left (And.right (by assumption))), Bel.cell (by assumption) (And.left (And.right (And.right (by assumption)))), Bel.cell (by assumption) (And.right (And.right (And.right (by assumption))))⟩)
      (first | (go_at_call_of 48 (Value.int .i64 ro1); (refine (HLL.out _ (Kd.C_below HCW.out (And.left (by assumption))) (HEW.out.bel (And.left (by assumption)))).mono ?_); rintro e w3 ⟨rfl, hb3⟩) | (go_at_call_of 48 (Value.int .i64 ro2); (refine (HRR.out _ (Kd.C_below HCW.out (And.left (by assumption))) (HEW.out.bel (And.left (by assumption)))).mono ?_); rintro e w3 ⟨rfl, hb3⟩))
    have HB3 := Lib.hid (HBW.out.trans (And.left (by assumption)))
    go_wp2_with fail
    go_ret
    exact ⟨ret_str (by unfold par; rw [if_pos (by simpa [lv] using hll)]; simp [ba_list]), HB3.out⟩
  · go_enter Tryd.func48, Tryd.ntmps48
    go_wp2_with fail
    have HBW : Hid (Bel w ((w.alloc (Obj.cells #[.slice (some ad) xs.length c] 25 (0, 0))).alloc (Obj.cells #[.int .i64 15, .int .i64 n, .int .i64 ro1, .int .i64 ro2] 53 (0, 0)))) := Lib.hid ((Bel.alloc w _).thenAlloc _)
    have hk0 : ((w.alloc (Obj.cells #[.slice (some ad) xs.length c] 25 (0, 0))).alloc (Obj.cells #[.int .i64 15, .int .i64 n, .int .i64 ro1, .int .i64 ro2] 53 (0, 0))).cell? ⟨w.heap.size, 0, none⟩ = some (.slice (some ad) xs.length c) := by simp
    have hk2 : ((w.alloc (Obj.cells #[.slice (some ad) xs.length c] 25 (0, 0))).alloc (Obj.cells #[.int .i64 15, .int .i64 n, .int .i64 ro1, .int .i64 ro2] 53 (0, 0))).cell? ⟨w.heap.size + 1, 2, none⟩ = some (.int .i64 ro1) := by simp
    have hk3 : ((w.alloc (Obj.cells #[.slice (some ad) xs.length c] 25 (0, 0))).alloc (Obj.cells #[.int .i64 15, .int .i64 n, .int .i64 ro1, .int .i64 ro2] 53 (0, 0))).cell? ⟨w.heap.size + 1, 3, none⟩ = some (.int .i64 ro2) := by simp
    have HEW := Lib.hid (HE.out.bel HBW.out)
    have HCW := Lib.hid (Kd.C_below HCC.out HBW.out)
    generalize ((w.alloc (Obj.cells #[.slice (some ad) xs.length c] 25 (0, 0))).alloc (Obj.cells #[.int .i64 15, .int .i64 n, .int .i64 ro1, .int .i64 ro2] 53 (0, 0))) = W at *
    have hst : Bel W W.drew ∧ W.drew.cell? ⟨w.heap.size, 0, none⟩ = some (.slice (some ad) xs.length c) ∧ W.drew.cell? ⟨w.heap.size + 1, 2, none⟩ = some (.int .i64 ro1) ∧ W.drew.cell? ⟨w.heap.size + 1, 3, none⟩ = some (.int .i64 ro2) := ⟨Bel.drew _, hk0, hk2, hk3⟩
    go_region_held3 (fun w' => Bel W w' ∧ w'.cell? ⟨w.heap.size, 0, none⟩ = some (.slice (some ad) xs.length c) ∧ w'.cell? ⟨w.heap.size + 1, 2, none⟩ = some (.int .i64 ro1) ∧ w'.cell? ⟨w.heap.size + 1, 3, none⟩ = some (.int .i64 ro2))
      (first | exact hst | exact ⟨Bel.trans (And.left (by assumption)) (by assumption), Bel.cell (by assumption) (And.left (And.right (by assumption))), Bel.cell (by assumption) (And.left (And.right (And.right (by assumption)))), Bel.cell (by assumption) (And.right (And.right (And.right (by assumption))))⟩)
      (first | (go_at_call_of 48 (Value.int .i64 ro1); (refine (HLL.out _ (Kd.C_below HCW.out (And.left (by assumption))) (HEW.out.bel (And.left (by assumption)))).mono ?_); rintro e w3 ⟨rfl, hb3⟩) | (go_at_call_of 48 (Value.int .i64 ro2); (refine (HRR.out _ (Kd.C_below HCW.out (And.left (by assumption))) (HEW.out.bel (And.left (by assumption)))).mono ?_); rintro e w3 ⟨rfl, hb3⟩))
    have HB3 := Lib.hid (HBW.out.trans (And.left (by assumption)))
    go_wp2_with fail
    go_ret
    exact ⟨ret_str (by unfold par; rw [if_neg (by simpa [lv] using hll)]; simp [ba_list]), HB3.out⟩

set_option maxRecDepth 100000 in
set_option maxHeartbeats 4000000 in
theorem show_16 {xs : List S53} {A : Option Addr} {c off : Nat} {n : Int} {l r : RT} (hseg : Seg xs off (.node 16 n l r)) (hl : ShowC xs A c off l) (hr0 : ShowC xs A c (off + l.size) r) (h1 : (showT l 1).length ≤ 20000) (h2 : (showT r 2).length ≤ 20000) : ShowC xs A c off (.node 16 n l r) := by
  intro least w hC he
  obtain ⟨hr, hz, hlt⟩ := hseg.root
  obtain ⟨ad, B, O, rfl, hadd, hB, c0, c1, c2, c3⟩ := at53 hC _ hz hlt
  rw [hr] at c0 c1 c2 c3
  simp only at c0 c1 c2 c3
  obtain ⟨ro1, hro1⟩ : ∃ x, l.root off = x := ⟨_, rfl⟩
  obtain ⟨ro2, hro2⟩ : ∃ x, r.root (off + l.size) = x := ⟨_, rfl⟩
  obtain ⟨q1, hq1⟩ : ∃ q, showT l 1 = q := ⟨_, rfl⟩
  obtain ⟨q2, hq2⟩ : ∃ q, showT r 2 = q := ⟨_, rfl⟩
  have hfin : showT (.node 16 n l r) least = par 16 least (q1 ++ [32, 45, 32] ++ q2) := by rw [← hq1, ← hq2]; rfl
  have HL : ∀ w, Kd.C k53 w (some ad) xs.length xs → Env w → Calls Tryd.prog 48 #[.agg #[.slice (some ad) xs.length c], .int .i64 ro1, .int .i64 1] w (RetStr w q1) := fun w h h' => by rw [← hro1, ← hq1]; exact hl 1 w h h'
  have HR : ∀ w, Kd.C k53 w (some ad) xs.length xs → Env w → Calls Tryd.prog 48 #[.agg #[.slice (some ad) xs.length c], .int .i64 ro2, .int .i64 2] w (RetStr w q2) := fun w h h' => by rw [← hro2, ← hq2]; exact hr0 2 w h h'
  rw [hro1] at c2
  rw [hro2] at c3
  rw [hq1] at h1
  rw [hq2] at h2
  generalize (RT.node 16 n l r).root off = i at *
  have HLL := Lib.hid HL
  have HRR := Lib.hid HR
  have HF := Lib.hid hfin
  have HCC := Lib.hid hC
  have HE := Lib.hid he
  have t1 : (9223372036854775807 < q1.length + 3) = False := eq_false (by omega)
  have t2 : (9223372036854775807 < q1.length + 3 + q2.length) = False := eq_false (by omega)
  have t4 : (9223372036854775807 < 1 + (q1.length + 3 + q2.length)) = False := eq_false (by omega)
  have t5 : (9223372036854775807 < 1 + (q1.length + 3 + q2.length) + 1) = False := eq_false (by omega)
  rw [HF.out]
  clear hr hseg hC hl hr0 HL HR hro1 hro2 hq1 hq2 hfin he h1 h2
  by_cases hll : (1 : Int) < least
  · go_enter Tryd.func48, Tryd.ntmps48
    go_wp2_with fail
    have HBW : Hid (Bel w ((w.alloc (Obj.cells #[.slice (some ad) xs.length c] 25 (0, 0))).alloc (Obj.cells #[.int .i64 16, .int .i64 n, .int .i64 ro1, .int .i64 ro2] 53 (0, 0)))) := Lib.hid ((Bel.alloc w _).thenAlloc _)
    have hk0 : ((w.alloc (Obj.cells #[.slice (some ad) xs.length c] 25 (0, 0))).alloc (Obj.cells #[.int .i64 16, .int .i64 n, .int .i64 ro1, .int .i64 ro2] 53 (0, 0))).cell? ⟨w.heap.size, 0, none⟩ = some (.slice (some ad) xs.length c) := by simp
    have hk2 : ((w.alloc (Obj.cells #[.slice (some ad) xs.length c] 25 (0, 0))).alloc (Obj.cells #[.int .i64 16, .int .i64 n, .int .i64 ro1, .int .i64 ro2] 53 (0, 0))).cell? ⟨w.heap.size + 1, 2, none⟩ = some (.int .i64 ro1) := by simp
    have hk3 : ((w.alloc (Obj.cells #[.slice (some ad) xs.length c] 25 (0, 0))).alloc (Obj.cells #[.int .i64 16, .int .i64 n, .int .i64 ro1, .int .i64 ro2] 53 (0, 0))).cell? ⟨w.heap.size + 1, 3, none⟩ = some (.int .i64 ro2) := by simp
    have HEW := Lib.hid (HE.out.bel HBW.out)
    have HCW := Lib.hid (Kd.C_below HCC.out HBW.out)
    generalize ((w.alloc (Obj.cells #[.slice (some ad) xs.length c] 25 (0, 0))).alloc (Obj.cells #[.int .i64 16, .int .i64 n, .int .i64 ro1, .int .i64 ro2] 53 (0, 0))) = W at *
    have hst : Bel W W.drew ∧ W.drew.cell? ⟨w.heap.size, 0, none⟩ = some (.slice (some ad) xs.length c) ∧ W.drew.cell? ⟨w.heap.size + 1, 2, none⟩ = some (.int .i64 ro1) ∧ W.drew.cell? ⟨w.heap.size + 1, 3, none⟩ = some (.int .i64 ro2) := ⟨Bel.drew _, hk0, hk2, hk3⟩
    go_region_held3 (fun w' => Bel W w' ∧ w'.cell? ⟨w.heap.size, 0, none⟩ = some (.slice (some ad) xs.length c) ∧ w'.cell? ⟨w.heap.size + 1, 2, none⟩ = some (.int .i64 ro1) ∧ w'.cell? ⟨w.heap.size + 1, 3, none⟩ = some (.int .i64 ro2))
      (first | exact hst | exact ⟨Bel.trans (And.left (by assumption)) (by assumption), Bel.cell (by assumption) (And.left (And.right (by assumption))), Bel.cell (by assumption) (And.left (And.right (And.right (by assumption)))), Bel.cell (by assumption) (And.right (And.right (And.right (by assumption))))⟩)
      (first | (go_at_call_of 48 (Value.int .i64 ro1); (refine (HLL.out _ (Kd.C_below HCW.out (And.left (by assumption))) (HEW.out.bel (And.left (by assumption)))).mono ?_); rintro e w3 ⟨rfl, hb3⟩) | (go_at_call_of 48 (Value.int .i64 ro2); (refine (HRR.out _ (Kd.C_below HCW.out (And.left (by assumption))) (HEW.out.bel (And.left (by assumption)))).mono ?_); rintro e w3 ⟨rfl, hb3⟩))
    have HB3 := Lib.hid (HBW.out.trans (And.left (by assumption)))
    go_wp2_with fail
    go_ret
    exact ⟨ret_str (by unfold par; rw [if_pos (by simpa [lv] using hll)]; simp [ba_list]), HB3.out⟩
  · go_enter Tryd.func48, Tryd.ntmps48
    go_wp2_with fail
    have HBW : Hid (Bel w ((w.alloc (Obj.cells #[.slice (some ad) xs.length c] 25 (0, 0))).alloc (Obj.cells #[.int .i64 16, .int .i64 n, .int .i64 ro1, .int .i64 ro2] 53 (0, 0)))) := Lib.hid ((Bel.alloc w _).thenAlloc _)
    have hk0 : ((w.alloc (Obj.cells #[.slice (some ad) xs.length c] 25 (0, 0))).alloc (Obj.cells #[.int .i64 16, .int .i64 n, .int .i64 ro1, .int .i64 ro2] 53 (0, 0))).cell? ⟨w.heap.size, 0, none⟩ = some (.slice (some ad) xs.length c) := by simp
    have hk2 : ((w.alloc (Obj.cells #[.slice (some ad) xs.length c] 25 (0, 0))).alloc (Obj.cells #[.int .i64 16, .int .i64 n, .int .i64 ro1, .int .i64 ro2] 53 (0, 0))).cell? ⟨w.heap.size + 1, 2, none⟩ = some (.int .i64 ro1) := by simp
    have hk3 : ((w.alloc (Obj.cells #[.slice (some ad) xs.length c] 25 (0, 0))).alloc (Obj.cells #[.int .i64 16, .int .i64 n, .int .i64 ro1, .int .i64 ro2] 53 (0, 0))).cell? ⟨w.heap.size + 1, 3, none⟩ = some (.int .i64 ro2) := by simp
    have HEW := Lib.hid (HE.out.bel HBW.out)
    have HCW := Lib.hid (Kd.C_below HCC.out HBW.out)
    generalize ((w.alloc (Obj.cells #[.slice (some ad) xs.length c] 25 (0, 0))).alloc (Obj.cells #[.int .i64 16, .int .i64 n, .int .i64 ro1, .int .i64 ro2] 53 (0, 0))) = W at *
    have hst : Bel W W.drew ∧ W.drew.cell? ⟨w.heap.size, 0, none⟩ = some (.slice (some ad) xs.length c) ∧ W.drew.cell? ⟨w.heap.size + 1, 2, none⟩ = some (.int .i64 ro1) ∧ W.drew.cell? ⟨w.heap.size + 1, 3, none⟩ = some (.int .i64 ro2) := ⟨Bel.drew _, hk0, hk2, hk3⟩
    go_region_held3 (fun w' => Bel W w' ∧ w'.cell? ⟨w.heap.size, 0, none⟩ = some (.slice (some ad) xs.length c) ∧ w'.cell? ⟨w.heap.size + 1, 2, none⟩ = some (.int .i64 ro1) ∧ w'.cell? ⟨w.heap.size + 1, 3, none⟩ = some (.int .i64 ro2))
      (first | exact hst | exact ⟨Bel.trans (And.left (by assumption)) (by assumption), Bel.cell (by assumption) (And.left (And.right (by assumption))), Bel.cell (by assumption) (And.left (And.right (And.right (by assumption)))), Bel.cell (by assumption) (And.right (And.right (And.right (by assumption))))⟩)
      (first | (go_at_call_of 48 (Value.int .i64 ro1); (refine (HLL.out _ (Kd.C_below HCW.out (And.left (by assumption))) (HEW.out.bel (And.left (by assumption)))).mono ?_); rintro e w3 ⟨rfl, hb3⟩) | (go_at_call_of 48 (Value.int .i64 ro2); (refine (HRR.out _ (Kd.C_below HCW.out (And.left (by assumption))) (HEW.out.bel (And.left (by assumption)))).mono ?_); rintro e w3 ⟨rfl, hb3⟩))
    have HB3 := Lib.hid (HBW.out.trans (And.left (by assumption)))
    go_wp2_with fail
    go_ret
    exact ⟨ret_str (by unfold par; rw [if_neg (by simpa [lv] using hll)]; simp [ba_list]), HB3.out⟩

set_option maxRecDepth 100000 in
set_option maxHeartbeats 4000000 in
theorem show_7 {xs : List S53} {A : Option Addr} {c off : Nat} {n : Int} {l : RT} (hseg : Seg xs off (.node 7 n l .nil)) (hl : ShowC xs A c off l) (h1 : (showT l 2).length ≤ 20000) : ShowC xs A c off (.node 7 n l .nil) := by
  intro least w hC he
  obtain ⟨hr, hz, hlt⟩ := hseg.root
  obtain ⟨ad, B, O, rfl, hadd, hB, c0, c1, c2, c3⟩ := at53 hC _ hz hlt
  rw [hr] at c0 c1 c2 c3
  simp only at c0 c1 c2 c3
  simp only [RT.root] at c3
  obtain ⟨ro1, hro1⟩ : ∃ x, l.root off = x := ⟨_, rfl⟩
  obtain ⟨q1, hq1⟩ : ∃ q, showT l 2 = q := ⟨_, rfl⟩
  have hfin : showT (.node 7 n l .nil) least = par 7 least ([33] ++ q1) := by rw [← hq1]; rfl
  have HL : ∀ w, Kd.C k53 w (some ad) xs.length xs → Env w → Calls Tryd.prog 48 #[.agg #[.slice (some ad) xs.length c], .int .i64 ro1, .int .i64 2] w (RetStr w q1) := fun w h h' => by rw [← hro1, ← hq1]; exact hl 2 w h h'
  rw [hro1] at c2
  rw [hq1] at h1
  generalize (RT.node 7 n l .nil).root off = i at *
  have HLL := Lib.hid HL
  have HF := Lib.hid hfin
  have HCC := Lib.hid hC
  have HE := Lib.hid he
  have t1 : (9223372036854775807 < 1 + q1.length) = False := eq_false (by omega)
  have t4 : (9223372036854775807 < 1 + (1 + q1.length)) = False := eq_false (by omega)
  have t5 : (9223372036854775807 < 1 + (1 + q1.length) + 1) = False := eq_false (by omega)
  rw [HF.out]
  clear hr hseg hC hl HL hro1 hq1 hfin he h1
  by_cases hll : (2 : Int) < least
  · go_enter Tryd.func48, Tryd.ntmps48
    go_wp2_with fail
    have HBW : Hid (Bel w ((w.alloc (Obj.cells #[.slice (some ad) xs.length c] 25 (0, 0))).alloc (Obj.cells #[.int .i64 7, .int .i64 n, .int .i64 ro1, .int .i64 0] 53 (0, 0)))) := Lib.hid ((Bel.alloc w _).thenAlloc _)
    have hk0 : ((w.alloc (Obj.cells #[.slice (some ad) xs.length c] 25 (0, 0))).alloc (Obj.cells #[.int .i64 7, .int .i64 n, .int .i64 ro1, .int .i64 0] 53 (0, 0))).cell? ⟨w.heap.size, 0, none⟩ = some (.slice (some ad) xs.length c) := by simp
    have hk1 : ((w.alloc (Obj.cells #[.slice (some ad) xs.length c] 25 (0, 0))).alloc (Obj.cells #[.int .i64 7, .int .i64 n, .int .i64 ro1, .int .i64 0] 53 (0, 0))).cell? ⟨w.heap.size + 1, 0, none⟩ = some (.int .i64 7) := by simp
    have hk2 : ((w.alloc (Obj.cells #[.slice (some ad) xs.length c] 25 (0, 0))).alloc (Obj.cells #[.int .i64 7, .int .i64 n, .int .i64 ro1, .int .i64 0] 53 (0, 0))).cell? ⟨w.heap.size + 1, 2, none⟩ = some (.int .i64 ro1) := by simp
    have HEW := Lib.hid (HE.out.bel HBW.out)
    have HCW := Lib.hid (Kd.C_below HCC.out HBW.out)
    go_must (refine (HLL.out _ HCW.out HEW.out).mono ?_); rintro e w3 ⟨rfl, hb3⟩
    have HB3 := Lib.hid (HBW.out.trans hb3)
    clear hb3
    go_wp2_with fail
    go_ret
    exact ⟨ret_str (by unfold par; rw [if_pos (by simpa [lv] using hll)]; simp [ba_list]), HB3.out⟩
  · go_enter Tryd.func48, Tryd.ntmps48
    go_wp2_with fail
    have HBW : Hid (Bel w ((w.alloc (Obj.cells #[.slice (some ad) xs.length c] 25 (0, 0))).alloc (Obj.cells #[.int .i64 7, .int .i64 n, .int .i64 ro1, .int .i64 0] 53 (0, 0)))) := Lib.hid ((Bel.alloc w _).thenAlloc _)
    have hk0 : ((w.alloc (Obj.cells #[.slice (some ad) xs.length c] 25 (0, 0))).alloc (Obj.cells #[.int .i64 7, .int .i64 n, .int .i64 ro1, .int .i64 0] 53 (0, 0))).cell? ⟨w.heap.size, 0, none⟩ = some (.slice (some ad) xs.length c) := by simp
    have hk1 : ((w.alloc (Obj.cells #[.slice (some ad) xs.length c] 25 (0, 0))).alloc (Obj.cells #[.int .i64 7, .int .i64 n, .int .i64 ro1, .int .i64 0] 53 (0, 0))).cell? ⟨w.heap.size + 1, 0, none⟩ = some (.int .i64 7) := by simp
    have hk2 : ((w.alloc (Obj.cells #[.slice (some ad) xs.length c] 25 (0, 0))).alloc (Obj.cells #[.int .i64 7, .int .i64 n, .int .i64 ro1, .int .i64 0] 53 (0, 0))).cell? ⟨w.heap.size + 1, 2, none⟩ = some (.int .i64 ro1) := by simp
    have HEW := Lib.hid (HE.out.bel HBW.out)
    have HCW := Lib.hid (Kd.C_below HCC.out HBW.out)
    go_must (refine (HLL.out _ HCW.out HEW.out).mono ?_); rintro e w3 ⟨rfl, hb3⟩
    have HB3 := Lib.hid (HBW.out.trans hb3)
    clear hb3
    go_wp2_with fail
    go_ret
    exact ⟨ret_str (by unfold par; rw [if_neg (by simpa [lv] using hll)]; simp [ba_list]), HB3.out⟩

theorem lv_un {kd : Int} (h8 : 8 ≤ kd) (h13 : kd ≤ 13) : lv kd = 3 := by unfold lv; rw [if_neg (by omega), if_neg (by omega), if_neg (by omega)]
set_option maxRecDepth 100000 in
set_option maxHeartbeats 4000000 in
theorem show_un {kd : Int} (h8 : 8 ≤ kd) (h13 : kd ≤ 13) {xs : List S53} {A : Option Addr} {c off : Nat} {n : Int} {l : RT} (hseg : Seg xs off (.node kd n l .nil)) (hl : ShowC xs A c off l) (h1 : (showT l 0).length ≤ 20000) : ShowC xs A c off (.node kd n l .nil) := by
  intro least w hC he
  obtain ⟨hr, hz, hlt⟩ := hseg.root
  obtain ⟨ad, B, O, rfl, hadd, hB, c0, c1, c2, c3⟩ := at53 hC _ hz hlt
  rw [hr] at c0 c1 c2 c3
  simp only at c0 c1 c2 c3
  simp only [RT.root] at c3
  obtain ⟨ro1, hro1⟩ : ∃ x, l.root off = x := ⟨_, rfl⟩
  obtain ⟨q1, hq1⟩ : ∃ q, showT l 0 = q := ⟨_, rfl⟩
  have hw := he.word kd.toNat (by omega)
  rw [Int.toNat_of_nonneg (by omega)] at hw
  have hq0' := wd_length kd (by omega) h13
  obtain ⟨q0, hq0⟩ : ∃ q, wd kd = q := ⟨_, rfl⟩
  have hpos : 0 < w.heap.size := by obtain ⟨t, fr, h⟩ := he.words; exact (Array.getElem?_eq_some_iff.1 h).1
  have hfin : showT (.node kd n l .nil) least = par kd least (q0 ++ [40] ++ q1 ++ [41]) := by
    rw [← hq1, ← hq0, showT, if_neg (by omega), if_neg (by omega), if_neg (by omega), if_neg (by omega), if_neg (by omega), if_neg (by omega), if_neg (by omega)]
  rw [hq0] at hw hq0'
  have HL : ∀ w, Kd.C k53 w (some ad) xs.length xs → Env w → Calls Tryd.prog 48 #[.agg #[.slice (some ad) xs.length c], .int .i64 ro1, .int .i64 0] w (RetStr w q1) := fun w h h' => by rw [← hro1, ← hq1]; exact hl 0 w h h'
  rw [hro1] at c2
  rw [hq1] at h1
  generalize (RT.node kd n l .nil).root off = i at *
  have HLL := Lib.hid HL
  have HF := Lib.hid hfin
  have HLV := Lib.hid (lv_un h8 h13)
  have HCC := Lib.hid hC
  have HE := Lib.hid he
  have e14 : (kd == 14) = false := by simp; omega
  have e15 : (kd == 15) = false := by simp; omega
  have e16 : (kd == 16) = false := by simp; omega
  have e7 : (kd == 7) = false := by simp; omega
  have e3 : (kd == 3) = false := by simp; omega
  have e4 : (kd == 4) = false := by simp; omega
  have e5 : (kd == 5) = false := by simp; omega
  have e1 : (kd == 1) = false := by simp; omega
  have e2 : (kd == 2) = false := by simp; omega
  have e6 : (kd == 6) = false := by simp; omega
  have hk14 : kd < 14 := by omega
  have hk0' : 0 ≤ kd := by omega
  have t1 : (9223372036854775807 < q0.length + 1) = False := eq_false (by omega)
  have t2 : (9223372036854775807 < q0.length + 1 + q1.length) = False := eq_false (by omega)
  have t3 : (9223372036854775807 < q0.length + 1 + q1.length + 1) = False := eq_false (by omega)
  have t4 : (9223372036854775807 < 1 + (q0.length + 1 + q1.length + 1)) = False := eq_false (by omega)
  have t5 : (9223372036854775807 < 1 + (q0.length + 1 + q1.length + 1) + 1) = False := eq_false (by omega)
  rw [HF.out]
  clear hr hseg hC hl HL hro1 hq1 hfin he h1 hq0 hq0'
  by_cases hll : (3 : Int) < least
  · go_enter Tryd.func48, Tryd.ntmps48
    go_wp2_with fail
    have HBW : Hid (Bel w ((w.alloc (Obj.cells #[.slice (some ad) xs.length c] 25 (0, 0))).alloc (Obj.cells #[.int .i64 kd, .int .i64 n, .int .i64 ro1, .int .i64 0] 53 (0, 0)))) := Lib.hid ((Bel.alloc w _).thenAlloc _)
    have hk0 : ((w.alloc (Obj.cells #[.slice (some ad) xs.length c] 25 (0, 0))).alloc (Obj.cells #[.int .i64 kd, .int .i64 n, .int .i64 ro1, .int .i64 0] 53 (0, 0))).cell? ⟨w.heap.size, 0, none⟩ = some (.slice (some ad) xs.length c) := by simp
    have hk1 : ((w.alloc (Obj.cells #[.slice (some ad) xs.length c] 25 (0, 0))).alloc (Obj.cells #[.int .i64 kd, .int .i64 n, .int .i64 ro1, .int .i64 0] 53 (0, 0))).cell? ⟨w.heap.size + 1, 0, none⟩ = some (.int .i64 kd) := by simp
    have hk2 : ((w.alloc (Obj.cells #[.slice (some ad) xs.length c] 25 (0, 0))).alloc (Obj.cells #[.int .i64 kd, .int .i64 n, .int .i64 ro1, .int .i64 0] 53 (0, 0))).cell? ⟨w.heap.size + 1, 2, none⟩ = some (.int .i64 ro1) := by simp
    have HEW := Lib.hid (HE.out.bel HBW.out)
    have HCW := Lib.hid (Kd.C_below HCC.out HBW.out)
    have hww := HBW.out.cell hw
    generalize ((w.alloc (Obj.cells #[.slice (some ad) xs.length c] 25 (0, 0))).alloc (Obj.cells #[.int .i64 kd, .int .i64 n, .int .i64 ro1, .int .i64 0] 53 (0, 0))) = W at *
    have hst : Bel W W.drew ∧ W.drew.cell? ⟨0, kd.toNat, none⟩ = some (.string ⟨q0.toArray⟩) ∧ W.drew.cell? ⟨w.heap.size, 0, none⟩ = some (.slice (some ad) xs.length c) ∧ W.drew.cell? ⟨w.heap.size + 1, 0, none⟩ = some (.int .i64 kd) ∧ W.drew.cell? ⟨w.heap.size + 1, 2, none⟩ = some (.int .i64 ro1) := ⟨Bel.drew _, hww, hk0, hk1, hk2⟩
    go_region_held3 (fun w' => Bel W w' ∧ w'.cell? ⟨0, kd.toNat, none⟩ = some (.string ⟨q0.toArray⟩) ∧ w'.cell? ⟨w.heap.size, 0, none⟩ = some (.slice (some ad) xs.length c) ∧ w'.cell? ⟨w.heap.size + 1, 0, none⟩ = some (.int .i64 kd) ∧ w'.cell? ⟨w.heap.size + 1, 2, none⟩ = some (.int .i64 ro1))
      (first | exact hst | exact ⟨Bel.trans (And.left (by assumption)) (by assumption), Bel.cell (by assumption) (And.left (And.right (by assumption))), Bel.cell (by assumption) (And.left (And.right (And.right (by assumption)))), Bel.cell (by assumption) (And.left (And.right (And.right (And.right (by assumption))))), Bel.cell (by assumption) (And.right (And.right (And.right (And.right (by assumption)))))⟩)
      ((go_at_call 48; (refine (HLL.out _ (Kd.C_below HCW.out (And.left (by assumption))) (HEW.out.bel (And.left (by assumption)))).mono ?_); rintro e w3 ⟨rfl, hb3⟩))
    have HB3 := Lib.hid (HBW.out.trans (And.left (by assumption)))
    go_wp2_with fail
    go_ret
    exact ⟨ret_str (by unfold par; rw [HLV.out, if_pos (by omega)]; simp [ba_list]), HB3.out⟩
  · go_enter Tryd.func48, Tryd.ntmps48
    go_wp2_with fail
    have HBW : Hid (Bel w ((w.alloc (Obj.cells #[.slice (some ad) xs.length c] 25 (0, 0))).alloc (Obj.cells #[.int .i64 kd, .int .i64 n, .int .i64 ro1, .int .i64 0] 53 (0, 0)))) := Lib.hid ((Bel.alloc w _).thenAlloc _)
    have hk0 : ((w.alloc (Obj.cells #[.slice (some ad) xs.length c] 25 (0, 0))).alloc (Obj.cells #[.int .i64 kd, .int .i64 n, .int .i64 ro1, .int .i64 0] 53 (0, 0))).cell? ⟨w.heap.size, 0, none⟩ = some (.slice (some ad) xs.length c) := by simp
    have hk1 : ((w.alloc (Obj.cells #[.slice (some ad) xs.length c] 25 (0, 0))).alloc (Obj.cells #[.int .i64 kd, .int .i64 n, .int .i64 ro1, .int .i64 0] 53 (0, 0))).cell? ⟨w.heap.size + 1, 0, none⟩ = some (.int .i64 kd) := by simp
    have hk2 : ((w.alloc (Obj.cells #[.slice (some ad) xs.length c] 25 (0, 0))).alloc (Obj.cells #[.int .i64 kd, .int .i64 n, .int .i64 ro1, .int .i64 0] 53 (0, 0))).cell? ⟨w.heap.size + 1, 2, none⟩ = some (.int .i64 ro1) := by simp
    have HEW := Lib.hid (HE.out.bel HBW.out)
    have HCW := Lib.hid (Kd.C_below HCC.out HBW.out)
    have hww := HBW.out.cell hw
    generalize ((w.alloc (Obj.cells #[.slice (some ad) xs.length c] 25 (0, 0))).alloc (Obj.cells #[.int .i64 kd, .int .i64 n, .int .i64 ro1, .int .i64 0] 53 (0, 0))) = W at *
    have hst : Bel W W.drew ∧ W.drew.cell? ⟨0, kd.toNat, none⟩ = some (.string ⟨q0.toArray⟩) ∧ W.drew.cell? ⟨w.heap.size, 0, none⟩ = some (.slice (some ad) xs.length c) ∧ W.drew.cell? ⟨w.heap.size + 1, 0, none⟩ = some (.int .i64 kd) ∧ W.drew.cell? ⟨w.heap.size + 1, 2, none⟩ = some (.int .i64 ro1) := ⟨Bel.drew _, hww, hk0, hk1, hk2⟩
    go_region_held3 (fun w' => Bel W w' ∧ w'.cell? ⟨0, kd.toNat, none⟩ = some (.string ⟨q0.toArray⟩) ∧ w'.cell? ⟨w.heap.size, 0, none⟩ = some (.slice (some ad) xs.length c) ∧ w'.cell? ⟨w.heap.size + 1, 0, none⟩ = some (.int .i64 kd) ∧ w'.cell? ⟨w.heap.size + 1, 2, none⟩ = some (.int .i64 ro1))
      (first | exact hst | exact ⟨Bel.trans (And.left (by assumption)) (by assumption), Bel.cell (by assumption) (And.left (And.right (by assumption))), Bel.cell (by assumption) (And.left (And.right (And.right (by assumption)))), Bel.cell (by assumption) (And.left (And.right (And.right (And.right (by assumption))))), Bel.cell (by assumption) (And.right (And.right (And.right (And.right (by assumption)))))⟩)
      ((go_at_call 48; (refine (HLL.out _ (Kd.C_below HCW.out (And.left (by assumption))) (HEW.out.bel (And.left (by assumption)))).mono ?_); rintro e w3 ⟨rfl, hb3⟩))
    have HB3 := Lib.hid (HBW.out.trans (And.left (by assumption)))
    go_wp2_with fail
    go_ret
    exact ⟨ret_str (by unfold par; rw [HLV.out, if_neg (by omega)]; simp [ba_list]), HB3.out⟩

/-- show writes every right tree. -/
theorem show_any {t : RT} (hs : Sh t) : NOk t → t.size ≤ 1000 → ∀ (xs : List S53) (A : Option Addr) (c off : Nat), Seg xs off t → ShowC xs A c off t := by
  induction hs with
  | @leaf kd n h1 h6 =>
    intro hn hz xs A c off hseg least w hC he
    exact show_leaf xs A c kd n h1 h6 hn.1 hn.2.1 off least w hseg hC he
  | @un kd n l h7 h13 hl ih =>
    intro hn hz xs A c off hseg
    simp only [RT.size] at hz
    have hl0 := showT_length hl hn.2.2.1
    have IH := ih hn.2.2.1 (by omega) xs A c off hseg.left
    by_cases h7' : kd = 7
    · subst h7'; exact show_7 hseg IH (by have := hl0 2; omega)
    · exact show_un (by omega) h13 hseg IH (by have := hl0 0; omega)
  | @bin kd n l r h14 h16 hl hr ihl ihr =>
    intro hn hz xs A c off hseg
    simp only [RT.size] at hz
    have hl0 := showT_length hl hn.2.2.1
    have hr0 := showT_length hr hn.2.2.2
    have IHL := ihl hn.2.2.1 (by omega) xs A c off hseg.left
    have IHR := ihr hn.2.2.2 (by omega) xs A c _ hseg.right
    have hk : kd = 14 ∨ kd = 15 ∨ kd = 16 := by omega
    rcases hk with rfl | rfl | rfl
    · exact show_14 hseg IHL IHR (by have := hl0 0; omega) (by have := hr0 1; omega)
    · exact show_15 hseg IHL IHR (by have := hl0 1; omega) (by have := hr0 2; omega)
    · exact show_16 hseg IHL IHR (by have := hl0 1; omega) (by have := hr0 2; omega)

end Go.Proofs.YtijaoedlhmdpnaaDoor
