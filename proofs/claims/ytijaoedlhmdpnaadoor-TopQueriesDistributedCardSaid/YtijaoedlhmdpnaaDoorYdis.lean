/- TopQueriesDistributed: for every input the call returns true and each argument reads as it read, where the package-level variables that the row lists hold what the program's text lays in them: the row, and its tied card. -/
import Derived.Test.YtijaoedlhmdpnaaDoorZ7
import Derived.BigQuiet
import Derived.Test.YtijaoedlhmdpnaaDoorCards
import Derived.Test.YtijaoedlhmdpnaaDoorTie
import Derived.SevenTiedAt
set_option linter.unusedVariables false
set_option linter.unusedSimpArgs false
/- The closure of TopQueriesDistributed walked. -/
namespace Go.Proofs.YtijaoedlhmdpnaaDoor
open Go.RowKit Go.Proofs.YtijaoedlhmdpnaaDoor.PTopQueriesKept Go.Proofs.YtijaoedlhmdpnaaDoorW.PrintWords

set_option maxRecDepth 100000 in
set_option maxHeartbeats 4000000 in
theorem dis_no {w : World} {b : Nat} {k n : Int} {pl pr : Option Addr} (hc : w.heap[b]? = some (.cells #[.int .i64 k, .int .i64 n, .pointer pl, .pointer pr] 36 (0, 0))) (hk : k < 14) :
    Calls Tryd.prog 27 #[.pointer (some ⟨b, 0, none⟩)] w fun e w' => e = .returned (.pointer none) ∧ Bel w w' := by
  obtain ⟨⟨c0, c1, c2, c3⟩, _⟩ := blk4 hc
  have ek0 : (k == 14) = false := by simpa using (show k ≠ 14 by omega)
  have fk0 : (k != 14) = true := by simpa using (show k ≠ 14 by omega)
  have ek1 : (k == 15) = false := by simpa using (show k ≠ 15 by omega)
  have fk1 : (k != 15) = true := by simpa using (show k ≠ 15 by omega)
  have ek2 : (k == 16) = false := by simpa using (show k ≠ 16 by omega)
  have fk2 : (k != 16) = true := by simpa using (show k ≠ 16 by omega)
  clear hc
  have HW := Lib.hid (Bel.refl w)
  go_enter Tryd.func27, Tryd.ntmps27
  go_wp2_with fail
  go_quiet (fail)
  go_wp2_with fail
  go_ret
  exact ⟨rfl, (by repeat (first | exact Bel.refl _ | refine Bel.trans ?_ (Bel.drew _) | refine Bel.trans ?_ (Bel.drewN _ _) | refine Bel.trans ?_ (Bel.alloc _ _)))⟩
set_option maxRecDepth 100000 in
set_option maxHeartbeats 4000000 in
theorem dis_16a {w : World} {base : Nat} {b bl br : Nat} {n nl nr kr : Int} {r ll lr : RT} {pll plr prl prr : Option Addr} (hb : base ≤ w.heap.size) (hc : w.heap[b]? = some (.cells #[.int .i64 16, .int .i64 n, .pointer (some ⟨bl, 0, none⟩), .pointer (some ⟨br, 0, none⟩)] 36 (0, 0))) (hcl : w.heap[bl]? = some (.cells #[.int .i64 14, .int .i64 nl, .pointer pll, .pointer plr] 36 (0, 0))) (hcr : w.heap[br]? = some (.cells #[.int .i64 kr, .int .i64 nr, .pointer prl, .pointer prr] 36 (0, 0))) (hll : Tr 36 w base ll (.pointer pll)) (hlr : Tr 36 w base lr (.pointer plr)) (hr : Tr 36 w base r (.pointer (some ⟨br, 0, none⟩))) :
    Calls Tryd.prog 27 #[.pointer (some ⟨b, 0, none⟩)] w (Ret 36 w base (.node 14 0 (.node 16 0 ll r) (.node 16 0 lr r))) := by
  obtain ⟨⟨c0, c1, c2, c3⟩, _⟩ := blk4 hc
  obtain ⟨⟨d0, d1, d2, d3⟩, _⟩ := blk4 hcl
  obtain ⟨⟨g0, g1, g2, g3⟩, _⟩ := blk4 hcr
  have hs1 : Bel w w ∧ w.cell? ⟨bl, 2, none⟩ = some (.pointer pll) ∧ w.cell? ⟨bl, 3, none⟩ = some (.pointer plr) := ⟨Bel.refl _, d2, d3⟩
  have HSZ := Lib.hid hb
  clear hc hcl hcr
  go_enter Tryd.func27, Tryd.ntmps27
  go_wp2_with fail
  go_quiet (fail)
  go_wp2_with fail
  generalize hWv : World.drewN w _ = v at *
  have hBv : Bel w v := hWv ▸ (Bel.drewN _ _)
  go_region_held3 (fun w' => Bel w w' ∧ w'.cell? ⟨bl, 2, none⟩ = some (.pointer pll) ∧ w'.cell? ⟨bl, 3, none⟩ = some (.pointer plr))
    (first | assumption | exact keep2 hs1 (Bel.trans hBv (Bel.drew _)) | exact keep2 hs1 (Bel.drew _) | exact keep2 (by assumption) (by assumption) | exact keep2 (by assumption) (Bel.alloc _ _) | exact keep2 hs1 ((Bel.alloc _ _).trans (Bel.drew _)) | exact keep2 hs1 (Bel.trans (And.left (by assumption)) (Bel.drew _)) | exact keep2 hs1 (And.left (by assumption)) | exact keep2 hs1 (Bel.trans (And.left (by assumption)) ((Bel.alloc _ _).trans (Bel.drew _))) | (refine keep2 hs1 ?_; (repeat (first | exact Bel.refl _ | refine Bel.trans ?_ (Bel.drew _) | refine Bel.trans ?_ (Bel.drewN _ _) | refine Bel.trans ?_ (Bel.alloc _ _))); done))
    (first
      | (go_at_call_of 18 (Value.int .i64 16); (refine Calls.mono (wRevOf_two 16 _ _ (.pointer pll) (.pointer (some ⟨br, 0, none⟩)) _ ?_ ?_ ll r base (Nat.le_trans HSZ.out (Bel.size (And.left (by assumption)))) (hll.bel (And.left (by assumption))) (hr.bel (And.left (by assumption)))) ?_); (focus ((repeat (first | (simp; done) | refine Bel.cell (Bel.alloc _ _) ?_ | refine Bel.cell (by assumption) ?_)); done)); (focus ((repeat (first | (simp; done) | refine Bel.cell (Bel.alloc _ _) ?_ | refine Bel.cell (by assumption) ?_)); done)); rintro e w2 ⟨p2, rfl, ht2, hb2⟩)
      | (go_at_call 19; (refine Calls.mono (wSame_any r (.pointer (some ⟨br, 0, none⟩)) _ _ base (hr.bel (And.left (by assumption))) (Nat.le_trans HSZ.out (Bel.size (And.left (by assumption))))) ?_); rintro e w1 ⟨p1, rfl, ht1, hb1⟩)
      | (go_at_call_of 18 (Value.int .i64 16); (refine Calls.mono (wRevOf_two 16 _ _ (.pointer plr) (.pointer p1) _ ?_ ?_ lr r base (Nat.le_trans HSZ.out (Bel.size (And.left (by assumption)))) (hlr.bel (And.left (by assumption))) (by repeat (first | assumption | refine Tr.bel ?_ (Bel.alloc _ _) | refine Tr.bel ?_ (by assumption)))) ?_); (focus ((repeat (first | (simp; done) | refine Bel.cell (Bel.alloc _ _) ?_ | refine Bel.cell (by assumption) ?_)); done)); (focus ((repeat (first | (simp; done) | refine Bel.cell (Bel.alloc _ _) ?_ | refine Bel.cell (by assumption) ?_)); done)); rintro e w3 ⟨p3, rfl, ht3, hb3⟩)
      | (go_at_call_of 18 (Value.int .i64 14); (refine Calls.mono (wRevOf_two 14 _ _ (.pointer p2) (.pointer p3) _ ?_ ?_ (.node 16 0 ll r) (.node 16 0 lr r) base (Nat.le_trans HSZ.out (Bel.size (And.left (by assumption)))) (by repeat (first | assumption | refine Tr.bel ?_ (Bel.alloc _ _) | refine Tr.bel ?_ (by assumption))) (by repeat (first | assumption | refine Tr.bel ?_ (Bel.alloc _ _) | refine Tr.bel ?_ (by assumption)))) ?_); (focus ((repeat (first | (simp; done) | refine Bel.cell (Bel.alloc _ _) ?_ | refine Bel.cell (by assumption) ?_)); done)); (focus ((repeat (first | (simp; done) | refine Bel.cell (Bel.alloc _ _) ?_ | refine Bel.cell (by assumption) ?_)); done)); rintro e w4 ⟨p4, rfl, ht4, hb4⟩))
  all_goals
    go_wp2_with fail
    go_ret
    exact ⟨_, rfl, ht4, And.left (by assumption)⟩
set_option maxRecDepth 100000 in
set_option maxHeartbeats 4000000 in
theorem dis_16b {w : World} {base : Nat} {b bl br : Nat} {n nl nr kr : Int} {r ll lr : RT} {pll plr prl prr : Option Addr} (hb : base ≤ w.heap.size) (hc : w.heap[b]? = some (.cells #[.int .i64 16, .int .i64 n, .pointer (some ⟨bl, 0, none⟩), .pointer (some ⟨br, 0, none⟩)] 36 (0, 0))) (hcl : w.heap[bl]? = some (.cells #[.int .i64 15, .int .i64 nl, .pointer pll, .pointer plr] 36 (0, 0))) (hcr : w.heap[br]? = some (.cells #[.int .i64 kr, .int .i64 nr, .pointer prl, .pointer prr] 36 (0, 0))) (hll : Tr 36 w base ll (.pointer pll)) (hlr : Tr 36 w base lr (.pointer plr)) (hr : Tr 36 w base r (.pointer (some ⟨br, 0, none⟩))) :
    Calls Tryd.prog 27 #[.pointer (some ⟨b, 0, none⟩)] w (Ret 36 w base (.node 15 0 ll (.node 16 0 lr r))) := by
  obtain ⟨⟨c0, c1, c2, c3⟩, _⟩ := blk4 hc
  obtain ⟨⟨d0, d1, d2, d3⟩, _⟩ := blk4 hcl
  obtain ⟨⟨g0, g1, g2, g3⟩, _⟩ := blk4 hcr
  have hs1 : Bel w w ∧ w.cell? ⟨bl, 2, none⟩ = some (.pointer pll) ∧ w.cell? ⟨bl, 3, none⟩ = some (.pointer plr) := ⟨Bel.refl _, d2, d3⟩
  have HSZ := Lib.hid hb
  clear hc hcl hcr
  go_enter Tryd.func27, Tryd.ntmps27
  go_wp2_with fail
  go_quiet (fail)
  go_wp2_with fail
  generalize hWv : World.drewN w _ = v at *
  have hBv : Bel w v := hWv ▸ (Bel.drewN _ _)
  go_region_held3 (fun w' => Bel w w' ∧ w'.cell? ⟨bl, 2, none⟩ = some (.pointer pll) ∧ w'.cell? ⟨bl, 3, none⟩ = some (.pointer plr))
    (first | assumption | exact keep2 hs1 (Bel.trans hBv (Bel.drew _)) | exact keep2 hs1 (Bel.drew _) | exact keep2 (by assumption) (by assumption) | exact keep2 (by assumption) (Bel.alloc _ _) | exact keep2 hs1 ((Bel.alloc _ _).trans (Bel.drew _)) | exact keep2 hs1 (Bel.trans (And.left (by assumption)) (Bel.drew _)) | exact keep2 hs1 (And.left (by assumption)) | exact keep2 hs1 (Bel.trans (And.left (by assumption)) ((Bel.alloc _ _).trans (Bel.drew _))) | (refine keep2 hs1 ?_; (repeat (first | exact Bel.refl _ | refine Bel.trans ?_ (Bel.drew _) | refine Bel.trans ?_ (Bel.drewN _ _) | refine Bel.trans ?_ (Bel.alloc _ _))); done))
    (first
      | (go_at_call_of 18 (Value.int .i64 16); (refine Calls.mono (wRevOf_two 16 _ _ (.pointer plr) (.pointer (some ⟨br, 0, none⟩)) _ ?_ ?_ lr r base (Nat.le_trans HSZ.out (Bel.size (And.left (by assumption)))) (hlr.bel (And.left (by assumption))) (hr.bel (And.left (by assumption)))) ?_); (focus ((repeat (first | (simp; done) | refine Bel.cell (Bel.alloc _ _) ?_ | refine Bel.cell (by assumption) ?_)); done)); (focus ((repeat (first | (simp; done) | refine Bel.cell (Bel.alloc _ _) ?_ | refine Bel.cell (by assumption) ?_)); done)); rintro e w1 ⟨p1, rfl, ht1, hb1⟩)
      | (go_at_call_of 18 (Value.int .i64 15); (refine Calls.mono (wRevOf_two 15 _ _ (.pointer pll) (.pointer p1) _ ?_ ?_ ll (.node 16 0 lr r) base (Nat.le_trans HSZ.out (Bel.size (And.left (by assumption)))) (hll.bel (And.left (by assumption))) (by repeat (first | assumption | refine Tr.bel ?_ (Bel.alloc _ _) | refine Tr.bel ?_ (by assumption)))) ?_); (focus ((repeat (first | (simp; done) | refine Bel.cell (Bel.alloc _ _) ?_ | refine Bel.cell (by assumption) ?_)); done)); (focus ((repeat (first | (simp; done) | refine Bel.cell (Bel.alloc _ _) ?_ | refine Bel.cell (by assumption) ?_)); done)); rintro e w2 ⟨p2, rfl, ht2, hb2⟩))
  all_goals
    go_wp2_with fail
    go_ret
    exact ⟨_, rfl, ht2, And.left (by assumption)⟩
set_option maxRecDepth 100000 in
set_option maxHeartbeats 4000000 in
theorem dis_16n {w : World} {b bl br : Nat} {n nl nr kl kr : Int} {pll plr prl prr : Option Addr} (hc : w.heap[b]? = some (.cells #[.int .i64 16, .int .i64 n, .pointer (some ⟨bl, 0, none⟩), .pointer (some ⟨br, 0, none⟩)] 36 (0, 0))) (hcl : w.heap[bl]? = some (.cells #[.int .i64 kl, .int .i64 nl, .pointer pll, .pointer plr] 36 (0, 0))) (hcr : w.heap[br]? = some (.cells #[.int .i64 kr, .int .i64 nr, .pointer prl, .pointer prr] 36 (0, 0))) (hkl : kl ≠ 14) (hkl2 : kl ≠ 15) :
    Calls Tryd.prog 27 #[.pointer (some ⟨b, 0, none⟩)] w fun e w' => e = .returned (.pointer none) ∧ Bel w w' := by
  obtain ⟨⟨c0, c1, c2, c3⟩, _⟩ := blk4 hc
  obtain ⟨⟨d0, d1, d2, d3⟩, _⟩ := blk4 hcl
  obtain ⟨⟨g0, g1, g2, g3⟩, _⟩ := blk4 hcr
  have ekl0 : (kl == 14) = false := by simpa using (show kl ≠ 14 by omega)
  have fkl0 : (kl != 14) = true := by simpa using (show kl ≠ 14 by omega)
  have ekl1 : (kl == 15) = false := by simpa using (show kl ≠ 15 by omega)
  have fkl1 : (kl != 15) = true := by simpa using (show kl ≠ 15 by omega)
  have qkl0 : (14 == kl) = false := by simpa using (show 14 ≠ kl by omega)
  have qkl1 : (15 == kl) = false := by simpa using (show 15 ≠ kl by omega)
  have HW := Lib.hid (Bel.refl w)
  clear hc hcl hcr
  go_enter Tryd.func27, Tryd.ntmps27
  go_wp2_with fail
  go_quiet (fail)
  go_wp2_with fail
  go_ret
  exact ⟨rfl, (by repeat (first | exact Bel.refl _ | refine Bel.trans ?_ (Bel.drew _) | refine Bel.trans ?_ (Bel.drewN _ _) | refine Bel.trans ?_ (Bel.alloc _ _)))⟩
set_option maxRecDepth 100000 in
set_option maxHeartbeats 4000000 in
theorem dis_14a {w : World} {base : Nat} {b bl br : Nat} {n nl nr kl : Int} {l rl rr : RT} {pll plr prl prr : Option Addr} (hb : base ≤ w.heap.size) (hc : w.heap[b]? = some (.cells #[.int .i64 14, .int .i64 n, .pointer (some ⟨bl, 0, none⟩), .pointer (some ⟨br, 0, none⟩)] 36 (0, 0))) (hcl : w.heap[bl]? = some (.cells #[.int .i64 kl, .int .i64 nl, .pointer pll, .pointer plr] 36 (0, 0))) (hcr : w.heap[br]? = some (.cells #[.int .i64 15, .int .i64 nr, .pointer prl, .pointer prr] 36 (0, 0))) (hl : Tr 36 w base l (.pointer (some ⟨bl, 0, none⟩))) (hrl : Tr 36 w base rl (.pointer prl)) (hrr : Tr 36 w base rr (.pointer prr)) :
    Calls Tryd.prog 27 #[.pointer (some ⟨b, 0, none⟩)] w (Ret 36 w base (.node 15 0 (.node 14 0 l rl) (.node 14 0 l rr))) := by
  obtain ⟨⟨c0, c1, c2, c3⟩, _⟩ := blk4 hc
  obtain ⟨⟨d0, d1, d2, d3⟩, _⟩ := blk4 hcl
  obtain ⟨⟨g0, g1, g2, g3⟩, _⟩ := blk4 hcr
  have hs1 : Bel w w ∧ w.cell? ⟨b, 0, none⟩ = some (.int .i64 14) ∧ w.cell? ⟨br, 2, none⟩ = some (.pointer prl) ∧ w.cell? ⟨br, 3, none⟩ = some (.pointer prr) := ⟨Bel.refl _, c0, g2, g3⟩
  have HSZ := Lib.hid hb
  clear hc hcl hcr
  go_enter Tryd.func27, Tryd.ntmps27
  go_wp2_with fail
  go_quiet (fail)
  go_wp2_with fail
  generalize hWv : World.drewN w _ = v at *
  have hBv : Bel w v := hWv ▸ (Bel.drewN _ _)
  go_region_held3 (fun w' => Bel w w' ∧ w'.cell? ⟨b, 0, none⟩ = some (.int .i64 14) ∧ w'.cell? ⟨br, 2, none⟩ = some (.pointer prl) ∧ w'.cell? ⟨br, 3, none⟩ = some (.pointer prr))
    (first | assumption | exact keep3 hs1 (Bel.trans hBv (Bel.drew _)) | exact keep3 hs1 (Bel.drew _) | exact keep3 (by assumption) (by assumption) | exact keep3 (by assumption) (Bel.alloc _ _) | exact keep3 hs1 ((Bel.alloc _ _).trans (Bel.drew _)) | exact keep3 hs1 (Bel.trans (And.left (by assumption)) (Bel.drew _)) | exact keep3 hs1 (And.left (by assumption)) | exact keep3 hs1 (Bel.trans (And.left (by assumption)) ((Bel.alloc _ _).trans (Bel.drew _))) | (refine keep3 hs1 ?_; (repeat (first | exact Bel.refl _ | refine Bel.trans ?_ (Bel.drew _) | refine Bel.trans ?_ (Bel.drewN _ _) | refine Bel.trans ?_ (Bel.alloc _ _))); done))
    (first
      | (go_at_call_of 18 (Value.int .i64 14); (refine Calls.mono (wRevOf_two 14 _ _ (.pointer (some ⟨bl, 0, none⟩)) (.pointer prr) _ ?_ ?_ l rr base (Nat.le_trans HSZ.out (Bel.size (And.left (by assumption)))) (hl.bel (And.left (by assumption))) (hrr.bel (And.left (by assumption)))) ?_); (focus ((repeat (first | (simp; done) | refine Bel.cell (Bel.alloc _ _) ?_ | refine Bel.cell (by assumption) ?_)); done)); (focus ((repeat (first | (simp; done) | refine Bel.cell (Bel.alloc _ _) ?_ | refine Bel.cell (by assumption) ?_)); done)); rintro e w2 ⟨p2, rfl, ht2, hb2⟩)
      | (go_at_call 19; (refine Calls.mono (wSame_any l (.pointer (some ⟨bl, 0, none⟩)) _ _ base (hl.bel (And.left (by assumption))) (Nat.le_trans HSZ.out (Bel.size (And.left (by assumption))))) ?_); rintro e w1 ⟨p1, rfl, ht1, hb1⟩)
      | (go_at_call_of 18 (Value.int .i64 14); (refine Calls.mono (wRevOf_two 14 _ _ (.pointer p1) (.pointer prl) _ ?_ ?_ l rl base (Nat.le_trans HSZ.out (Bel.size (And.left (by assumption)))) (by repeat (first | assumption | refine Tr.bel ?_ (Bel.alloc _ _) | refine Tr.bel ?_ (by assumption))) (hrl.bel (And.left (by assumption)))) ?_); (focus ((repeat (first | (simp; done) | refine Bel.cell (Bel.alloc _ _) ?_ | refine Bel.cell (by assumption) ?_)); done)); (focus ((repeat (first | (simp; done) | refine Bel.cell (Bel.alloc _ _) ?_ | refine Bel.cell (by assumption) ?_)); done)); rintro e w3 ⟨p3, rfl, ht3, hb3⟩)
      | (go_at_call_of 18 (Value.int .i64 15); (refine Calls.mono (wRevOf_two 15 _ _ (.pointer p3) (.pointer p2) _ ?_ ?_ (.node 14 0 l rl) (.node 14 0 l rr) base (Nat.le_trans HSZ.out (Bel.size (And.left (by assumption)))) (by repeat (first | assumption | refine Tr.bel ?_ (Bel.alloc _ _) | refine Tr.bel ?_ (by assumption))) (by repeat (first | assumption | refine Tr.bel ?_ (Bel.alloc _ _) | refine Tr.bel ?_ (by assumption)))) ?_); (focus ((repeat (first | (simp; done) | refine Bel.cell (Bel.alloc _ _) ?_ | refine Bel.cell (by assumption) ?_)); done)); (focus ((repeat (first | (simp; done) | refine Bel.cell (Bel.alloc _ _) ?_ | refine Bel.cell (by assumption) ?_)); done)); rintro e w4 ⟨p4, rfl, ht4, hb4⟩))
  all_goals
    go_wp2_with fail
    go_ret
    exact ⟨_, rfl, ht4, And.left (by assumption)⟩
set_option maxRecDepth 100000 in
set_option maxHeartbeats 4000000 in
theorem dis_14b {w : World} {base : Nat} {b bl br : Nat} {n nl nr kr : Int} {r ll lr : RT} {pll plr prl prr : Option Addr} (hb : base ≤ w.heap.size) (hc : w.heap[b]? = some (.cells #[.int .i64 14, .int .i64 n, .pointer (some ⟨bl, 0, none⟩), .pointer (some ⟨br, 0, none⟩)] 36 (0, 0))) (hcl : w.heap[bl]? = some (.cells #[.int .i64 15, .int .i64 nl, .pointer pll, .pointer plr] 36 (0, 0))) (hcr : w.heap[br]? = some (.cells #[.int .i64 kr, .int .i64 nr, .pointer prl, .pointer prr] 36 (0, 0))) (hkr : kr ≠ 15) (hr : Tr 36 w base r (.pointer (some ⟨br, 0, none⟩))) (hll : Tr 36 w base ll (.pointer pll)) (hlr : Tr 36 w base lr (.pointer plr)) :
    Calls Tryd.prog 27 #[.pointer (some ⟨b, 0, none⟩)] w (Ret 36 w base (.node 15 0 (.node 14 0 r ll) (.node 14 0 r lr))) := by
  obtain ⟨⟨c0, c1, c2, c3⟩, _⟩ := blk4 hc
  obtain ⟨⟨d0, d1, d2, d3⟩, _⟩ := blk4 hcl
  obtain ⟨⟨g0, g1, g2, g3⟩, _⟩ := blk4 hcr
  have ekr0 : (kr == 15) = false := by simpa using (show kr ≠ 15 by omega)
  have fkr0 : (kr != 15) = true := by simpa using (show kr ≠ 15 by omega)
  have qkr0 : (15 == kr) = false := by simpa using (show 15 ≠ kr by omega)
  have hs1 : Bel w w ∧ w.cell? ⟨b, 0, none⟩ = some (.int .i64 14) ∧ w.cell? ⟨bl, 2, none⟩ = some (.pointer pll) ∧ w.cell? ⟨bl, 3, none⟩ = some (.pointer plr) := ⟨Bel.refl _, c0, d2, d3⟩
  have HSZ := Lib.hid hb
  clear hc hcl hcr
  go_enter Tryd.func27, Tryd.ntmps27
  go_wp2_with fail
  go_quiet (fail)
  go_wp2_with fail
  generalize hWv : World.drewN w _ = v at *
  have hBv : Bel w v := hWv ▸ (Bel.drewN _ _)
  go_region_held3 (fun w' => Bel w w' ∧ w'.cell? ⟨b, 0, none⟩ = some (.int .i64 14) ∧ w'.cell? ⟨bl, 2, none⟩ = some (.pointer pll) ∧ w'.cell? ⟨bl, 3, none⟩ = some (.pointer plr))
    (first | assumption | exact keep3 hs1 (Bel.trans hBv (Bel.drew _)) | exact keep3 hs1 (Bel.drew _) | exact keep3 (by assumption) (by assumption) | exact keep3 (by assumption) (Bel.alloc _ _) | exact keep3 hs1 ((Bel.alloc _ _).trans (Bel.drew _)) | exact keep3 hs1 (Bel.trans (And.left (by assumption)) (Bel.drew _)) | exact keep3 hs1 (And.left (by assumption)) | exact keep3 hs1 (Bel.trans (And.left (by assumption)) ((Bel.alloc _ _).trans (Bel.drew _))) | (refine keep3 hs1 ?_; (repeat (first | exact Bel.refl _ | refine Bel.trans ?_ (Bel.drew _) | refine Bel.trans ?_ (Bel.drewN _ _) | refine Bel.trans ?_ (Bel.alloc _ _))); done))
    (first
      | (go_at_call_of 18 (Value.int .i64 14); (refine Calls.mono (wRevOf_two 14 _ _ (.pointer (some ⟨br, 0, none⟩)) (.pointer plr) _ ?_ ?_ r lr base (Nat.le_trans HSZ.out (Bel.size (And.left (by assumption)))) (hr.bel (And.left (by assumption))) (hlr.bel (And.left (by assumption)))) ?_); (focus ((repeat (first | (simp; done) | refine Bel.cell (Bel.alloc _ _) ?_ | refine Bel.cell (by assumption) ?_)); done)); (focus ((repeat (first | (simp; done) | refine Bel.cell (Bel.alloc _ _) ?_ | refine Bel.cell (by assumption) ?_)); done)); rintro e w2 ⟨p2, rfl, ht2, hb2⟩)
      | (go_at_call 19; (refine Calls.mono (wSame_any r (.pointer (some ⟨br, 0, none⟩)) _ _ base (hr.bel (And.left (by assumption))) (Nat.le_trans HSZ.out (Bel.size (And.left (by assumption))))) ?_); rintro e w1 ⟨p1, rfl, ht1, hb1⟩)
      | (go_at_call_of 18 (Value.int .i64 14); (refine Calls.mono (wRevOf_two 14 _ _ (.pointer p1) (.pointer pll) _ ?_ ?_ r ll base (Nat.le_trans HSZ.out (Bel.size (And.left (by assumption)))) (by repeat (first | assumption | refine Tr.bel ?_ (Bel.alloc _ _) | refine Tr.bel ?_ (by assumption))) (hll.bel (And.left (by assumption)))) ?_); (focus ((repeat (first | (simp; done) | refine Bel.cell (Bel.alloc _ _) ?_ | refine Bel.cell (by assumption) ?_)); done)); (focus ((repeat (first | (simp; done) | refine Bel.cell (Bel.alloc _ _) ?_ | refine Bel.cell (by assumption) ?_)); done)); rintro e w3 ⟨p3, rfl, ht3, hb3⟩)
      | (go_at_call_of 18 (Value.int .i64 15); (refine Calls.mono (wRevOf_two 15 _ _ (.pointer p3) (.pointer p2) _ ?_ ?_ (.node 14 0 r ll) (.node 14 0 r lr) base (Nat.le_trans HSZ.out (Bel.size (And.left (by assumption)))) (by repeat (first | assumption | refine Tr.bel ?_ (Bel.alloc _ _) | refine Tr.bel ?_ (by assumption))) (by repeat (first | assumption | refine Tr.bel ?_ (Bel.alloc _ _) | refine Tr.bel ?_ (by assumption)))) ?_); (focus ((repeat (first | (simp; done) | refine Bel.cell (Bel.alloc _ _) ?_ | refine Bel.cell (by assumption) ?_)); done)); (focus ((repeat (first | (simp; done) | refine Bel.cell (Bel.alloc _ _) ?_ | refine Bel.cell (by assumption) ?_)); done)); rintro e w4 ⟨p4, rfl, ht4, hb4⟩))
  all_goals
    go_wp2_with fail
    go_ret
    exact ⟨_, rfl, ht4, And.left (by assumption)⟩
set_option maxRecDepth 100000 in
set_option maxHeartbeats 4000000 in
theorem dis_14n {w : World} {b bl br : Nat} {n nl nr kl kr : Int} {pll plr prl prr : Option Addr} (hc : w.heap[b]? = some (.cells #[.int .i64 14, .int .i64 n, .pointer (some ⟨bl, 0, none⟩), .pointer (some ⟨br, 0, none⟩)] 36 (0, 0))) (hcl : w.heap[bl]? = some (.cells #[.int .i64 kl, .int .i64 nl, .pointer pll, .pointer plr] 36 (0, 0))) (hcr : w.heap[br]? = some (.cells #[.int .i64 kr, .int .i64 nr, .pointer prl, .pointer prr] 36 (0, 0))) (hkl : kl ≠ 15) (hkr : kr ≠ 15) :
    Calls Tryd.prog 27 #[.pointer (some ⟨b, 0, none⟩)] w fun e w' => e = .returned (.pointer none) ∧ Bel w w' := by
  obtain ⟨⟨c0, c1, c2, c3⟩, _⟩ := blk4 hc
  obtain ⟨⟨d0, d1, d2, d3⟩, _⟩ := blk4 hcl
  obtain ⟨⟨g0, g1, g2, g3⟩, _⟩ := blk4 hcr
  have ekl0 : (kl == 15) = false := by simpa using (show kl ≠ 15 by omega)
  have fkl0 : (kl != 15) = true := by simpa using (show kl ≠ 15 by omega)
  have ekr0 : (kr == 15) = false := by simpa using (show kr ≠ 15 by omega)
  have fkr0 : (kr != 15) = true := by simpa using (show kr ≠ 15 by omega)
  have qkl0 : (15 == kl) = false := by simpa using (show 15 ≠ kl by omega)
  have qkr0 : (15 == kr) = false := by simpa using (show 15 ≠ kr by omega)
  have HW := Lib.hid (Bel.refl w)
  clear hc hcl hcr
  go_enter Tryd.func27, Tryd.ntmps27
  go_wp2_with fail
  go_quiet (fail)
  go_wp2_with fail
  go_ret
  exact ⟨rfl, (by repeat (first | exact Bel.refl _ | refine Bel.trans ?_ (Bel.drew _) | refine Bel.trans ?_ (Bel.drewN _ _) | refine Bel.trans ?_ (Bel.alloc _ _)))⟩
set_option maxRecDepth 100000 in
set_option maxHeartbeats 4000000 in
theorem dis_15a {w : World} {base : Nat} {b bl br : Nat} {n nl nr kl : Int} {l rl rr : RT} {pll plr prl prr : Option Addr} (hb : base ≤ w.heap.size) (hc : w.heap[b]? = some (.cells #[.int .i64 15, .int .i64 n, .pointer (some ⟨bl, 0, none⟩), .pointer (some ⟨br, 0, none⟩)] 36 (0, 0))) (hcl : w.heap[bl]? = some (.cells #[.int .i64 kl, .int .i64 nl, .pointer pll, .pointer plr] 36 (0, 0))) (hcr : w.heap[br]? = some (.cells #[.int .i64 14, .int .i64 nr, .pointer prl, .pointer prr] 36 (0, 0))) (hl : Tr 36 w base l (.pointer (some ⟨bl, 0, none⟩))) (hrl : Tr 36 w base rl (.pointer prl)) (hrr : Tr 36 w base rr (.pointer prr)) :
    Calls Tryd.prog 27 #[.pointer (some ⟨b, 0, none⟩)] w (Ret 36 w base (.node 14 0 (.node 15 0 l rl) (.node 15 0 l rr))) := by
  obtain ⟨⟨c0, c1, c2, c3⟩, _⟩ := blk4 hc
  obtain ⟨⟨d0, d1, d2, d3⟩, _⟩ := blk4 hcl
  obtain ⟨⟨g0, g1, g2, g3⟩, _⟩ := blk4 hcr
  have hs1 : Bel w w ∧ w.cell? ⟨b, 0, none⟩ = some (.int .i64 15) ∧ w.cell? ⟨br, 2, none⟩ = some (.pointer prl) ∧ w.cell? ⟨br, 3, none⟩ = some (.pointer prr) := ⟨Bel.refl _, c0, g2, g3⟩
  have HSZ := Lib.hid hb
  clear hc hcl hcr
  go_enter Tryd.func27, Tryd.ntmps27
  go_wp2_with fail
  go_quiet (fail)
  go_wp2_with fail
  generalize hWv : World.drewN w _ = v at *
  have hBv : Bel w v := hWv ▸ (Bel.drewN _ _)
  go_region_held3 (fun w' => Bel w w' ∧ w'.cell? ⟨b, 0, none⟩ = some (.int .i64 15) ∧ w'.cell? ⟨br, 2, none⟩ = some (.pointer prl) ∧ w'.cell? ⟨br, 3, none⟩ = some (.pointer prr))
    (first | assumption | exact keep3 hs1 (Bel.trans hBv (Bel.drew _)) | exact keep3 hs1 (Bel.drew _) | exact keep3 (by assumption) (by assumption) | exact keep3 (by assumption) (Bel.alloc _ _) | exact keep3 hs1 ((Bel.alloc _ _).trans (Bel.drew _)) | exact keep3 hs1 (Bel.trans (And.left (by assumption)) (Bel.drew _)) | exact keep3 hs1 (And.left (by assumption)) | exact keep3 hs1 (Bel.trans (And.left (by assumption)) ((Bel.alloc _ _).trans (Bel.drew _))) | (refine keep3 hs1 ?_; (repeat (first | exact Bel.refl _ | refine Bel.trans ?_ (Bel.drew _) | refine Bel.trans ?_ (Bel.drewN _ _) | refine Bel.trans ?_ (Bel.alloc _ _))); done))
    (first
      | (go_at_call_of 18 (Value.int .i64 15); (refine Calls.mono (wRevOf_two 15 _ _ (.pointer (some ⟨bl, 0, none⟩)) (.pointer prr) _ ?_ ?_ l rr base (Nat.le_trans HSZ.out (Bel.size (And.left (by assumption)))) (hl.bel (And.left (by assumption))) (hrr.bel (And.left (by assumption)))) ?_); (focus ((repeat (first | (simp; done) | refine Bel.cell (Bel.alloc _ _) ?_ | refine Bel.cell (by assumption) ?_)); done)); (focus ((repeat (first | (simp; done) | refine Bel.cell (Bel.alloc _ _) ?_ | refine Bel.cell (by assumption) ?_)); done)); rintro e w2 ⟨p2, rfl, ht2, hb2⟩)
      | (go_at_call 19; (refine Calls.mono (wSame_any l (.pointer (some ⟨bl, 0, none⟩)) _ _ base (hl.bel (And.left (by assumption))) (Nat.le_trans HSZ.out (Bel.size (And.left (by assumption))))) ?_); rintro e w1 ⟨p1, rfl, ht1, hb1⟩)
      | (go_at_call_of 18 (Value.int .i64 15); (refine Calls.mono (wRevOf_two 15 _ _ (.pointer p1) (.pointer prl) _ ?_ ?_ l rl base (Nat.le_trans HSZ.out (Bel.size (And.left (by assumption)))) (by repeat (first | assumption | refine Tr.bel ?_ (Bel.alloc _ _) | refine Tr.bel ?_ (by assumption))) (hrl.bel (And.left (by assumption)))) ?_); (focus ((repeat (first | (simp; done) | refine Bel.cell (Bel.alloc _ _) ?_ | refine Bel.cell (by assumption) ?_)); done)); (focus ((repeat (first | (simp; done) | refine Bel.cell (Bel.alloc _ _) ?_ | refine Bel.cell (by assumption) ?_)); done)); rintro e w3 ⟨p3, rfl, ht3, hb3⟩)
      | (go_at_call_of 18 (Value.int .i64 14); (refine Calls.mono (wRevOf_two 14 _ _ (.pointer p3) (.pointer p2) _ ?_ ?_ (.node 15 0 l rl) (.node 15 0 l rr) base (Nat.le_trans HSZ.out (Bel.size (And.left (by assumption)))) (by repeat (first | assumption | refine Tr.bel ?_ (Bel.alloc _ _) | refine Tr.bel ?_ (by assumption))) (by repeat (first | assumption | refine Tr.bel ?_ (Bel.alloc _ _) | refine Tr.bel ?_ (by assumption)))) ?_); (focus ((repeat (first | (simp; done) | refine Bel.cell (Bel.alloc _ _) ?_ | refine Bel.cell (by assumption) ?_)); done)); (focus ((repeat (first | (simp; done) | refine Bel.cell (Bel.alloc _ _) ?_ | refine Bel.cell (by assumption) ?_)); done)); rintro e w4 ⟨p4, rfl, ht4, hb4⟩))
  all_goals
    go_wp2_with fail
    go_ret
    exact ⟨_, rfl, ht4, And.left (by assumption)⟩
set_option maxRecDepth 100000 in
set_option maxHeartbeats 4000000 in
theorem dis_15b {w : World} {base : Nat} {b bl br : Nat} {n nl nr kr : Int} {r ll lr : RT} {pll plr prl prr : Option Addr} (hb : base ≤ w.heap.size) (hc : w.heap[b]? = some (.cells #[.int .i64 15, .int .i64 n, .pointer (some ⟨bl, 0, none⟩), .pointer (some ⟨br, 0, none⟩)] 36 (0, 0))) (hcl : w.heap[bl]? = some (.cells #[.int .i64 14, .int .i64 nl, .pointer pll, .pointer plr] 36 (0, 0))) (hcr : w.heap[br]? = some (.cells #[.int .i64 kr, .int .i64 nr, .pointer prl, .pointer prr] 36 (0, 0))) (hkr : kr ≠ 14) (hr : Tr 36 w base r (.pointer (some ⟨br, 0, none⟩))) (hll : Tr 36 w base ll (.pointer pll)) (hlr : Tr 36 w base lr (.pointer plr)) :
    Calls Tryd.prog 27 #[.pointer (some ⟨b, 0, none⟩)] w (Ret 36 w base (.node 14 0 (.node 15 0 r ll) (.node 15 0 r lr))) := by
  obtain ⟨⟨c0, c1, c2, c3⟩, _⟩ := blk4 hc
  obtain ⟨⟨d0, d1, d2, d3⟩, _⟩ := blk4 hcl
  obtain ⟨⟨g0, g1, g2, g3⟩, _⟩ := blk4 hcr
  have ekr0 : (kr == 14) = false := by simpa using (show kr ≠ 14 by omega)
  have fkr0 : (kr != 14) = true := by simpa using (show kr ≠ 14 by omega)
  have qkr0 : (14 == kr) = false := by simpa using (show 14 ≠ kr by omega)
  have hs1 : Bel w w ∧ w.cell? ⟨b, 0, none⟩ = some (.int .i64 15) ∧ w.cell? ⟨bl, 2, none⟩ = some (.pointer pll) ∧ w.cell? ⟨bl, 3, none⟩ = some (.pointer plr) := ⟨Bel.refl _, c0, d2, d3⟩
  have HSZ := Lib.hid hb
  clear hc hcl hcr
  go_enter Tryd.func27, Tryd.ntmps27
  go_wp2_with fail
  go_quiet (fail)
  go_wp2_with fail
  generalize hWv : World.drewN w _ = v at *
  have hBv : Bel w v := hWv ▸ (Bel.drewN _ _)
  go_region_held3 (fun w' => Bel w w' ∧ w'.cell? ⟨b, 0, none⟩ = some (.int .i64 15) ∧ w'.cell? ⟨bl, 2, none⟩ = some (.pointer pll) ∧ w'.cell? ⟨bl, 3, none⟩ = some (.pointer plr))
    (first | assumption | exact keep3 hs1 (Bel.trans hBv (Bel.drew _)) | exact keep3 hs1 (Bel.drew _) | exact keep3 (by assumption) (by assumption) | exact keep3 (by assumption) (Bel.alloc _ _) | exact keep3 hs1 ((Bel.alloc _ _).trans (Bel.drew _)) | exact keep3 hs1 (Bel.trans (And.left (by assumption)) (Bel.drew _)) | exact keep3 hs1 (And.left (by assumption)) | exact keep3 hs1 (Bel.trans (And.left (by assumption)) ((Bel.alloc _ _).trans (Bel.drew _))) | (refine keep3 hs1 ?_; (repeat (first | exact Bel.refl _ | refine Bel.trans ?_ (Bel.drew _) | refine Bel.trans ?_ (Bel.drewN _ _) | refine Bel.trans ?_ (Bel.alloc _ _))); done))
    (first
      | (go_at_call_of 18 (Value.int .i64 15); (refine Calls.mono (wRevOf_two 15 _ _ (.pointer (some ⟨br, 0, none⟩)) (.pointer plr) _ ?_ ?_ r lr base (Nat.le_trans HSZ.out (Bel.size (And.left (by assumption)))) (hr.bel (And.left (by assumption))) (hlr.bel (And.left (by assumption)))) ?_); (focus ((repeat (first | (simp; done) | refine Bel.cell (Bel.alloc _ _) ?_ | refine Bel.cell (by assumption) ?_)); done)); (focus ((repeat (first | (simp; done) | refine Bel.cell (Bel.alloc _ _) ?_ | refine Bel.cell (by assumption) ?_)); done)); rintro e w2 ⟨p2, rfl, ht2, hb2⟩)
      | (go_at_call 19; (refine Calls.mono (wSame_any r (.pointer (some ⟨br, 0, none⟩)) _ _ base (hr.bel (And.left (by assumption))) (Nat.le_trans HSZ.out (Bel.size (And.left (by assumption))))) ?_); rintro e w1 ⟨p1, rfl, ht1, hb1⟩)
      | (go_at_call_of 18 (Value.int .i64 15); (refine Calls.mono (wRevOf_two 15 _ _ (.pointer p1) (.pointer pll) _ ?_ ?_ r ll base (Nat.le_trans HSZ.out (Bel.size (And.left (by assumption)))) (by repeat (first | assumption | refine Tr.bel ?_ (Bel.alloc _ _) | refine Tr.bel ?_ (by assumption))) (hll.bel (And.left (by assumption)))) ?_); (focus ((repeat (first | (simp; done) | refine Bel.cell (Bel.alloc _ _) ?_ | refine Bel.cell (by assumption) ?_)); done)); (focus ((repeat (first | (simp; done) | refine Bel.cell (Bel.alloc _ _) ?_ | refine Bel.cell (by assumption) ?_)); done)); rintro e w3 ⟨p3, rfl, ht3, hb3⟩)
      | (go_at_call_of 18 (Value.int .i64 14); (refine Calls.mono (wRevOf_two 14 _ _ (.pointer p3) (.pointer p2) _ ?_ ?_ (.node 15 0 r ll) (.node 15 0 r lr) base (Nat.le_trans HSZ.out (Bel.size (And.left (by assumption)))) (by repeat (first | assumption | refine Tr.bel ?_ (Bel.alloc _ _) | refine Tr.bel ?_ (by assumption))) (by repeat (first | assumption | refine Tr.bel ?_ (Bel.alloc _ _) | refine Tr.bel ?_ (by assumption)))) ?_); (focus ((repeat (first | (simp; done) | refine Bel.cell (Bel.alloc _ _) ?_ | refine Bel.cell (by assumption) ?_)); done)); (focus ((repeat (first | (simp; done) | refine Bel.cell (Bel.alloc _ _) ?_ | refine Bel.cell (by assumption) ?_)); done)); rintro e w4 ⟨p4, rfl, ht4, hb4⟩))
  all_goals
    go_wp2_with fail
    go_ret
    exact ⟨_, rfl, ht4, And.left (by assumption)⟩
set_option maxRecDepth 100000 in
set_option maxHeartbeats 4000000 in
theorem dis_15n {w : World} {b bl br : Nat} {n nl nr kl kr : Int} {pll plr prl prr : Option Addr} (hc : w.heap[b]? = some (.cells #[.int .i64 15, .int .i64 n, .pointer (some ⟨bl, 0, none⟩), .pointer (some ⟨br, 0, none⟩)] 36 (0, 0))) (hcl : w.heap[bl]? = some (.cells #[.int .i64 kl, .int .i64 nl, .pointer pll, .pointer plr] 36 (0, 0))) (hcr : w.heap[br]? = some (.cells #[.int .i64 kr, .int .i64 nr, .pointer prl, .pointer prr] 36 (0, 0))) (hkl : kl ≠ 14) (hkr : kr ≠ 14) :
    Calls Tryd.prog 27 #[.pointer (some ⟨b, 0, none⟩)] w fun e w' => e = .returned (.pointer none) ∧ Bel w w' := by
  obtain ⟨⟨c0, c1, c2, c3⟩, _⟩ := blk4 hc
  obtain ⟨⟨d0, d1, d2, d3⟩, _⟩ := blk4 hcl
  obtain ⟨⟨g0, g1, g2, g3⟩, _⟩ := blk4 hcr
  have ekl0 : (kl == 14) = false := by simpa using (show kl ≠ 14 by omega)
  have fkl0 : (kl != 14) = true := by simpa using (show kl ≠ 14 by omega)
  have ekr0 : (kr == 14) = false := by simpa using (show kr ≠ 14 by omega)
  have fkr0 : (kr != 14) = true := by simpa using (show kr ≠ 14 by omega)
  have qkl0 : (14 == kl) = false := by simpa using (show 14 ≠ kl by omega)
  have qkr0 : (14 == kr) = false := by simpa using (show 14 ≠ kr by omega)
  have HW := Lib.hid (Bel.refl w)
  clear hc hcl hcr
  go_enter Tryd.func27, Tryd.ntmps27
  go_wp2_with fail
  go_quiet (fail)
  go_wp2_with fail
  go_ret
  exact ⟨rfl, (by repeat (first | exact Bel.refl _ | refine Bel.trans ?_ (Bel.drew _) | refine Bel.trans ?_ (Bel.drewN _ _) | refine Bel.trans ?_ (Bel.alloc _ _)))⟩
theorem dis_by (w0 : World) : ByC w0 27 #[] distF := by
  intro t p w base hw hs hnn ht hb
  show Calls Tryd.prog 27 #[.pointer p] w _
  cases t with
  | nil => exact absurd rfl hs.ne_nil
  | node k n l r =>
    have ht0 := ht
    obtain ⟨b, vl, vr, hv, hge, hc, hl, hr⟩ := ht
    injection hv with hv
    subst hv
    obtain ⟨pl, rfl⟩ := hl.pointer
    obtain ⟨pr, rfl⟩ := hr.pointer
    by_cases hk : k < 14
    · exact (dis_no hc hk).mono fun e w' h => by_none2 (by unfold distF; rw [if_neg (by simp only [RT.kind]; omega), if_neg (by simp only [RT.kind]; omega), if_pos (by simp only [RT.kind]; omega)]) h
    · have hp : (14 ≤ k ∧ k ≤ 16) ∧ Sh l ∧ Sh r := by
        rcases hs.parts with ⟨_, h6, _, _⟩ | ⟨h7, h13, hsl, _⟩ | ⟨h14, h16, hsl, hsr⟩
        · omega
        · omega
        · exact ⟨⟨h14, h16⟩, hsl, hsr⟩
      obtain ⟨hk', hsl, hsr⟩ := hp
      cases l with
      | nil => exact absurd rfl hsl.ne_nil
      | node kl nl ll lr =>
      cases r with
      | nil => exact absurd rfl hsr.ne_nil
      | node kr nr rl rr =>
      have hl0 := hl
      have hr0 := hr
      obtain ⟨bl, vll, vlr, hvl, hgel, hcl, hll, hlr⟩ := hl
      injection hvl with hvl
      subst hvl
      obtain ⟨pll, rfl⟩ := hll.pointer
      obtain ⟨plr, rfl⟩ := hlr.pointer
      obtain ⟨br, vrl, vrr, hvr, hger, hcr, hrl, hrr⟩ := hr
      injection hvr with hvr
      subst hvr
      obtain ⟨prl, rfl⟩ := hrl.pointer
      obtain ⟨prr, rfl⟩ := hrr.pointer
      have hk3 : k = 16 ∨ k = 14 ∨ k = 15 := by omega
      rcases hk3 with rfl | hk3
      · by_cases hkl : kl = 14
        · subst hkl
          exact (dis_16a hb hc hcl hcr hll hlr hr0).mono fun e w' h => by_some rfl h
        · by_cases hkl2 : kl = 15
          · subst hkl2
            exact (dis_16b hb hc hcl hcr hll hlr hr0).mono fun e w' h => by_some rfl h
          · exact (dis_16n hc hcl hcr hkl hkl2).mono fun e w' h => by_none2 (by unfold distF; rw [if_neg (by simp only [RT.kind, RT.lft]; omega), if_neg (by simp only [RT.kind, RT.lft]; omega), if_pos (by simp only [RT.kind]; omega)]) h
      · rcases hk3 with rfl | rfl
        · by_cases hkr : kr = 15
          · subst hkr
            exact (dis_14a hb hc hcl hcr hl0 hrl hrr).mono fun e w' h => by_some rfl h
          · by_cases hkl : kl = 15
            · subst hkl
              exact (dis_14b hb hc hcl hcr hkr hr0 hll hlr).mono fun e w' h => by_some (by unfold distF; rw [if_neg (by simp only [RT.kind]; omega), if_neg (by simp only [RT.kind]; omega), if_neg (by simp only [RT.kind]; omega), if_neg (by simp only [RT.kind, RT.rgt]; omega), if_pos (by rfl)]; rfl) h
            · exact (dis_14n hc hcl hcr hkl hkr).mono fun e w' h => by_none2 (by unfold distF; rw [if_neg (by simp only [RT.kind]; omega), if_neg (by simp only [RT.kind]; omega), if_neg (by simp only [RT.kind]; omega), if_neg (by simp only [RT.kind, RT.rgt]; omega), if_neg (by simp only [RT.kind, RT.lft]; omega)]) h
        · by_cases hkr : kr = 14
          · subst hkr
            exact (dis_15a hb hc hcl hcr hl0 hrl hrr).mono fun e w' h => by_some rfl h
          · by_cases hkl : kl = 14
            · subst hkl
              exact (dis_15b hb hc hcl hcr hkr hr0 hll hlr).mono fun e w' h => by_some (by unfold distF; rw [if_neg (by simp only [RT.kind]; omega), if_neg (by simp only [RT.kind]; omega), if_neg (by simp only [RT.kind]; omega), if_neg (by simp only [RT.kind, RT.rgt]; omega), if_pos (by rfl)]; rfl) h
            · exact (dis_15n hc hcl hcr hkl hkr).mono fun e w' h => by_none2 (by unfold distF; rw [if_neg (by simp only [RT.kind]; omega), if_neg (by simp only [RT.kind]; omega), if_neg (by simp only [RT.kind]; omega), if_neg (by simp only [RT.kind, RT.rgt]; omega), if_neg (by simp only [RT.kind, RT.lft]; omega)]) h
theorem enters27 : EntersAt 27 := EntersAt.of Tryd.func27 (by kernel_rfl) (by kernel_rfl)

end Go.Proofs.YtijaoedlhmdpnaaDoor
/- TopQueriesDistributed walked. -/
namespace Go.Proofs.YtijaoedlhmdpnaaDoor
open Go.RowKit Go.Proofs.YtijaoedlhmdpnaaDoor.PTopQueriesKept Go.Proofs.YtijaoedlhmdpnaaDoorW.PrintWords

set_option maxRecDepth 100000 in
set_option maxHeartbeats 4000000 in
theorem topDis_any (cs : List S51) (A : Option Addr) (c : Nat) (xs : List S53) (A1 : Option Addr) (c1 : Nat) (which : Int) (w : World) (he : Env w) (hC : Kd.C k51 w A cs.length cs) (hc : cs.length ≤ c) (hC1 : Kd.C k53 w A1 xs.length xs) (hc1 : xs.length ≤ c1) :
    Calls Tryd.prog 7 #[.slice A cs.length c, .agg #[.slice A1 xs.length c1], .int .i64 which] w (RetTrue w) := by
  have HQ := Lib.hid (fun (w2 : World) (p1 p2 : Nat) (hp1 : w2.cell? ⟨p1, 0, none⟩ = some (.func (.func 27) #[] #[])) (hp2 : w2.cell? ⟨p2, 0, none⟩ = some (.int .i64 which))  (w' : World) (hw : Bel w2 w') (hww : Bel w w') =>
    law_query enters27 (dis_by w2) dist_good hp1 hp2 hw (he.bel hww) (Kd.C_below hC hww) hc (Kd.C_below hC1 hww) hc1)
  have HB := Lib.hid (Bel.alloc w (Obj.cells #[.slice A1 xs.length c1] 25))
  have hk0 : (w.alloc (Obj.cells #[.slice A1 xs.length c1] 25)).cell? ⟨w.heap.size, 0, none⟩ = some (.slice A1 xs.length c1) := by simp
  clear he hC hc hC1 hc1
  go_enter Tryd.func7, Tryd.ntmps7
  go_wp2_with fail
  generalize (w.alloc (Obj.cells #[.slice A1 xs.length c1] 25)) = W at *
  have hs0 : Bel W W ∧ W.cell? ⟨w.heap.size, 0, none⟩ = some (.slice A1 xs.length c1) := ⟨Bel.refl _, hk0⟩
  have hst : Bel W W.drew ∧ W.drew.cell? ⟨w.heap.size, 0, none⟩ = some (.slice A1 xs.length c1) := ⟨Bel.drew _, hk0⟩
  go_region_held3 (fun w' => Bel W w' ∧ w'.cell? ⟨w.heap.size, 0, none⟩ = some (.slice A1 xs.length c1))
    (first | assumption | exact keep1 (by assumption) (by assumption) | exact keep1 (by assumption) (Bel.alloc _ _))
    (first
      | (go_at_call 16; (refine (wPut_any which 27 #[] _).mono ?_); rintro e w2 ⟨p1, p2, rfl, hb2, hp1, hp2⟩)
      | (go_at_call 15; (refine (HQ.out _ p1 p2 hp1 hp2  _ (Bel.refl _) (HB.out.trans (And.left (by assumption)))).mono ?_); rintro e w3 ⟨rfl, hb3⟩))
  all_goals
    have HB3 := Lib.hid (HB.out.trans (And.left (by assumption)))
    go_wp2_with fail
    go_ret
    exact ⟨rfl, HB3.out⟩

end Go.Proofs.YtijaoedlhmdpnaaDoor
namespace Go.Proofs.YtijaoedlhmdpnaaDoor
open Go.ChangeShapes Go.WideShapes Go.ChangeAt Go.RowKit
set_option maxRecDepth 100000

theorem topQueriesDistributed_lifted (os : Os) (started : os.Started) (H : Type) (enc : TypeId × Value → H) :
    ReturnsInHanded {} Tryd.checked os 7 .any (fun w args => (Rows.topQueriesDistributedSpec.pre enc Tryd.prog Tryd.f7 [] false w args ∧ laidMetH Tryd.prog laidL w) ∧ sizedMet enc Tryd.prog Tryd.f7 (OpenSpec.ofChange Rows.topQueriesDistributedSpec) false w args)
      (Rows.topQueriesDistributedSpec.post enc Tryd.prog Tryd.f7 false true false false) := by
  refine returnsInHanded_of_change_and (C := Tryd.checked) (X := fun w _ => laidMetH Tryd.prog laidL w) (fun _ _ _ hh h => h.of_heap hh) own started (by kernel_rfl) Tryd.func7
    (ChangeSpec.witness_shaped (enc := enc) (C := Tryd.checked) (os := os) (X := fun w _ => laidMetH Tryd.prog laidL w) false (World.doorLaid Tryd.prog 67 os) #[.slice none 0 0, .agg #[.slice none 0 0], .int .i64 0] 8 rfl (World.shaped_of_RefB (by kernel_rfl) (by kernel_rfl)) (by kernel_rfl) (by kernel_rfl) (by kernel_rfl) (door_met os _)) ?_
  intro W base args ds gs before hval0 hW _ _ hL _
  have hval : ∀ (j : Nat) t v, Tryd.f7.params[j]? = some t → args[j]? = some v → Value.okWide Tryd.prog W .any base t v := hval0
  have hW' := hW
  obtain ⟨p, q, hA0, hV, rfl, hfz, hnd⟩ := hW
  have hA : DataW.TrodAll enc Tryd.prog W 0 (fun _ => true) true Tryd.f7.params.toList args.toList ds p := hA0
  rw [Tryd.params7] at hA hval
  obtain ⟨v0, vs0, d0, ds0, p0, q0, hargs, rfl, rfl, h0, r0⟩ := trodAll_cons hA
  obtain ⟨v1, vs1, d1, ds1, p1, q1, rfl, rfl, rfl, h1, r1⟩ := trodAll_cons r0
  obtain ⟨v2, vs2, d2, ds2, p2, q2, rfl, rfl, rfl, h2, r2⟩ := trodAll_cons r1
  obtain ⟨rfl, rfl, rfl⟩ := trodAll_nil r2
  obtain rfl : args = #[v0, v1, v2] := by cases args; simp_all
  obtain ⟨rfl, rfl⟩ := trodVars_none hV
  have lt0 : ∀ x ∈ p0, x.block < W.heap.size := by obtain ⟨m, hm⟩ := h0; exact DataW.trod_lt m _ _ _ hm
  have lt1 : ∀ x ∈ p1, x.block < W.heap.size := by obtain ⟨m, hm⟩ := h1; exact DataW.trod_lt m _ _ _ hm
  obtain ⟨cs, A, c, rfl, hc, hC⟩ := commits_opened (hval 0 22 v0 rfl rfl) h0
  obtain ⟨u, xs, rfl, A1, c1, rfl, hc1, hC1⟩ := query_opened (hval 1 25 v1 rfl rfl) h1
  obtain ⟨a2, rfl, rfl, rfl, w2⟩ := open_int Tryd.underlying3 (hval 2 3 v2 rfl rfl) h2
  have he := env_of_laid hL
  clear hA0 hval0 hval
  refine (topDis_any cs A c xs A1 c1 a2 W he hC hc hC1 hc1).mono fun e W' ⟨hee, hb0⟩ => ?_
  have hb := Lib.hid hb0
  subst hee
  exact ⟨_, rfl, _, _, _, [], _, [], hW', trodAll_mk1 (shut_bool Tryd.underlying4 _), (trodAll_cons_mk (Below.trod laidOut (by kernel_rfl) (of_decide_eq_true (by kernel_rfl)) h0 hb.out lt0) (trodAll_cons_mk (Below.trod laidOut (by kernel_rfl) (of_decide_eq_true (by kernel_rfl)) h1 hb.out lt1) (trodAll_cons_mk (shut_int Tryd.underlying3 w2) trodAll_mk0))), rfl, (show Below W.heap.size W W' from hb.out).frame _, fun h => by cases h⟩

theorem topQueriesDistributed_row : Rows.TopQueriesDistributedSaid :=
  OpenClaim.holds_of_wide 7 Tryd.f7 rfl rfl rfl rfl rfl rfl rfl ⟨rfl, rfl, rfl, rfl, rfl⟩ rfl rfl rfl rfl rfl (by kernel_rfl) Tryd.func7 (by kernel_rfl)
    (of_decide_eq_true (by kernel_rfl)) (by unfold Func.isWrapper; first | (rw [if_pos (by decide +kernel)]; kernel_rfl) | (rw [if_neg (by decide +kernel)]; exact ⟨rfl, rfl⟩))
    (fun os started H enc _ => topQueriesDistributed_lifted os started H enc)

theorem topQueriesDistributed_holds : Rows.TopQueriesDistributedCardSaid :=
  Claim7.holds_tied_plain_at .later [] [.data, .data, .data, .sentinel, .sentinel, .widerDeep] true (true, "a0d9a2353728ea79b086a747090c81b9a0a74b7d21e1d1052255b4b7a5fadd21") true
    topQueriesDistributed_row (fun _ h => by cases h) (by kernel_rfl) (fun _ h => by cases h) topQueriesDistributed_row_tie rfl ⟨rfl, rfl⟩ (by kernel_rfl) rfl
    (fun f fn hf hfn => by
      obtain rfl : f = 7 := Option.some.inj ((show Tryd.prog.funcNamed "changeforge/changeforgetop.TopQueriesDistributed" = some 7 by kernel_rfl).symm.trans hf) |>.symm
      obtain rfl : fn = Tryd.f7 := (Option.some.inj (Tryd.func7.symm.trans hfn)).symm
      exact ⟨by kernel_rfl, fun j t ht => by
        rw [Tryd.params7] at ht
        have hm : t ∈ [22, 25, 3] := by simpa using Array.mem_of_getElem? ht
        have hall : ([22, 25, 3].all fun u => !Tryd.prog.wantsStandIn u) = true := by kernel_rfl
        exact (show Tryd.prog.wantsStandIn t = false by simpa using List.all_eq_true.1 hall t hm)⟩)
    (by kernel_rfl)
#print axioms topQueriesDistributed_holds
end Go.Proofs.YtijaoedlhmdpnaaDoor
