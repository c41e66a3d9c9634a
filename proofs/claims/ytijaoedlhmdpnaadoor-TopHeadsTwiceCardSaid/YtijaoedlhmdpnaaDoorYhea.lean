/- TopHeadsTwice: for every input the call returns true and each argument reads as it read, where the package-level variables that the row lists hold what the program's text lays in them: the row, and its tied card. -/
import Derived.Test.YtijaoedlhmdpnaaDoorZ7
import Derived.Test.YtijaoedlhmdpnaaDoorCards
import Derived.Test.YtijaoedlhmdpnaaDoorTie
import Derived.SevenTiedAt
set_option linter.unusedVariables false
set_option linter.unusedSimpArgs false
/- The closure of TopHeadsTwice walked. -/
namespace Go.Proofs.YtijaoedlhmdpnaaDoor
open Go.RowKit Go.Proofs.YtijaoedlhmdpnaaDoor.PTopQueriesKept Go.Proofs.YtijaoedlhmdpnaaDoorW.PrintWords

set_option maxRecDepth 100000 in
set_option maxHeartbeats 4000000 in
theorem hea_no {w : World} {b cb : Nat} {k n : Int} {vl vr : Value} (hc : w.heap[b]? = some (.cells #[.int .i64 k, .int .i64 n, vl, vr] 36 (0, 0))) (h12 : k ≠ 12) (h13 : k ≠ 13) :
    Calls Tryd.prog 33 #[.pointer (some ⟨b, 0, none⟩), .pointer (some ⟨cb, 0, none⟩)] w fun e w' => e = .returned (.pointer none) ∧ w = w' := by
  obtain ⟨⟨c0, c1, c2, c3⟩, _⟩ := blk4 hc
  have ek0 : (k == 12) = false := by simpa using (show k ≠ 12 by omega)
  have fk0 : (k != 12) = true := by simpa using (show k ≠ 12 by omega)
  have ek1 : (k == 13) = false := by simpa using (show k ≠ 13 by omega)
  have fk1 : (k != 13) = true := by simpa using (show k ≠ 13 by omega)
  clear hc
  go_enter Tryd.func33, Tryd.ntmps33
  go_wp2_with fail
  go_ret
  exact ⟨rfl, rfl⟩
set_option maxRecDepth 100000 in
set_option maxHeartbeats 4000000 in
theorem hea_12u {w : World} {base : Nat} {b bl cb : Nat} {n nl : Int} {ll lr : RT} {pll plr : Option Addr} {vr : Value} (hb : base ≤ w.heap.size) (hc : w.heap[b]? = some (.cells #[.int .i64 12, .int .i64 n, .pointer (some ⟨bl, 0, none⟩), vr] 36 (0, 0))) (hcl : w.heap[bl]? = some (.cells #[.int .i64 14, .int .i64 nl, .pointer pll, .pointer plr] 36 (0, 0))) (hll : Tr 36 w base ll (.pointer pll)) (hlr : Tr 36 w base lr (.pointer plr)) (ho : w.cell? ⟨cb, 0, none⟩ = some (.bool true)) :
    Calls Tryd.prog 33 #[.pointer (some ⟨b, 0, none⟩), .pointer (some ⟨cb, 0, none⟩)] w (Ret 36 w base (.node 12 0 (.node 14 0 (.node 12 0 ll .nil) (.node 12 0 lr .nil)) .nil)) := by
  obtain ⟨⟨c0, c1, c2, c3⟩, _⟩ := blk4 hc
  obtain ⟨⟨d0, d1, d2, d3⟩, _⟩ := blk4 hcl
  have hs0 : Bel w w ∧ w.cell? ⟨b, 0, none⟩ = some (.int .i64 12) ∧ w.cell? ⟨b, 2, none⟩ = some (.pointer (some ⟨bl, 0, none⟩)) ∧ w.cell? ⟨bl, 2, none⟩ = some (.pointer pll) ∧ w.cell? ⟨bl, 3, none⟩ = some (.pointer plr) := ⟨Bel.refl _, c0, c2, d2, d3⟩
  have hst : Bel w w.drew ∧ w.drew.cell? ⟨b, 0, none⟩ = some (.int .i64 12) ∧ w.drew.cell? ⟨b, 2, none⟩ = some (.pointer (some ⟨bl, 0, none⟩)) ∧ w.drew.cell? ⟨bl, 2, none⟩ = some (.pointer pll) ∧ w.drew.cell? ⟨bl, 3, none⟩ = some (.pointer plr) := ⟨Bel.drew _, c0, c2, d2, d3⟩
  have HSZ := Lib.hid hb
  clear hc hcl
  go_enter Tryd.func33, Tryd.ntmps33
  go_wp2_with fail
  go_region_held3 (fun w' => Bel w w' ∧ w'.cell? ⟨b, 0, none⟩ = some (.int .i64 12) ∧ w'.cell? ⟨b, 2, none⟩ = some (.pointer (some ⟨bl, 0, none⟩)) ∧ w'.cell? ⟨bl, 2, none⟩ = some (.pointer pll) ∧ w'.cell? ⟨bl, 3, none⟩ = some (.pointer plr))
    (first | assumption | exact keep4 hs0 (Bel.drew _) | exact keep4 (by assumption) (by assumption) | exact keep4 (by assumption) (Bel.alloc _ _) | exact keep4 hs0 ((Bel.alloc _ _).trans (Bel.drew _)) | exact keep4 hs0 ((And.left (by assumption)).trans (Bel.drew _)) | exact keep4 hs0 (And.left (by assumption)) | exact keep4 hs0 ((And.left (by assumption)).trans ((Bel.alloc _ _).trans (Bel.drew _))))
    (first
      | (go_at_call_of 18 (Value.int .i64 12); (refine Calls.mono (wRevOf_one 12 _ _ (.pointer pll) _ ?_ ll base (Nat.le_trans HSZ.out (Bel.size (And.left (by assumption)))) (hll.bel (And.left (by assumption)))) ?_); (focus ((repeat (first | (simp; done) | refine Bel.cell (Bel.alloc _ _) ?_ | refine Bel.cell (by assumption) ?_)); done)); rintro e w1 ⟨p1, rfl, ht1, hb1⟩)
      | (go_at_call_of 18 (Value.int .i64 12); (refine Calls.mono (wRevOf_one 12 _ _ (.pointer plr) _ ?_ lr base (Nat.le_trans HSZ.out (Bel.size (And.left (by assumption)))) (hlr.bel (And.left (by assumption)))) ?_); (focus ((repeat (first | (simp; done) | refine Bel.cell (Bel.alloc _ _) ?_ | refine Bel.cell (by assumption) ?_)); done)); rintro e w2 ⟨p2, rfl, ht2, hb2⟩)
      | (go_at_call_of 18 (Value.int .i64 14); (refine Calls.mono (wRevOf_two 14 _ _ (.pointer p1) (.pointer p2) _ ?_ ?_ (.node 12 0 ll .nil) (.node 12 0 lr .nil) base (Nat.le_trans HSZ.out (Bel.size (And.left (by assumption)))) (by repeat (first | assumption | refine Tr.bel ?_ (Bel.alloc _ _) | refine Tr.bel ?_ (by assumption))) (by repeat (first | assumption | refine Tr.bel ?_ (Bel.alloc _ _) | refine Tr.bel ?_ (by assumption)))) ?_); (focus ((repeat (first | (simp; done) | refine Bel.cell (Bel.alloc _ _) ?_ | refine Bel.cell (by assumption) ?_)); done)); (focus ((repeat (first | (simp; done) | refine Bel.cell (Bel.alloc _ _) ?_ | refine Bel.cell (by assumption) ?_)); done)); rintro e w3 ⟨p3, rfl, ht3, hb3⟩)
      | (go_at_call_of 18 (Value.int .i64 12); (refine Calls.mono (wRevOf_one 12 _ _ (.pointer p3) _ ?_ (.node 14 0 (.node 12 0 ll .nil) (.node 12 0 lr .nil)) base (Nat.le_trans HSZ.out (Bel.size (And.left (by assumption)))) (by repeat (first | assumption | refine Tr.bel ?_ (Bel.alloc _ _) | refine Tr.bel ?_ (by assumption)))) ?_); (focus ((repeat (first | (simp; done) | refine Bel.cell (Bel.alloc _ _) ?_ | refine Bel.cell (by assumption) ?_)); done)); rintro e w4 ⟨p4, rfl, ht4, hb4⟩))
  all_goals
    go_wp2_with fail
    go_ret
    exact ⟨_, rfl, ht4, And.left (by assumption)⟩
set_option maxRecDepth 100000 in
set_option maxHeartbeats 4000000 in
theorem hea_12o {w : World} {base : Nat} {b bl cb : Nat} {n kl nl : Int} {l : RT} {vll vlr : Value} {vr : Value} (hb : base ≤ w.heap.size) (hc : w.heap[b]? = some (.cells #[.int .i64 12, .int .i64 n, .pointer (some ⟨bl, 0, none⟩), vr] 36 (0, 0))) (hcl : w.heap[bl]? = some (.cells #[.int .i64 kl, .int .i64 nl, vll, vlr] 36 (0, 0))) (hkl : kl ≠ 14) (hl : Tr 36 w base l (.pointer (some ⟨bl, 0, none⟩))) (ho : w.cell? ⟨cb, 0, none⟩ = some (.bool true)) :
    Calls Tryd.prog 33 #[.pointer (some ⟨b, 0, none⟩), .pointer (some ⟨cb, 0, none⟩)] w (Ret 36 w base (.node 12 0 (.node 8 0 l .nil) .nil)) := by
  obtain ⟨⟨c0, c1, c2, c3⟩, _⟩ := blk4 hc
  obtain ⟨⟨d0, d1, d2, d3⟩, _⟩ := blk4 hcl
  have ekl0 : (kl == 14) = false := by simpa using (show kl ≠ 14 by omega)
  have fkl0 : (kl != 14) = true := by simpa using (show kl ≠ 14 by omega)
  have hs0 : Bel w w ∧ w.cell? ⟨b, 0, none⟩ = some (.int .i64 12) ∧ w.cell? ⟨b, 2, none⟩ = some (.pointer (some ⟨bl, 0, none⟩)) := ⟨Bel.refl _, c0, c2⟩
  have hst : Bel w w.drew ∧ w.drew.cell? ⟨b, 0, none⟩ = some (.int .i64 12) ∧ w.drew.cell? ⟨b, 2, none⟩ = some (.pointer (some ⟨bl, 0, none⟩)) := ⟨Bel.drew _, c0, c2⟩
  have HSZ := Lib.hid hb
  clear hc hcl
  go_enter Tryd.func33, Tryd.ntmps33
  go_wp2_with fail
  go_region_held3 (fun w' => Bel w w' ∧ w'.cell? ⟨b, 0, none⟩ = some (.int .i64 12) ∧ w'.cell? ⟨b, 2, none⟩ = some (.pointer (some ⟨bl, 0, none⟩)))
    (first | assumption | exact keep2 hs0 (Bel.drew _) | exact keep2 (by assumption) (by assumption) | exact keep2 (by assumption) (Bel.alloc _ _) | exact keep2 hs0 ((Bel.alloc _ _).trans (Bel.drew _)) | exact keep2 hs0 ((And.left (by assumption)).trans (Bel.drew _)) | exact keep2 hs0 (And.left (by assumption)) | exact keep2 hs0 ((And.left (by assumption)).trans ((Bel.alloc _ _).trans (Bel.drew _))))
    (first
      | (go_at_call_of 18 (Value.int .i64 8); (refine Calls.mono (wRevOf_one 8 _ _ (.pointer (some ⟨bl, 0, none⟩)) _ ?_ l base (Nat.le_trans HSZ.out (Bel.size (And.left (by assumption)))) (hl.bel (And.left (by assumption)))) ?_); (focus ((repeat (first | (simp; done) | refine Bel.cell (Bel.alloc _ _) ?_ | refine Bel.cell (by assumption) ?_)); done)); rintro e w1 ⟨p1, rfl, ht1, hb1⟩)
      | (go_at_call_of 18 (Value.int .i64 12); (refine Calls.mono (wRevOf_one 12 _ _ (.pointer p1) _ ?_ (.node 8 0 l .nil) base (Nat.le_trans HSZ.out (Bel.size (And.left (by assumption)))) (by repeat (first | assumption | refine Tr.bel ?_ (Bel.alloc _ _) | refine Tr.bel ?_ (by assumption)))) ?_); (focus ((repeat (first | (simp; done) | refine Bel.cell (Bel.alloc _ _) ?_ | refine Bel.cell (by assumption) ?_)); done)); rintro e w2 ⟨p2, rfl, ht2, hb2⟩))
  all_goals
    go_wp2_with fail
    go_ret
    exact ⟨_, rfl, ht2, And.left (by assumption)⟩
set_option maxRecDepth 100000 in
set_option maxHeartbeats 4000000 in
theorem hea_12e {w : World} {base : Nat} {b bl cb : Nat} {n kl nl : Int} {l : RT} {vll vlr : Value} {vr : Value} (hb : base ≤ w.heap.size) (hc : w.heap[b]? = some (.cells #[.int .i64 12, .int .i64 n, .pointer (some ⟨bl, 0, none⟩), vr] 36 (0, 0))) (hcl : w.heap[bl]? = some (.cells #[.int .i64 kl, .int .i64 nl, vll, vlr] 36 (0, 0))) (ht : Tr 36 w base (.node 12 n l .nil) (.pointer (some ⟨b, 0, none⟩))) (ho : w.cell? ⟨cb, 0, none⟩ = some (.bool false)) :
    Calls Tryd.prog 33 #[.pointer (some ⟨b, 0, none⟩), .pointer (some ⟨cb, 0, none⟩)] w (Ret 36 w base (.node 12 0 (.node 12 n l .nil) .nil)) := by
  obtain ⟨⟨c0, c1, c2, c3⟩, _⟩ := blk4 hc
  obtain ⟨⟨d0, d1, d2, d3⟩, _⟩ := blk4 hcl
  have HSZ := Lib.hid hb
  have HT := Lib.hid ht
  clear hc hcl ht
  by_cases hkl : kl = 14
  · subst hkl
    go_enter Tryd.func33, Tryd.ntmps33
    go_wp2_with ((go_at_call_of 18 (Value.int .i64 12); (refine Calls.mono (wRevOf_one 12 _ _ (.pointer (some ⟨b, 0, none⟩)) _ (by simp) (.node 12 n l .nil) base (Nat.le_trans HSZ.out (Bel.size (Bel.alloc _ _))) (HT.out.bel (Bel.alloc _ _))) ?_); rintro e w1 ⟨p1, rfl, ht1, hb1⟩))
    go_ret
    exact ⟨_, rfl, ht1, (Bel.alloc _ _).trans hb1⟩
  · have hx := hkl
    have ekl0 : (kl == 14) = false := by simpa using (show kl ≠ 14 by omega)
    have fkl0 : (kl != 14) = true := by simpa using (show kl ≠ 14 by omega)
    go_enter Tryd.func33, Tryd.ntmps33
    go_wp2_with ((go_at_call_of 18 (Value.int .i64 12); (refine Calls.mono (wRevOf_one 12 _ _ (.pointer (some ⟨b, 0, none⟩)) _ (by simp) (.node 12 n l .nil) base (Nat.le_trans HSZ.out (Bel.size (Bel.alloc _ _))) (HT.out.bel (Bel.alloc _ _))) ?_); rintro e w1 ⟨p1, rfl, ht1, hb1⟩))
    go_ret
    exact ⟨_, rfl, ht1, (Bel.alloc _ _).trans hb1⟩
set_option maxRecDepth 100000 in
set_option maxHeartbeats 4000000 in
theorem hea_13u {w : World} {base : Nat} {b bl cb : Nat} {n nl : Int} {ll lr : RT} {pll plr : Option Addr} {vr : Value} (hb : base ≤ w.heap.size) (hc : w.heap[b]? = some (.cells #[.int .i64 13, .int .i64 n, .pointer (some ⟨bl, 0, none⟩), vr] 36 (0, 0))) (hcl : w.heap[bl]? = some (.cells #[.int .i64 14, .int .i64 nl, .pointer pll, .pointer plr] 36 (0, 0))) (hll : Tr 36 w base ll (.pointer pll)) (hlr : Tr 36 w base lr (.pointer plr)) (ho : w.cell? ⟨cb, 0, none⟩ = some (.bool true)) :
    Calls Tryd.prog 33 #[.pointer (some ⟨b, 0, none⟩), .pointer (some ⟨cb, 0, none⟩)] w (Ret 36 w base (.node 13 0 (.node 14 0 (.node 13 0 ll .nil) (.node 13 0 lr .nil)) .nil)) := by
  obtain ⟨⟨c0, c1, c2, c3⟩, _⟩ := blk4 hc
  obtain ⟨⟨d0, d1, d2, d3⟩, _⟩ := blk4 hcl
  have hs0 : Bel w w ∧ w.cell? ⟨b, 0, none⟩ = some (.int .i64 13) ∧ w.cell? ⟨b, 2, none⟩ = some (.pointer (some ⟨bl, 0, none⟩)) ∧ w.cell? ⟨bl, 2, none⟩ = some (.pointer pll) ∧ w.cell? ⟨bl, 3, none⟩ = some (.pointer plr) := ⟨Bel.refl _, c0, c2, d2, d3⟩
  have hst : Bel w w.drew ∧ w.drew.cell? ⟨b, 0, none⟩ = some (.int .i64 13) ∧ w.drew.cell? ⟨b, 2, none⟩ = some (.pointer (some ⟨bl, 0, none⟩)) ∧ w.drew.cell? ⟨bl, 2, none⟩ = some (.pointer pll) ∧ w.drew.cell? ⟨bl, 3, none⟩ = some (.pointer plr) := ⟨Bel.drew _, c0, c2, d2, d3⟩
  have HSZ := Lib.hid hb
  clear hc hcl
  go_enter Tryd.func33, Tryd.ntmps33
  go_wp2_with fail
  go_region_held3 (fun w' => Bel w w' ∧ w'.cell? ⟨b, 0, none⟩ = some (.int .i64 13) ∧ w'.cell? ⟨b, 2, none⟩ = some (.pointer (some ⟨bl, 0, none⟩)) ∧ w'.cell? ⟨bl, 2, none⟩ = some (.pointer pll) ∧ w'.cell? ⟨bl, 3, none⟩ = some (.pointer plr))
    (first | assumption | exact keep4 hs0 (Bel.drew _) | exact keep4 (by assumption) (by assumption) | exact keep4 (by assumption) (Bel.alloc _ _) | exact keep4 hs0 ((Bel.alloc _ _).trans (Bel.drew _)) | exact keep4 hs0 ((And.left (by assumption)).trans (Bel.drew _)) | exact keep4 hs0 (And.left (by assumption)) | exact keep4 hs0 ((And.left (by assumption)).trans ((Bel.alloc _ _).trans (Bel.drew _))))
    (first
      | (go_at_call_of 18 (Value.int .i64 13); (refine Calls.mono (wRevOf_one 13 _ _ (.pointer pll) _ ?_ ll base (Nat.le_trans HSZ.out (Bel.size (And.left (by assumption)))) (hll.bel (And.left (by assumption)))) ?_); (focus ((repeat (first | (simp; done) | refine Bel.cell (Bel.alloc _ _) ?_ | refine Bel.cell (by assumption) ?_)); done)); rintro e w1 ⟨p1, rfl, ht1, hb1⟩)
      | (go_at_call_of 18 (Value.int .i64 13); (refine Calls.mono (wRevOf_one 13 _ _ (.pointer plr) _ ?_ lr base (Nat.le_trans HSZ.out (Bel.size (And.left (by assumption)))) (hlr.bel (And.left (by assumption)))) ?_); (focus ((repeat (first | (simp; done) | refine Bel.cell (Bel.alloc _ _) ?_ | refine Bel.cell (by assumption) ?_)); done)); rintro e w2 ⟨p2, rfl, ht2, hb2⟩)
      | (go_at_call_of 18 (Value.int .i64 14); (refine Calls.mono (wRevOf_two 14 _ _ (.pointer p1) (.pointer p2) _ ?_ ?_ (.node 13 0 ll .nil) (.node 13 0 lr .nil) base (Nat.le_trans HSZ.out (Bel.size (And.left (by assumption)))) (by repeat (first | assumption | refine Tr.bel ?_ (Bel.alloc _ _) | refine Tr.bel ?_ (by assumption))) (by repeat (first | assumption | refine Tr.bel ?_ (Bel.alloc _ _) | refine Tr.bel ?_ (by assumption)))) ?_); (focus ((repeat (first | (simp; done) | refine Bel.cell (Bel.alloc _ _) ?_ | refine Bel.cell (by assumption) ?_)); done)); (focus ((repeat (first | (simp; done) | refine Bel.cell (Bel.alloc _ _) ?_ | refine Bel.cell (by assumption) ?_)); done)); rintro e w3 ⟨p3, rfl, ht3, hb3⟩)
      | (go_at_call_of 18 (Value.int .i64 13); (refine Calls.mono (wRevOf_one 13 _ _ (.pointer p3) _ ?_ (.node 14 0 (.node 13 0 ll .nil) (.node 13 0 lr .nil)) base (Nat.le_trans HSZ.out (Bel.size (And.left (by assumption)))) (by repeat (first | assumption | refine Tr.bel ?_ (Bel.alloc _ _) | refine Tr.bel ?_ (by assumption)))) ?_); (focus ((repeat (first | (simp; done) | refine Bel.cell (Bel.alloc _ _) ?_ | refine Bel.cell (by assumption) ?_)); done)); rintro e w4 ⟨p4, rfl, ht4, hb4⟩))
  all_goals
    go_wp2_with fail
    go_ret
    exact ⟨_, rfl, ht4, And.left (by assumption)⟩
set_option maxRecDepth 100000 in
set_option maxHeartbeats 4000000 in
theorem hea_13o {w : World} {base : Nat} {b bl cb : Nat} {n kl nl : Int} {l : RT} {vll vlr : Value} {vr : Value} (hb : base ≤ w.heap.size) (hc : w.heap[b]? = some (.cells #[.int .i64 13, .int .i64 n, .pointer (some ⟨bl, 0, none⟩), vr] 36 (0, 0))) (hcl : w.heap[bl]? = some (.cells #[.int .i64 kl, .int .i64 nl, vll, vlr] 36 (0, 0))) (hkl : kl ≠ 14) (hl : Tr 36 w base l (.pointer (some ⟨bl, 0, none⟩))) (ho : w.cell? ⟨cb, 0, none⟩ = some (.bool true)) :
    Calls Tryd.prog 33 #[.pointer (some ⟨b, 0, none⟩), .pointer (some ⟨cb, 0, none⟩)] w (Ret 36 w base (.node 13 0 (.node 9 0 l .nil) .nil)) := by
  obtain ⟨⟨c0, c1, c2, c3⟩, _⟩ := blk4 hc
  obtain ⟨⟨d0, d1, d2, d3⟩, _⟩ := blk4 hcl
  have ekl0 : (kl == 14) = false := by simpa using (show kl ≠ 14 by omega)
  have fkl0 : (kl != 14) = true := by simpa using (show kl ≠ 14 by omega)
  have hs0 : Bel w w ∧ w.cell? ⟨b, 0, none⟩ = some (.int .i64 13) ∧ w.cell? ⟨b, 2, none⟩ = some (.pointer (some ⟨bl, 0, none⟩)) := ⟨Bel.refl _, c0, c2⟩
  have hst : Bel w w.drew ∧ w.drew.cell? ⟨b, 0, none⟩ = some (.int .i64 13) ∧ w.drew.cell? ⟨b, 2, none⟩ = some (.pointer (some ⟨bl, 0, none⟩)) := ⟨Bel.drew _, c0, c2⟩
  have HSZ := Lib.hid hb
  clear hc hcl
  go_enter Tryd.func33, Tryd.ntmps33
  go_wp2_with fail
  go_region_held3 (fun w' => Bel w w' ∧ w'.cell? ⟨b, 0, none⟩ = some (.int .i64 13) ∧ w'.cell? ⟨b, 2, none⟩ = some (.pointer (some ⟨bl, 0, none⟩)))
    (first | assumption | exact keep2 hs0 (Bel.drew _) | exact keep2 (by assumption) (by assumption) | exact keep2 (by assumption) (Bel.alloc _ _) | exact keep2 hs0 ((Bel.alloc _ _).trans (Bel.drew _)) | exact keep2 hs0 ((And.left (by assumption)).trans (Bel.drew _)) | exact keep2 hs0 (And.left (by assumption)) | exact keep2 hs0 ((And.left (by assumption)).trans ((Bel.alloc _ _).trans (Bel.drew _))))
    (first
      | (go_at_call_of 18 (Value.int .i64 9); (refine Calls.mono (wRevOf_one 9 _ _ (.pointer (some ⟨bl, 0, none⟩)) _ ?_ l base (Nat.le_trans HSZ.out (Bel.size (And.left (by assumption)))) (hl.bel (And.left (by assumption)))) ?_); (focus ((repeat (first | (simp; done) | refine Bel.cell (Bel.alloc _ _) ?_ | refine Bel.cell (by assumption) ?_)); done)); rintro e w1 ⟨p1, rfl, ht1, hb1⟩)
      | (go_at_call_of 18 (Value.int .i64 13); (refine Calls.mono (wRevOf_one 13 _ _ (.pointer p1) _ ?_ (.node 9 0 l .nil) base (Nat.le_trans HSZ.out (Bel.size (And.left (by assumption)))) (by repeat (first | assumption | refine Tr.bel ?_ (Bel.alloc _ _) | refine Tr.bel ?_ (by assumption)))) ?_); (focus ((repeat (first | (simp; done) | refine Bel.cell (Bel.alloc _ _) ?_ | refine Bel.cell (by assumption) ?_)); done)); rintro e w2 ⟨p2, rfl, ht2, hb2⟩))
  all_goals
    go_wp2_with fail
    go_ret
    exact ⟨_, rfl, ht2, And.left (by assumption)⟩
set_option maxRecDepth 100000 in
set_option maxHeartbeats 4000000 in
theorem hea_13e {w : World} {base : Nat} {b bl cb : Nat} {n kl nl : Int} {l : RT} {vll vlr : Value} {vr : Value} (hb : base ≤ w.heap.size) (hc : w.heap[b]? = some (.cells #[.int .i64 13, .int .i64 n, .pointer (some ⟨bl, 0, none⟩), vr] 36 (0, 0))) (hcl : w.heap[bl]? = some (.cells #[.int .i64 kl, .int .i64 nl, vll, vlr] 36 (0, 0))) (ht : Tr 36 w base (.node 13 n l .nil) (.pointer (some ⟨b, 0, none⟩))) (ho : w.cell? ⟨cb, 0, none⟩ = some (.bool false)) :
    Calls Tryd.prog 33 #[.pointer (some ⟨b, 0, none⟩), .pointer (some ⟨cb, 0, none⟩)] w (Ret 36 w base (.node 13 0 (.node 13 n l .nil) .nil)) := by
  obtain ⟨⟨c0, c1, c2, c3⟩, _⟩ := blk4 hc
  obtain ⟨⟨d0, d1, d2, d3⟩, _⟩ := blk4 hcl
  have HSZ := Lib.hid hb
  have HT := Lib.hid ht
  clear hc hcl ht
  by_cases hkl : kl = 14
  · subst hkl
    go_enter Tryd.func33, Tryd.ntmps33
    go_wp2_with ((go_at_call_of 18 (Value.int .i64 13); (refine Calls.mono (wRevOf_one 13 _ _ (.pointer (some ⟨b, 0, none⟩)) _ (by simp) (.node 13 n l .nil) base (Nat.le_trans HSZ.out (Bel.size (Bel.alloc _ _))) (HT.out.bel (Bel.alloc _ _))) ?_); rintro e w1 ⟨p1, rfl, ht1, hb1⟩))
    go_ret
    exact ⟨_, rfl, ht1, (Bel.alloc _ _).trans hb1⟩
  · have hx := hkl
    have ekl0 : (kl == 14) = false := by simpa using (show kl ≠ 14 by omega)
    have fkl0 : (kl != 14) = true := by simpa using (show kl ≠ 14 by omega)
    go_enter Tryd.func33, Tryd.ntmps33
    go_wp2_with ((go_at_call_of 18 (Value.int .i64 13); (refine Calls.mono (wRevOf_one 13 _ _ (.pointer (some ⟨b, 0, none⟩)) _ (by simp) (.node 13 n l .nil) base (Nat.le_trans HSZ.out (Bel.size (Bel.alloc _ _))) (HT.out.bel (Bel.alloc _ _))) ?_); rintro e w1 ⟨p1, rfl, ht1, hb1⟩))
    go_ret
    exact ⟨_, rfl, ht1, (Bel.alloc _ _).trans hb1⟩
theorem hea_by (w0 : World) (cb : Nat) (other : Bool) (ho0 : w0.cell? ⟨cb, 0, none⟩ = some (.bool other)) : ByC w0 33 #[.pointer (some ⟨cb, 0, none⟩)] (headsF other) := by
  intro t p w base hw hs hnn ht hb
  show Calls Tryd.prog 33 #[.pointer p, .pointer (some ⟨cb, 0, none⟩)] w _
  have ho := hw.cell ho0
  cases t with
  | nil => exact absurd rfl hs.ne_nil
  | node k n l r =>
    have ht0 := ht
    obtain ⟨b, vl, vr, hv, hge, hc, hl, hr⟩ := ht
    injection hv with hv
    subst hv
    obtain ⟨pl, rfl⟩ := hl.pointer
    obtain ⟨pr, rfl⟩ := hr.pointer
    by_cases hk : k = 12 ∨ k = 13
    · rcases hs.parts with ⟨_, h6, _, _⟩ | ⟨h7, h13, hsl, rfl⟩ | ⟨h14, _, _, _⟩
      · omega
      · cases l with
        | nil => exact absurd rfl hsl.ne_nil
        | node kl nl ll lr =>
          have hl0 := hl
          obtain ⟨bl, vll, vlr, hvl, hgel, hcl, hll, hlr⟩ := hl
          injection hvl with hvl
          subst hvl
          obtain ⟨pll, rfl⟩ := hll.pointer
          obtain ⟨plr, rfl⟩ := hlr.pointer
          cases other with
          | true =>
            by_cases hkl : kl = 14
            · subst hkl
              rcases hk with rfl | rfl
              · exact (hea_12u hb hc hcl hll hlr ho).mono fun e w' h => by_some rfl h
              · exact (hea_13u hb hc hcl hll hlr ho).mono fun e w' h => by_some rfl h
            · rcases hk with rfl | rfl
              · exact (hea_12o hb hc hcl hkl hl0 ho).mono fun e w' h => by_some (by unfold headsF; rw [if_neg (by simp only [RT.kind]; omega), if_neg (by simp only [RT.kind, RT.lft]; omega), if_pos (by rfl)]; rfl) h
              · exact (hea_13o hb hc hcl hkl hl0 ho).mono fun e w' h => by_some (by unfold headsF; rw [if_neg (by simp only [RT.kind]; omega), if_neg (by simp only [RT.kind, RT.lft]; omega), if_pos (by rfl)]; rfl) h
          | false =>
            rcases hk with rfl | rfl
            · exact (hea_12e hb hc hcl ht0 ho).mono fun e w' h => by_some (by unfold headsF; rw [if_neg (by simp only [RT.kind]; omega), if_neg (by simp), if_neg (by simp)]; rfl) h
            · exact (hea_13e hb hc hcl ht0 ho).mono fun e w' h => by_some (by unfold headsF; rw [if_neg (by simp only [RT.kind]; omega), if_neg (by simp), if_neg (by simp)]; rfl) h
      · omega
    · exact (hea_no hc (by omega) (by omega)).mono fun e w' h => by_none (by unfold headsF; exact if_pos (by simp only [RT.kind]; omega)) h
theorem enters33 : EntersAt 33 := EntersAt.of Tryd.func33 (by kernel_rfl) (by kernel_rfl)

end Go.Proofs.YtijaoedlhmdpnaaDoor
/- TopHeadsTwice walked. -/
namespace Go.Proofs.YtijaoedlhmdpnaaDoor
open Go.RowKit Go.Proofs.YtijaoedlhmdpnaaDoor.PTopQueriesKept Go.Proofs.YtijaoedlhmdpnaaDoorW.PrintWords

set_option maxRecDepth 100000 in
set_option maxHeartbeats 4000000 in
theorem topHea_any (cs : List S51) (A : Option Addr) (c : Nat) (xs : List S53) (A1 : Option Addr) (c1 : Nat) (which : Int) (other : Bool) (w : World) (he : Env w) (hC : Kd.C k51 w A cs.length cs) (hc : cs.length ≤ c) (hC1 : Kd.C k53 w A1 xs.length xs) (hc1 : xs.length ≤ c1) :
    Calls Tryd.prog 12 #[.slice A cs.length c, .agg #[.slice A1 xs.length c1], .int .i64 which, .bool other] w (RetTrue w) := by
  have HQ := Lib.hid (fun (w2 : World) (p1 p2 : Nat) (hp1 : w2.cell? ⟨p1, 0, none⟩ = some (.func (.func 33) #[] #[.pointer (some ⟨w.heap.size + 1, 0, none⟩)])) (hp2 : w2.cell? ⟨p2, 0, none⟩ = some (.int .i64 which)) (hz1 : w2.cell? ⟨w.heap.size + 1, 0, none⟩ = some (.bool other)) (w' : World) (hw : Bel w2 w') (hww : Bel w w') =>
    law_query enters33 (hea_by w2 (w.heap.size + 1) other hz1) (heads_good other) hp1 hp2 hw (he.bel hww) (Kd.C_below hC hww) hc (Kd.C_below hC1 hww) hc1)
  have HB := Lib.hid ((Bel.alloc w (Obj.cells #[.slice A1 xs.length c1] 25)).thenAlloc (Obj.cells #[.bool other] 4))
  have hk0 : ((w.alloc (Obj.cells #[.slice A1 xs.length c1] 25)).alloc (Obj.cells #[.bool other] 4)).cell? ⟨w.heap.size, 0, none⟩ = some (.slice A1 xs.length c1) := by simp
  have hk1 : ((w.alloc (Obj.cells #[.slice A1 xs.length c1] 25)).alloc (Obj.cells #[.bool other] 4)).cell? ⟨w.heap.size + 1, 0, none⟩ = some (.bool other) := by simp
  clear he hC hc hC1 hc1
  go_enter Tryd.func12, Tryd.ntmps12
  go_wp2_with fail
  generalize ((w.alloc (Obj.cells #[.slice A1 xs.length c1] 25)).alloc (Obj.cells #[.bool other] 4)) = W at *
  have hs0 : Bel W W ∧ W.cell? ⟨w.heap.size, 0, none⟩ = some (.slice A1 xs.length c1) ∧ W.cell? ⟨w.heap.size + 1, 0, none⟩ = some (.bool other) := ⟨Bel.refl _, hk0, hk1⟩
  have hst : Bel W W.drew ∧ W.drew.cell? ⟨w.heap.size, 0, none⟩ = some (.slice A1 xs.length c1) ∧ W.drew.cell? ⟨w.heap.size + 1, 0, none⟩ = some (.bool other) := ⟨Bel.drew _, hk0, hk1⟩
  go_region_held3 (fun w' => Bel W w' ∧ w'.cell? ⟨w.heap.size, 0, none⟩ = some (.slice A1 xs.length c1) ∧ w'.cell? ⟨w.heap.size + 1, 0, none⟩ = some (.bool other))
    (first | assumption | exact keep2 (by assumption) (by assumption) | exact keep2 (by assumption) (Bel.alloc _ _))
    (first
      | (go_at_call 16; (refine (wPut_any which 33 #[.pointer (some ⟨w.heap.size + 1, 0, none⟩)] _).mono ?_); rintro e w2 ⟨p1, p2, rfl, hb2, hp1, hp2⟩)
      | (go_at_call 15; (refine (HQ.out _ p1 p2 hp1 hp2 (And.right (And.right (by assumption))) _ (Bel.refl _) (HB.out.trans (And.left (by assumption)))).mono ?_); rintro e w3 ⟨rfl, hb3⟩))
  all_goals
    have HB3 := Lib.hid (HB.out.trans (And.left (by assumption)))
    go_wp2_with fail
    go_ret
    exact ⟨rfl, HB3.out⟩

end Go.Proofs.YtijaoedlhmdpnaaDoor
namespace Go.Proofs.YtijaoedlhmdpnaaDoor
open Go.ChangeShapes Go.WideShapes Go.ChangeAt Go.RowKit
set_option maxRecDepth 100000

theorem topHeadsTwice_lifted (os : Os) (started : os.Started) (H : Type) (enc : TypeId × Value → H) :
    ReturnsInHanded {} Tryd.checked os 12 .any (fun w args => (Rows.topHeadsTwiceSpec.pre enc Tryd.prog Tryd.f12 [] false w args ∧ laidMetH Tryd.prog laidL w) ∧ sizedMet enc Tryd.prog Tryd.f12 (OpenSpec.ofChange Rows.topHeadsTwiceSpec) false w args)
      (Rows.topHeadsTwiceSpec.post enc Tryd.prog Tryd.f12 false true false false) := by
  refine returnsInHanded_of_change_and (C := Tryd.checked) (X := fun w _ => laidMetH Tryd.prog laidL w) (fun _ _ _ hh h => h.of_heap hh) own started (by kernel_rfl) Tryd.func12
    (ChangeSpec.witness_shaped (enc := enc) (C := Tryd.checked) (os := os) (X := fun w _ => laidMetH Tryd.prog laidL w) false (World.doorLaid Tryd.prog 67 os) #[.slice none 0 0, .agg #[.slice none 0 0], .int .i64 0, .bool false] 8 rfl (World.shaped_of_RefB (by kernel_rfl) (by kernel_rfl)) (by kernel_rfl) (by kernel_rfl) (by kernel_rfl) (door_met os _)) ?_
  intro W base args ds gs before hval0 hW _ _ hL _
  have hval : ∀ (j : Nat) t v, Tryd.f12.params[j]? = some t → args[j]? = some v → Value.okWide Tryd.prog W .any base t v := hval0
  have hW' := hW
  obtain ⟨p, q, hA0, hV, rfl, hfz, hnd⟩ := hW
  have hA : DataW.TrodAll enc Tryd.prog W 0 (fun _ => true) true Tryd.f12.params.toList args.toList ds p := hA0
  rw [Tryd.params12] at hA hval
  obtain ⟨v0, vs0, d0, ds0, p0, q0, hargs, rfl, rfl, h0, r0⟩ := trodAll_cons hA
  obtain ⟨v1, vs1, d1, ds1, p1, q1, rfl, rfl, rfl, h1, r1⟩ := trodAll_cons r0
  obtain ⟨v2, vs2, d2, ds2, p2, q2, rfl, rfl, rfl, h2, r2⟩ := trodAll_cons r1
  obtain ⟨v3, vs3, d3, ds3, p3, q3, rfl, rfl, rfl, h3, r3⟩ := trodAll_cons r2
  obtain ⟨rfl, rfl, rfl⟩ := trodAll_nil r3
  obtain rfl : args = #[v0, v1, v2, v3] := by cases args; simp_all
  obtain ⟨rfl, rfl⟩ := trodVars_none hV
  have lt0 : ∀ x ∈ p0, x.block < W.heap.size := by obtain ⟨m, hm⟩ := h0; exact DataW.trod_lt m _ _ _ hm
  have lt1 : ∀ x ∈ p1, x.block < W.heap.size := by obtain ⟨m, hm⟩ := h1; exact DataW.trod_lt m _ _ _ hm
  obtain ⟨cs, A, c, rfl, hc, hC⟩ := commits_opened (hval 0 22 v0 rfl rfl) h0
  obtain ⟨u, xs, rfl, A1, c1, rfl, hc1, hC1⟩ := query_opened (hval 1 25 v1 rfl rfl) h1
  obtain ⟨a2, rfl, rfl, rfl, w2⟩ := open_int Tryd.underlying3 (hval 2 3 v2 rfl rfl) h2
  obtain ⟨a3, rfl, rfl, rfl⟩ := open_bool Tryd.underlying4 (hval 3 4 v3 rfl rfl) h3
  have he := env_of_laid hL
  clear hA0 hval0 hval
  refine (topHea_any cs A c xs A1 c1 a2 a3 W he hC hc hC1 hc1).mono fun e W' ⟨hee, hb0⟩ => ?_
  have hb := Lib.hid hb0
  subst hee
  exact ⟨_, rfl, _, _, _, [], _, [], hW', trodAll_mk1 (shut_bool Tryd.underlying4 _), (trodAll_cons_mk (Below.trod laidOut (by kernel_rfl) (of_decide_eq_true (by kernel_rfl)) h0 hb.out lt0) (trodAll_cons_mk (Below.trod laidOut (by kernel_rfl) (of_decide_eq_true (by kernel_rfl)) h1 hb.out lt1) (trodAll_cons_mk (shut_int Tryd.underlying3 w2) (trodAll_cons_mk (shut_bool Tryd.underlying4 _) trodAll_mk0)))), rfl, (show Below W.heap.size W W' from hb.out).frame _, fun h => by cases h⟩

theorem topHeadsTwice_row : Rows.TopHeadsTwiceSaid :=
  OpenClaim.holds_of_wide 12 Tryd.f12 rfl rfl rfl rfl rfl rfl rfl ⟨rfl, rfl, rfl, rfl, rfl⟩ rfl rfl rfl rfl rfl (by kernel_rfl) Tryd.func12 (by kernel_rfl)
    (of_decide_eq_true (by kernel_rfl)) (by unfold Func.isWrapper; first | (rw [if_pos (by decide +kernel)]; kernel_rfl) | (rw [if_neg (by decide +kernel)]; exact ⟨rfl, rfl⟩))
    (fun os started H enc _ => topHeadsTwice_lifted os started H enc)

theorem topHeadsTwice_holds : Rows.TopHeadsTwiceCardSaid :=
  Claim7.holds_tied_plain_at .later [] [.data, .data, .data, .sentinel, .sentinel, .widerDeep] true (true, "a0d9a2353728ea79b086a747090c81b9a0a74b7d21e1d1052255b4b7a5fadd21") true
    topHeadsTwice_row (fun _ h => by cases h) (by kernel_rfl) (fun _ h => by cases h) topHeadsTwice_row_tie rfl ⟨rfl, rfl⟩ (by kernel_rfl) rfl
    (fun f fn hf hfn => by
      obtain rfl : f = 12 := Option.some.inj ((show Tryd.prog.funcNamed "changeforge/changeforgetop.TopHeadsTwice" = some 12 by kernel_rfl).symm.trans hf) |>.symm
      obtain rfl : fn = Tryd.f12 := (Option.some.inj (Tryd.func12.symm.trans hfn)).symm
      exact ⟨by kernel_rfl, fun j t ht => by
        rw [Tryd.params12] at ht
        have hm : t ∈ [22, 25, 3, 4] := by simpa using Array.mem_of_getElem? ht
        have hall : ([22, 25, 3, 4].all fun u => !Tryd.prog.wantsStandIn u) = true := by kernel_rfl
        exact (show Tryd.prog.wantsStandIn t = false by simpa using List.all_eq_true.1 hall t hm)⟩)
    (by kernel_rfl)
#print axioms topHeadsTwice_holds
end Go.Proofs.YtijaoedlhmdpnaaDoor
