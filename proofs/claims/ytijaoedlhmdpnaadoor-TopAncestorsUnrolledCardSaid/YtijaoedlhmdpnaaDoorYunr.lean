/- TopAncestorsUnrolled: for every input the call returns true and each argument reads as it read, where the package-level variables that the row lists hold what the program's text lays in them: the row, and its tied card. -/
import Derived.Test.YtijaoedlhmdpnaaDoorZ7
import Derived.Test.YtijaoedlhmdpnaaDoorCards
import Derived.Test.YtijaoedlhmdpnaaDoorTie
import Derived.SevenTiedAt
set_option linter.unusedVariables false
set_option linter.unusedSimpArgs false
/- The closure of TopAncestorsUnrolled walked. -/
namespace Go.Proofs.YtijaoedlhmdpnaaDoor
open Go.RowKit Go.Proofs.YtijaoedlhmdpnaaDoor.PTopQueriesKept Go.Proofs.YtijaoedlhmdpnaaDoorW.PrintWords

set_option maxRecDepth 100000 in
set_option maxHeartbeats 4000000 in
theorem unr_no {w : World} {b cb : Nat} {k n : Int} {vl vr : Value} (hc : w.heap[b]? = some (.cells #[.int .i64 k, .int .i64 n, vl, vr] 36 (0, 0))) (h8 : k ≠ 8) (h9 : k ≠ 9) :
    Calls Tryd.prog 29 #[.pointer (some ⟨b, 0, none⟩), .pointer (some ⟨cb, 0, none⟩)] w fun e w' => e = .returned (.pointer none) ∧ w = w' := by
  obtain ⟨⟨c0, c1, c2, c3⟩, _⟩ := blk4 hc
  have e1 : (k == 8) = false := by simpa using h8
  have e2 : (k == 9) = false := by simpa using h9
  have e3 : (k != 8) = true := by simpa using h8
  have e4 : (k != 9) = true := by simpa using h9
  clear hc
  go_enter Tryd.func29, Tryd.ntmps29
  go_wp2_with fail
  go_ret
  exact ⟨rfl, rfl⟩
set_option maxRecDepth 100000 in
set_option maxHeartbeats 4000000 in
theorem unr_8t {w : World} {base b cb : Nat} {n : Int} {l : RT} {pl : Option Addr} {vr : Value} (hb : base ≤ w.heap.size) (ht : Tr 36 w base (.node 8 n l .nil) (.pointer (some ⟨b, 0, none⟩))) (hc : w.heap[b]? = some (.cells #[.int .i64 8, .int .i64 n, .pointer pl, vr] 36 (0, 0))) (hl : Tr 36 w base l (.pointer pl)) (ho : w.cell? ⟨cb, 0, none⟩ = some (.bool true)) :
    Calls Tryd.prog 29 #[.pointer (some ⟨b, 0, none⟩), .pointer (some ⟨cb, 0, none⟩)] w (Ret 36 w base (.node 14 0 (.node 10 0 (.node 8 n l .nil) .nil) l)) := by
  obtain ⟨⟨c0, c1, c2, c3⟩, _⟩ := blk4 hc
  have hs0 : Bel w w ∧ w.cell? ⟨b, 0, none⟩ = some (.int .i64 8) ∧ w.cell? ⟨b, 2, none⟩ = some (.pointer pl) := ⟨Bel.refl _, c0, c2⟩
  have hst : Bel w w.drew ∧ w.drew.cell? ⟨b, 0, none⟩ = some (.int .i64 8) ∧ w.drew.cell? ⟨b, 2, none⟩ = some (.pointer pl) := ⟨Bel.drew _, c0, c2⟩
  have HSZ := Lib.hid hb
  clear hc
  go_enter Tryd.func29, Tryd.ntmps29
  go_wp2_with fail
  go_region_held3 (fun w' => Bel w w' ∧ w'.cell? ⟨b, 0, none⟩ = some (.int .i64 8) ∧ w'.cell? ⟨b, 2, none⟩ = some (.pointer pl))
    (first | assumption | exact keep2 hs0 (Bel.drew _) | exact keep2 (by assumption) (by assumption) | exact keep2 (by assumption) (Bel.alloc _ _) | exact keep2 hs0 ((Bel.alloc _ _).trans (Bel.drew _)) | exact keep2 hs0 ((And.left (by assumption)).trans (Bel.drew _)) | exact keep2 hs0 (And.left (by assumption)) | exact keep2 hs0 ((And.left (by assumption)).trans ((Bel.alloc _ _).trans (Bel.drew _))))
    (first
      | (go_at_call_of 30 (Value.int .i64 8); (refine (wStep_any 8 10 rfl _).mono ?_); rintro e w9 ⟨rfl, rfl⟩)
      | (go_at_call 19; (refine Calls.mono (wSame_any l (.pointer pl) _ _ base (hl.bel (And.left (by assumption))) (Nat.le_trans HSZ.out (Bel.size (And.left (by assumption))))) ?_); rintro e w1 ⟨p1, rfl, ht1, hb1⟩)
      | (go_at_call_of 18 (Value.int .i64 10); (refine Calls.mono (wRevOf_one 10 _ _ (.pointer (some ⟨b, 0, none⟩)) _ ?_ (.node 8 n l .nil) base (Nat.le_trans HSZ.out (Bel.size (And.left (by assumption)))) (ht.bel (And.left (by assumption)))) ?_); (focus ((repeat (first | (simp; done) | refine Bel.cell (Bel.alloc _ _) ?_ | refine Bel.cell (by assumption) ?_)); done)); rintro e w2 ⟨p2, rfl, ht2, hb2⟩)
      | (go_at_call_of 18 (Value.int .i64 14); (refine Calls.mono (wRevOf_two 14 _ _ (.pointer p2) (.pointer p1) _ ?_ ?_ (.node 10 0 (.node 8 n l .nil) .nil) l base (Nat.le_trans HSZ.out (Bel.size (And.left (by assumption)))) (by repeat (first | assumption | refine Tr.bel ?_ (Bel.alloc _ _) | refine Tr.bel ?_ (by assumption))) (by repeat (first | assumption | refine Tr.bel ?_ (Bel.alloc _ _) | refine Tr.bel ?_ (by assumption)))) ?_); (focus ((repeat (first | (simp; done) | refine Bel.cell (Bel.alloc _ _) ?_ | refine Bel.cell (by assumption) ?_)); done)); (focus ((repeat (first | (simp; done) | refine Bel.cell (Bel.alloc _ _) ?_ | refine Bel.cell (by assumption) ?_)); done)); rintro e w3 ⟨p3, rfl, ht3, hb3⟩))
  all_goals
    go_wp2_with fail
    go_ret
    exact ⟨_, rfl, ht3, And.left (by assumption)⟩
set_option maxRecDepth 100000 in
set_option maxHeartbeats 4000000 in
theorem unr_8f {w : World} {base b cb : Nat} {n : Int} {l : RT} {pl : Option Addr} {vr : Value} (hb : base ≤ w.heap.size) (ht : Tr 36 w base (.node 8 n l .nil) (.pointer (some ⟨b, 0, none⟩))) (hc : w.heap[b]? = some (.cells #[.int .i64 8, .int .i64 n, .pointer pl, vr] 36 (0, 0))) (hl : Tr 36 w base l (.pointer pl)) (ho : w.cell? ⟨cb, 0, none⟩ = some (.bool false)) :
    Calls Tryd.prog 29 #[.pointer (some ⟨b, 0, none⟩), .pointer (some ⟨cb, 0, none⟩)] w (Ret 36 w base (.node 14 0 l (.node 8 0 (.node 10 0 l .nil) .nil))) := by
  obtain ⟨⟨c0, c1, c2, c3⟩, _⟩ := blk4 hc
  have hs0 : Bel w w ∧ w.cell? ⟨b, 0, none⟩ = some (.int .i64 8) ∧ w.cell? ⟨b, 2, none⟩ = some (.pointer pl) := ⟨Bel.refl _, c0, c2⟩
  have hst : Bel w w.drew ∧ w.drew.cell? ⟨b, 0, none⟩ = some (.int .i64 8) ∧ w.drew.cell? ⟨b, 2, none⟩ = some (.pointer pl) := ⟨Bel.drew _, c0, c2⟩
  have HSZ := Lib.hid hb
  clear hc
  go_enter Tryd.func29, Tryd.ntmps29
  go_wp2_with fail
  go_region_held3 (fun w' => Bel w w' ∧ w'.cell? ⟨b, 0, none⟩ = some (.int .i64 8) ∧ w'.cell? ⟨b, 2, none⟩ = some (.pointer pl))
    (first | assumption | exact keep2 hs0 (Bel.drew _) | exact keep2 (by assumption) (by assumption) | exact keep2 (by assumption) (Bel.alloc _ _) | exact keep2 hs0 ((Bel.alloc _ _).trans (Bel.drew _)) | exact keep2 hs0 ((And.left (by assumption)).trans (Bel.drew _)) | exact keep2 hs0 (And.left (by assumption)) | exact keep2 hs0 ((And.left (by assumption)).trans ((Bel.alloc _ _).trans (Bel.drew _))))
    (first
      | (go_at_call_of 30 (Value.int .i64 8); (refine (wStep_any 8 10 rfl _).mono ?_); rintro e w9 ⟨rfl, rfl⟩)
      | (go_at_call 19; (refine Calls.mono (wSame_any l (.pointer pl) _ _ base (hl.bel (And.left (by assumption))) (Nat.le_trans HSZ.out (Bel.size (And.left (by assumption))))) ?_); rintro e w1 ⟨p1, rfl, ht1, hb1⟩)
      | (go_at_call_of 18 (Value.int .i64 10); (refine Calls.mono (wRevOf_one 10 _ _ (.pointer pl) _ ?_ l base (Nat.le_trans HSZ.out (Bel.size (And.left (by assumption)))) (hl.bel (And.left (by assumption)))) ?_); (focus ((repeat (first | (simp; done) | refine Bel.cell (Bel.alloc _ _) ?_ | refine Bel.cell (by assumption) ?_)); done)); rintro e w2 ⟨p2, rfl, ht2, hb2⟩)
      | (go_at_call_of 18 (Value.int .i64 8); (refine Calls.mono (wRevOf_one 8 _ _ (.pointer p2) _ ?_ (.node 10 0 l .nil) base (Nat.le_trans HSZ.out (Bel.size (And.left (by assumption)))) (by repeat (first | assumption | refine Tr.bel ?_ (Bel.alloc _ _) | refine Tr.bel ?_ (by assumption)))) ?_); (focus ((repeat (first | (simp; done) | refine Bel.cell (Bel.alloc _ _) ?_ | refine Bel.cell (by assumption) ?_)); done)); rintro e w3 ⟨p3, rfl, ht3, hb3⟩)
      | (go_at_call_of 18 (Value.int .i64 14); (refine Calls.mono (wRevOf_two 14 _ _ (.pointer p1) (.pointer p3) _ ?_ ?_ l (.node 8 0 (.node 10 0 l .nil) .nil) base (Nat.le_trans HSZ.out (Bel.size (And.left (by assumption)))) (by repeat (first | assumption | refine Tr.bel ?_ (Bel.alloc _ _) | refine Tr.bel ?_ (by assumption))) (by repeat (first | assumption | refine Tr.bel ?_ (Bel.alloc _ _) | refine Tr.bel ?_ (by assumption)))) ?_); (focus ((repeat (first | (simp; done) | refine Bel.cell (Bel.alloc _ _) ?_ | refine Bel.cell (by assumption) ?_)); done)); (focus ((repeat (first | (simp; done) | refine Bel.cell (Bel.alloc _ _) ?_ | refine Bel.cell (by assumption) ?_)); done)); rintro e w4 ⟨p4, rfl, ht4, hb4⟩))
  all_goals
    go_wp2_with fail
    go_ret
    exact ⟨_, rfl, ht4, And.left (by assumption)⟩
set_option maxRecDepth 100000 in
set_option maxHeartbeats 4000000 in
theorem unr_9t {w : World} {base b cb : Nat} {n : Int} {l : RT} {pl : Option Addr} {vr : Value} (hb : base ≤ w.heap.size) (ht : Tr 36 w base (.node 9 n l .nil) (.pointer (some ⟨b, 0, none⟩))) (hc : w.heap[b]? = some (.cells #[.int .i64 9, .int .i64 n, .pointer pl, vr] 36 (0, 0))) (hl : Tr 36 w base l (.pointer pl)) (ho : w.cell? ⟨cb, 0, none⟩ = some (.bool true)) :
    Calls Tryd.prog 29 #[.pointer (some ⟨b, 0, none⟩), .pointer (some ⟨cb, 0, none⟩)] w (Ret 36 w base (.node 14 0 (.node 11 0 (.node 9 n l .nil) .nil) l)) := by
  obtain ⟨⟨c0, c1, c2, c3⟩, _⟩ := blk4 hc
  have hs0 : Bel w w ∧ w.cell? ⟨b, 0, none⟩ = some (.int .i64 9) ∧ w.cell? ⟨b, 2, none⟩ = some (.pointer pl) := ⟨Bel.refl _, c0, c2⟩
  have hst : Bel w w.drew ∧ w.drew.cell? ⟨b, 0, none⟩ = some (.int .i64 9) ∧ w.drew.cell? ⟨b, 2, none⟩ = some (.pointer pl) := ⟨Bel.drew _, c0, c2⟩
  have HSZ := Lib.hid hb
  clear hc
  go_enter Tryd.func29, Tryd.ntmps29
  go_wp2_with fail
  go_region_held3 (fun w' => Bel w w' ∧ w'.cell? ⟨b, 0, none⟩ = some (.int .i64 9) ∧ w'.cell? ⟨b, 2, none⟩ = some (.pointer pl))
    (first | assumption | exact keep2 hs0 (Bel.drew _) | exact keep2 (by assumption) (by assumption) | exact keep2 (by assumption) (Bel.alloc _ _) | exact keep2 hs0 ((Bel.alloc _ _).trans (Bel.drew _)) | exact keep2 hs0 ((And.left (by assumption)).trans (Bel.drew _)) | exact keep2 hs0 (And.left (by assumption)) | exact keep2 hs0 ((And.left (by assumption)).trans ((Bel.alloc _ _).trans (Bel.drew _))))
    (first
      | (go_at_call_of 30 (Value.int .i64 9); (refine (wStep_any 9 11 rfl _).mono ?_); rintro e w9 ⟨rfl, rfl⟩)
      | (go_at_call 19; (refine Calls.mono (wSame_any l (.pointer pl) _ _ base (hl.bel (And.left (by assumption))) (Nat.le_trans HSZ.out (Bel.size (And.left (by assumption))))) ?_); rintro e w1 ⟨p1, rfl, ht1, hb1⟩)
      | (go_at_call_of 18 (Value.int .i64 11); (refine Calls.mono (wRevOf_one 11 _ _ (.pointer (some ⟨b, 0, none⟩)) _ ?_ (.node 9 n l .nil) base (Nat.le_trans HSZ.out (Bel.size (And.left (by assumption)))) (ht.bel (And.left (by assumption)))) ?_); (focus ((repeat (first | (simp; done) | refine Bel.cell (Bel.alloc _ _) ?_ | refine Bel.cell (by assumption) ?_)); done)); rintro e w2 ⟨p2, rfl, ht2, hb2⟩)
      | (go_at_call_of 18 (Value.int .i64 14); (refine Calls.mono (wRevOf_two 14 _ _ (.pointer p2) (.pointer p1) _ ?_ ?_ (.node 11 0 (.node 9 n l .nil) .nil) l base (Nat.le_trans HSZ.out (Bel.size (And.left (by assumption)))) (by repeat (first | assumption | refine Tr.bel ?_ (Bel.alloc _ _) | refine Tr.bel ?_ (by assumption))) (by repeat (first | assumption | refine Tr.bel ?_ (Bel.alloc _ _) | refine Tr.bel ?_ (by assumption)))) ?_); (focus ((repeat (first | (simp; done) | refine Bel.cell (Bel.alloc _ _) ?_ | refine Bel.cell (by assumption) ?_)); done)); (focus ((repeat (first | (simp; done) | refine Bel.cell (Bel.alloc _ _) ?_ | refine Bel.cell (by assumption) ?_)); done)); rintro e w3 ⟨p3, rfl, ht3, hb3⟩))
  all_goals
    go_wp2_with fail
    go_ret
    exact ⟨_, rfl, ht3, And.left (by assumption)⟩
set_option maxRecDepth 100000 in
set_option maxHeartbeats 4000000 in
theorem unr_9f {w : World} {base b cb : Nat} {n : Int} {l : RT} {pl : Option Addr} {vr : Value} (hb : base ≤ w.heap.size) (ht : Tr 36 w base (.node 9 n l .nil) (.pointer (some ⟨b, 0, none⟩))) (hc : w.heap[b]? = some (.cells #[.int .i64 9, .int .i64 n, .pointer pl, vr] 36 (0, 0))) (hl : Tr 36 w base l (.pointer pl)) (ho : w.cell? ⟨cb, 0, none⟩ = some (.bool false)) :
    Calls Tryd.prog 29 #[.pointer (some ⟨b, 0, none⟩), .pointer (some ⟨cb, 0, none⟩)] w (Ret 36 w base (.node 14 0 l (.node 9 0 (.node 11 0 l .nil) .nil))) := by
  obtain ⟨⟨c0, c1, c2, c3⟩, _⟩ := blk4 hc
  have hs0 : Bel w w ∧ w.cell? ⟨b, 0, none⟩ = some (.int .i64 9) ∧ w.cell? ⟨b, 2, none⟩ = some (.pointer pl) := ⟨Bel.refl _, c0, c2⟩
  have hst : Bel w w.drew ∧ w.drew.cell? ⟨b, 0, none⟩ = some (.int .i64 9) ∧ w.drew.cell? ⟨b, 2, none⟩ = some (.pointer pl) := ⟨Bel.drew _, c0, c2⟩
  have HSZ := Lib.hid hb
  clear hc
  go_enter Tryd.func29, Tryd.ntmps29
  go_wp2_with fail
  go_region_held3 (fun w' => Bel w w' ∧ w'.cell? ⟨b, 0, none⟩ = some (.int .i64 9) ∧ w'.cell? ⟨b, 2, none⟩ = some (.pointer pl))
    (first | assumption | exact keep2 hs0 (Bel.drew _) | exact keep2 (by assumption) (by assumption) | exact keep2 (by assumption) (Bel.alloc _ _) | exact keep2 hs0 ((Bel.alloc _ _).trans (Bel.drew _)) | exact keep2 hs0 ((And.left (by assumption)).trans (Bel.drew _)) | exact keep2 hs0 (And.left (by assumption)) | exact keep2 hs0 ((And.left (by assumption)).trans ((Bel.alloc _ _).trans (Bel.drew _))))
    (first
      | (go_at_call_of 30 (Value.int .i64 9); (refine (wStep_any 9 11 rfl _).mono ?_); rintro e w9 ⟨rfl, rfl⟩)
      | (go_at_call 19; (refine Calls.mono (wSame_any l (.pointer pl) _ _ base (hl.bel (And.left (by assumption))) (Nat.le_trans HSZ.out (Bel.size (And.left (by assumption))))) ?_); rintro e w1 ⟨p1, rfl, ht1, hb1⟩)
      | (go_at_call_of 18 (Value.int .i64 11); (refine Calls.mono (wRevOf_one 11 _ _ (.pointer pl) _ ?_ l base (Nat.le_trans HSZ.out (Bel.size (And.left (by assumption)))) (hl.bel (And.left (by assumption)))) ?_); (focus ((repeat (first | (simp; done) | refine Bel.cell (Bel.alloc _ _) ?_ | refine Bel.cell (by assumption) ?_)); done)); rintro e w2 ⟨p2, rfl, ht2, hb2⟩)
      | (go_at_call_of 18 (Value.int .i64 9); (refine Calls.mono (wRevOf_one 9 _ _ (.pointer p2) _ ?_ (.node 11 0 l .nil) base (Nat.le_trans HSZ.out (Bel.size (And.left (by assumption)))) (by repeat (first | assumption | refine Tr.bel ?_ (Bel.alloc _ _) | refine Tr.bel ?_ (by assumption)))) ?_); (focus ((repeat (first | (simp; done) | refine Bel.cell (Bel.alloc _ _) ?_ | refine Bel.cell (by assumption) ?_)); done)); rintro e w3 ⟨p3, rfl, ht3, hb3⟩)
      | (go_at_call_of 18 (Value.int .i64 14); (refine Calls.mono (wRevOf_two 14 _ _ (.pointer p1) (.pointer p3) _ ?_ ?_ l (.node 9 0 (.node 11 0 l .nil) .nil) base (Nat.le_trans HSZ.out (Bel.size (And.left (by assumption)))) (by repeat (first | assumption | refine Tr.bel ?_ (Bel.alloc _ _) | refine Tr.bel ?_ (by assumption))) (by repeat (first | assumption | refine Tr.bel ?_ (Bel.alloc _ _) | refine Tr.bel ?_ (by assumption)))) ?_); (focus ((repeat (first | (simp; done) | refine Bel.cell (Bel.alloc _ _) ?_ | refine Bel.cell (by assumption) ?_)); done)); (focus ((repeat (first | (simp; done) | refine Bel.cell (Bel.alloc _ _) ?_ | refine Bel.cell (by assumption) ?_)); done)); rintro e w4 ⟨p4, rfl, ht4, hb4⟩))
  all_goals
    go_wp2_with fail
    go_ret
    exact ⟨_, rfl, ht4, And.left (by assumption)⟩

theorem unr_by (w0 : World) (cb : Nat) (behind : Bool) (ho0 : w0.cell? ⟨cb, 0, none⟩ = some (.bool behind)) : ByC w0 29 #[.pointer (some ⟨cb, 0, none⟩)] (unrolledF behind) := by
  intro t p w base hw hs hnn ht hb
  show Calls Tryd.prog 29 #[.pointer p, .pointer (some ⟨cb, 0, none⟩)] w _
  have ho := hw.cell ho0
  cases t with
  | nil => exact absurd rfl hs.ne_nil
  | node k n l r =>
    have ht0 := ht
    obtain ⟨b, vl, vr, hv, hge, hc, hl, hr⟩ := ht
    injection hv with hv
    subst hv
    by_cases hk : k = 8 ∨ k = 9
    · obtain ⟨pl, rfl⟩ := hl.pointer
      rcases hs.parts with ⟨_, h6, _, _⟩ | ⟨h7, h13, hsl, rfl⟩ | ⟨h14, _, _, _⟩
      · omega
      · rcases hk with rfl | rfl <;> cases behind
        · exact (unr_8f hb ht0 hc hl ho).mono fun e w' h => by_some rfl h
        · exact (unr_8t hb ht0 hc hl ho).mono fun e w' h => by_some rfl h
        · exact (unr_9f hb ht0 hc hl ho).mono fun e w' h => by_some rfl h
        · exact (unr_9t hb ht0 hc hl ho).mono fun e w' h => by_some rfl h
      · omega
    · exact (unr_no hc (by omega) (by omega)).mono fun e w' h => by_none (by unfold unrolledF; exact if_pos (by simp only [RT.kind]; omega)) h
theorem enters29 : EntersAt 29 := EntersAt.of Tryd.func29 (by kernel_rfl) (by kernel_rfl)

end Go.Proofs.YtijaoedlhmdpnaaDoor
/- TopAncestorsUnrolled walked. -/
namespace Go.Proofs.YtijaoedlhmdpnaaDoor
open Go.RowKit Go.Proofs.YtijaoedlhmdpnaaDoor.PTopQueriesKept Go.Proofs.YtijaoedlhmdpnaaDoorW.PrintWords

set_option maxRecDepth 100000 in
set_option maxHeartbeats 4000000 in
theorem topUnr_any (cs : List S51) (A : Option Addr) (c : Nat) (xs : List S53) (A1 : Option Addr) (c1 : Nat) (which : Int) (behind : Bool) (w : World) (he : Env w) (hC : Kd.C k51 w A cs.length cs) (hc : cs.length ≤ c) (hC1 : Kd.C k53 w A1 xs.length xs) (hc1 : xs.length ≤ c1) :
    Calls Tryd.prog 9 #[.slice A cs.length c, .agg #[.slice A1 xs.length c1], .int .i64 which, .bool behind] w (RetTrue w) := by
  have HQ := Lib.hid (fun (w2 : World) (p1 p2 : Nat) (hp1 : w2.cell? ⟨p1, 0, none⟩ = some (.func (.func 29) #[] #[.pointer (some ⟨w.heap.size + 1, 0, none⟩)])) (hp2 : w2.cell? ⟨p2, 0, none⟩ = some (.int .i64 which)) (hz1 : w2.cell? ⟨w.heap.size + 1, 0, none⟩ = some (.bool behind)) (w' : World) (hw : Bel w2 w') (hww : Bel w w') =>
    law_query enters29 (unr_by w2 (w.heap.size + 1) behind hz1) (unrolled_good behind) hp1 hp2 hw (he.bel hww) (Kd.C_below hC hww) hc (Kd.C_below hC1 hww) hc1)
  have HB := Lib.hid ((Bel.alloc w (Obj.cells #[.slice A1 xs.length c1] 25)).thenAlloc (Obj.cells #[.bool behind] 4))
  have hk0 : ((w.alloc (Obj.cells #[.slice A1 xs.length c1] 25)).alloc (Obj.cells #[.bool behind] 4)).cell? ⟨w.heap.size, 0, none⟩ = some (.slice A1 xs.length c1) := by simp
  have hk1 : ((w.alloc (Obj.cells #[.slice A1 xs.length c1] 25)).alloc (Obj.cells #[.bool behind] 4)).cell? ⟨w.heap.size + 1, 0, none⟩ = some (.bool behind) := by simp
  clear he hC hc hC1 hc1
  go_enter Tryd.func9, Tryd.ntmps9
  go_wp2_with fail
  generalize ((w.alloc (Obj.cells #[.slice A1 xs.length c1] 25)).alloc (Obj.cells #[.bool behind] 4)) = W at *
  have hs0 : Bel W W ∧ W.cell? ⟨w.heap.size, 0, none⟩ = some (.slice A1 xs.length c1) ∧ W.cell? ⟨w.heap.size + 1, 0, none⟩ = some (.bool behind) := ⟨Bel.refl _, hk0, hk1⟩
  have hst : Bel W W.drew ∧ W.drew.cell? ⟨w.heap.size, 0, none⟩ = some (.slice A1 xs.length c1) ∧ W.drew.cell? ⟨w.heap.size + 1, 0, none⟩ = some (.bool behind) := ⟨Bel.drew _, hk0, hk1⟩
  go_region_held3 (fun w' => Bel W w' ∧ w'.cell? ⟨w.heap.size, 0, none⟩ = some (.slice A1 xs.length c1) ∧ w'.cell? ⟨w.heap.size + 1, 0, none⟩ = some (.bool behind))
    (first | assumption | exact keep2 (by assumption) (by assumption) | exact keep2 (by assumption) (Bel.alloc _ _))
    (first
      | (go_at_call 16; (refine (wPut_any which 29 #[.pointer (some ⟨w.heap.size + 1, 0, none⟩)] _).mono ?_); rintro e w2 ⟨p1, p2, rfl, hb2, hp1, hp2⟩)
      | (go_at_call 15; (refine (HQ.out _ p1 p2 hp1 hp2 (And.right (And.right (by assumption))) _ (Bel.refl _) (HB.out.trans (And.left (by assumption)))).mono ?_); rintro e w3 ⟨rfl, hb3⟩))
  all_goals
    have HB3 := Lib.hid (HB.out.trans (And.left (by assumption)))
    go_wp2_with fail
    go_ret
    exact ⟨rfl, HB3.out⟩

end Go.Proofs.YtijaoedlhmdpnaaDoor
namespace Go.Proofs.YtijaoedlhmdpnaaDoor
open Go.ChangeShapes Go.WideShapes Go.ChangeAt Go.RowKit
set_option maxRecDepth 100000

theorem topAncestorsUnrolled_lifted (os : Os) (started : os.Started) (H : Type) (enc : TypeId × Value → H) :
    ReturnsInHanded {} Tryd.checked os 9 .any (fun w args => (Rows.topAncestorsUnrolledSpec.pre enc Tryd.prog Tryd.f9 [] false w args ∧ laidMetH Tryd.prog laidL w) ∧ sizedMet enc Tryd.prog Tryd.f9 (OpenSpec.ofChange Rows.topAncestorsUnrolledSpec) false w args)
      (Rows.topAncestorsUnrolledSpec.post enc Tryd.prog Tryd.f9 false true false false) := by
  refine returnsInHanded_of_change_and (C := Tryd.checked) (X := fun w _ => laidMetH Tryd.prog laidL w) (fun _ _ _ hh h => h.of_heap hh) own started (by kernel_rfl) Tryd.func9
    (ChangeSpec.witness_shaped (enc := enc) (C := Tryd.checked) (os := os) (X := fun w _ => laidMetH Tryd.prog laidL w) false (World.doorLaid Tryd.prog 67 os) #[.slice none 0 0, .agg #[.slice none 0 0], .int .i64 0, .bool false] 8 rfl (World.shaped_of_RefB (by kernel_rfl) (by kernel_rfl)) (by kernel_rfl) (by kernel_rfl) (by kernel_rfl) (door_met os _)) ?_
  intro W base args ds gs before hval0 hW _ _ hL _
  have hval : ∀ (j : Nat) t v, Tryd.f9.params[j]? = some t → args[j]? = some v → Value.okWide Tryd.prog W .any base t v := hval0
  have hW' := hW
  obtain ⟨p, q, hA0, hV, rfl, hfz, hnd⟩ := hW
  have hA : DataW.TrodAll enc Tryd.prog W 0 (fun _ => true) true Tryd.f9.params.toList args.toList ds p := hA0
  rw [Tryd.params9] at hA hval
  obtain ⟨v0, vs0, d0, ds0, p0, q0, hargs, rfl, rfl, h0, r0⟩ := trodAll_cons hA
  obtain ⟨v1, vs1, d1, ds1, p1, q1, rfl, rfl, rfl, h1, r1⟩ := trodAll_cons r0
  obtain ⟨v2, vs2, d2, ds2, p2, q2, rfl, rfl, rfl, h2, r2⟩ := trodAll_cons r1
  obtain ⟨v3, vs3, d3, ds3, p3, q3, rfl, rfl, rfl, h3, r3⟩ := trodAll_cons r2
  obtain ⟨rfl, rfl, rfl⟩ := trodAll_nil r3
  obtain rfl : args = #[v0, v1, v2, v3] := by cases args; simp_all
  obtain ⟨rfl, rfl⟩ := trodVars_none hV
  have lt0 : ∀ x ∈ p0, x.block < W.heap.size := by obtain ⟨m, hm⟩ := h0; exact DataW.trod_lt m _ _ _ hm
  have lt1 : ∀ x ∈ p1, x.block < W.heap.size := by obtain ⟨m, hm⟩ := h1; exact DataW.trod_lt m _ _ _ hm
  obtain ⟨cs, A, c, rfl, hc, hC⟩ := commits_opened (hval 0 22 v0 rfl rfl) h0
  obtain ⟨u, xs, rfl, A1, c1, rfl, hc1, hC1⟩ := query_opened (hval 1 25 v1 rfl rfl) h1
  obtain ⟨a2, rfl, rfl, rfl, w2⟩ := open_int Tryd.underlying3 (hval 2 3 v2 rfl rfl) h2
  obtain ⟨a3, rfl, rfl, rfl⟩ := open_bool Tryd.underlying4 (hval 3 4 v3 rfl rfl) h3
  have he := env_of_laid hL
  clear hA0 hval0 hval
  refine (topUnr_any cs A c xs A1 c1 a2 a3 W he hC hc hC1 hc1).mono fun e W' ⟨hee, hb0⟩ => ?_
  have hb := Lib.hid hb0
  subst hee
  exact ⟨_, rfl, _, _, _, [], _, [], hW', trodAll_mk1 (shut_bool Tryd.underlying4 _), (trodAll_cons_mk (Below.trod laidOut (by kernel_rfl) (of_decide_eq_true (by kernel_rfl)) h0 hb.out lt0) (trodAll_cons_mk (Below.trod laidOut (by kernel_rfl) (of_decide_eq_true (by kernel_rfl)) h1 hb.out lt1) (trodAll_cons_mk (shut_int Tryd.underlying3 w2) (trodAll_cons_mk (shut_bool Tryd.underlying4 _) trodAll_mk0)))), rfl, (show Below W.heap.size W W' from hb.out).frame _, fun h => by cases h⟩

theorem topAncestorsUnrolled_row : Rows.TopAncestorsUnrolledSaid :=
  OpenClaim.holds_of_wide 9 Tryd.f9 rfl rfl rfl rfl rfl rfl rfl ⟨rfl, rfl, rfl, rfl, rfl⟩ rfl rfl rfl rfl rfl (by kernel_rfl) Tryd.func9 (by kernel_rfl)
    (of_decide_eq_true (by kernel_rfl)) (by unfold Func.isWrapper; first | (rw [if_pos (by decide +kernel)]; kernel_rfl) | (rw [if_neg (by decide +kernel)]; exact ⟨rfl, rfl⟩))
    (fun os started H enc _ => topAncestorsUnrolled_lifted os started H enc)

theorem topAncestorsUnrolled_holds : Rows.TopAncestorsUnrolledCardSaid :=
  Claim7.holds_tied_plain_at .later [] [.data, .data, .data, .sentinel, .sentinel, .widerDeep] true (true, "a0d9a2353728ea79b086a747090c81b9a0a74b7d21e1d1052255b4b7a5fadd21") true
    topAncestorsUnrolled_row (fun _ h => by cases h) (by kernel_rfl) (fun _ h => by cases h) topAncestorsUnrolled_row_tie rfl ⟨rfl, rfl⟩ (by kernel_rfl) rfl
    (fun f fn hf hfn => by
      obtain rfl : f = 9 := Option.some.inj ((show Tryd.prog.funcNamed "changeforge/changeforgetop.TopAncestorsUnrolled" = some 9 by kernel_rfl).symm.trans hf) |>.symm
      obtain rfl : fn = Tryd.f9 := (Option.some.inj (Tryd.func9.symm.trans hfn)).symm
      exact ⟨by kernel_rfl, fun j t ht => by
        rw [Tryd.params9] at ht
        have hm : t ∈ [22, 25, 3, 4] := by simpa using Array.mem_of_getElem? ht
        have hall : ([22, 25, 3, 4].all fun u => !Tryd.prog.wantsStandIn u) = true := by kernel_rfl
        exact (show Tryd.prog.wantsStandIn t = false by simpa using List.all_eq_true.1 hall t hm)⟩)
    (by kernel_rfl)
#print axioms topAncestorsUnrolled_holds
end Go.Proofs.YtijaoedlhmdpnaaDoor
