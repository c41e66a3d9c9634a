/- The common part of the laws on queries, text 5 of 7: contracts of the functions that they reach, and the plain mathematics. -/
import Derived.Test.YtijaoedlhmdpnaaDoorZ4
set_option linter.unusedVariables false
set_option linter.unusedSimpArgs false
/- Package revopt: unary walked. -/
namespace Go.Proofs.YtijaoedlhmdpnaaDoor
open Go.RowKit Go.Proofs.YtijaoedlhmdpnaaDoor.PTopQueriesKept Go.Proofs.YtijaoedlhmdpnaaDoorW.PrintWords

/-- What unary makes of a kind and an operand. -/
def RT.unary (k : Int) : RT → RT
  | .nil => .node k 0 .nil .nil
  | .node xk xn xl xr =>
    if k = 7 ∧ xk = 2 then .node 1 0 .nil .nil
    else if k = 7 ∧ xk = 1 then .node 2 0 .nil .nil
    else if k = 7 ∧ xk = 7 then xl
    else if (k ≠ 7 ∧ xk = 2) ∨ ((k = 8 ∨ k = 9) ∧ xk = 1) then .node xk xn xl xr
    else if k = xk ∧ k ≠ 10 ∧ k ≠ 11 ∧ k ≠ 7 then .node xk xn xl xr
    else if (k = 8 ∧ xk = 12) ∨ (k = 9 ∧ xk = 13) ∨ (k = 12 ∧ xk = 8) ∨ (k = 13 ∧ xk = 9) then RT.unary k xl
    else .node k 0 (.node xk xn xl xr) .nil

set_option maxRecDepth 100000 in
set_option maxHeartbeats 1000000 in
theorem unary_7_2 (xn : Int) (xl xr : RT) (u : Value) (w : World) (base : Nat) (h : Tr 91 w base (.node 2 xn xl xr) u) (hb : base ≤ w.heap.size) :
    Calls Tryd.prog 65 #[.int .i64 7, u] w (Ret 91 w base (RT.unary 7 (.node 2 xn xl xr))) := by
  have hu : RT.unary 7 (.node 2 xn xl xr) = .node 1 0 .nil .nil := by (simp only [RT.unary]; repeat (first | rw [if_neg (by omega)] | rw [if_pos (by omega)] | rfl))
  rw [hu]
  clear hu
  have H := Lib.hid h
  obtain ⟨b, vl, vr, rfl, hge, hc, hl, hr⟩ := h
  obtain ⟨pl, rfl⟩ := hl.pointer
  obtain ⟨pr, rfl⟩ := hr.pointer
  obtain ⟨⟨c0, c1, c2, c3⟩, _⟩ := blk4 hc
  have HL := Lib.hid hl
  clear hc hl hr
  go_enter Tryd.func65, Tryd.ntmps65
  go_wp2_with fail
  go_quiet (fail)
  go_wp2_with fail
  go_ret
  exact ⟨_, rfl, Tr.new 1 0 hb Tr.nil Tr.nil, (Bel.drewN _ _).thenAlloc _⟩

set_option maxRecDepth 100000 in
set_option maxHeartbeats 1000000 in
theorem unary_7_1 (xn : Int) (xl xr : RT) (u : Value) (w : World) (base : Nat) (h : Tr 91 w base (.node 1 xn xl xr) u) (hb : base ≤ w.heap.size) :
    Calls Tryd.prog 65 #[.int .i64 7, u] w (Ret 91 w base (RT.unary 7 (.node 1 xn xl xr))) := by
  have hu : RT.unary 7 (.node 1 xn xl xr) = .node 2 0 .nil .nil := by (simp only [RT.unary]; repeat (first | rw [if_neg (by omega)] | rw [if_pos (by omega)] | rfl))
  rw [hu]
  clear hu
  have H := Lib.hid h
  obtain ⟨b, vl, vr, rfl, hge, hc, hl, hr⟩ := h
  obtain ⟨pl, rfl⟩ := hl.pointer
  obtain ⟨pr, rfl⟩ := hr.pointer
  obtain ⟨⟨c0, c1, c2, c3⟩, _⟩ := blk4 hc
  have HL := Lib.hid hl
  clear hc hl hr
  go_enter Tryd.func65, Tryd.ntmps65
  go_wp2_with fail
  go_quiet (fail)
  go_wp2_with fail
  go_ret
  exact ⟨_, rfl, Tr.new 2 0 hb Tr.nil Tr.nil, (Bel.drewN _ _).thenAlloc _⟩

set_option maxRecDepth 100000 in
set_option maxHeartbeats 1000000 in
theorem unary_7_7 (xn : Int) (xl xr : RT) (u : Value) (w : World) (base : Nat) (h : Tr 91 w base (.node 7 xn xl xr) u) (hb : base ≤ w.heap.size) :
    Calls Tryd.prog 65 #[.int .i64 7, u] w (Ret 91 w base (RT.unary 7 (.node 7 xn xl xr))) := by
  have hu : RT.unary 7 (.node 7 xn xl xr) = xl := by (simp only [RT.unary]; repeat (first | rw [if_neg (by omega)] | rw [if_pos (by omega)] | rfl))
  rw [hu]
  clear hu
  have H := Lib.hid h
  obtain ⟨b, vl, vr, rfl, hge, hc, hl, hr⟩ := h
  obtain ⟨pl, rfl⟩ := hl.pointer
  obtain ⟨pr, rfl⟩ := hr.pointer
  obtain ⟨⟨c0, c1, c2, c3⟩, _⟩ := blk4 hc
  have HL := Lib.hid hl
  clear hc hl hr
  go_enter Tryd.func65, Tryd.ntmps65
  go_wp2_with fail
  go_quiet (fail)
  go_wp2_with fail
  go_ret
  exact ⟨_, rfl, HL.out.bel (Bel.drewN _ _), Bel.drewN _ _⟩

set_option maxRecDepth 100000 in
set_option maxHeartbeats 1000000 in
theorem unary_7_o (xk : Int) (a2 : (xk == 2) = false) (b2 : ((2 : Int) == xk) = false) (a1 : (xk == 1) = false) (b1 : ((1 : Int) == xk) = false) (a7 : (xk == 7) = false) (b7 : ((7 : Int) == xk) = false) (xn : Int) (xl xr : RT) (u : Value) (w : World) (base : Nat) (h : Tr 91 w base (.node xk xn xl xr) u) (hb : base ≤ w.heap.size) :
    Calls Tryd.prog 65 #[.int .i64 7, u] w (Ret 91 w base (RT.unary 7 (.node xk xn xl xr))) := by
  have hu : RT.unary 7 (.node xk xn xl xr) = .node 7 0 (.node xk xn xl xr) .nil := by (have n2 : ¬ xk = 2 := (fun e => by rw [e] at a2; cases a2); have n1 : ¬ xk = 1 := (fun e => by rw [e] at a1; cases a1); have n7 : ¬ xk = 7 := (fun e => by rw [e] at a7; cases a7); simp only [RT.unary]; repeat (first | rw [if_neg (by omega)] | rfl))
  rw [hu]
  clear hu
  have H := Lib.hid h
  obtain ⟨b, vl, vr, rfl, hge, hc, hl, hr⟩ := h
  obtain ⟨pl, rfl⟩ := hl.pointer
  obtain ⟨pr, rfl⟩ := hr.pointer
  obtain ⟨⟨c0, c1, c2, c3⟩, _⟩ := blk4 hc
  have HL := Lib.hid hl
  clear hc hl hr
  go_enter Tryd.func65, Tryd.ntmps65
  go_wp2_with fail
  go_quiet (fail)
  go_wp2_with fail
  go_ret
  exact ⟨_, rfl, Tr.new 7 0 hb (H.out.bel (Bel.drewN _ _)) Tr.nil, (Bel.drewN _ _).thenAlloc _⟩

set_option maxRecDepth 100000 in
set_option maxHeartbeats 1000000 in
theorem unary_8_2 (xn : Int) (xl xr : RT) (u : Value) (w : World) (base : Nat) (h : Tr 91 w base (.node 2 xn xl xr) u) (hb : base ≤ w.heap.size) :
    Calls Tryd.prog 65 #[.int .i64 8, u] w (Ret 91 w base (RT.unary 8 (.node 2 xn xl xr))) := by
  have hu : RT.unary 8 (.node 2 xn xl xr) = (.node 2 xn xl xr) := by (simp only [RT.unary]; repeat (first | rw [if_neg (by omega)] | rw [if_pos (by omega)] | rfl))
  rw [hu]
  clear hu
  have H := Lib.hid h
  obtain ⟨b, vl, vr, rfl, hge, hc, hl, hr⟩ := h
  obtain ⟨pl, rfl⟩ := hl.pointer
  obtain ⟨pr, rfl⟩ := hr.pointer
  obtain ⟨⟨c0, c1, c2, c3⟩, _⟩ := blk4 hc
  have HL := Lib.hid hl
  clear hc hl hr
  go_enter Tryd.func65, Tryd.ntmps65
  go_wp2_with fail
  go_quiet (fail)
  go_wp2_with fail
  go_ret
  exact ⟨_, rfl, (H.out.bel (Bel.drewN _ _)), Bel.drewN _ _⟩

set_option maxRecDepth 100000 in
set_option maxHeartbeats 1000000 in
theorem unary_8_1 (xn : Int) (xl xr : RT) (u : Value) (w : World) (base : Nat) (h : Tr 91 w base (.node 1 xn xl xr) u) (hb : base ≤ w.heap.size) :
    Calls Tryd.prog 65 #[.int .i64 8, u] w (Ret 91 w base (RT.unary 8 (.node 1 xn xl xr))) := by
  have hu : RT.unary 8 (.node 1 xn xl xr) = (.node 1 xn xl xr) := by (simp only [RT.unary]; repeat (first | rw [if_neg (by omega)] | rw [if_pos (by omega)] | rfl))
  rw [hu]
  clear hu
  have H := Lib.hid h
  obtain ⟨b, vl, vr, rfl, hge, hc, hl, hr⟩ := h
  obtain ⟨pl, rfl⟩ := hl.pointer
  obtain ⟨pr, rfl⟩ := hr.pointer
  obtain ⟨⟨c0, c1, c2, c3⟩, _⟩ := blk4 hc
  have HL := Lib.hid hl
  clear hc hl hr
  go_enter Tryd.func65, Tryd.ntmps65
  go_wp2_with fail
  go_quiet (fail)
  go_wp2_with fail
  go_ret
  exact ⟨_, rfl, (H.out.bel (Bel.drewN _ _)), Bel.drewN _ _⟩

set_option maxRecDepth 100000 in
set_option maxHeartbeats 1000000 in
theorem unary_8_8 (xn : Int) (xl xr : RT) (u : Value) (w : World) (base : Nat) (h : Tr 91 w base (.node 8 xn xl xr) u) (hb : base ≤ w.heap.size) :
    Calls Tryd.prog 65 #[.int .i64 8, u] w (Ret 91 w base (RT.unary 8 (.node 8 xn xl xr))) := by
  have hu : RT.unary 8 (.node 8 xn xl xr) = (.node 8 xn xl xr) := by (simp only [RT.unary]; repeat (first | rw [if_neg (by omega)] | rw [if_pos (by omega)] | rfl))
  rw [hu]
  clear hu
  have H := Lib.hid h
  obtain ⟨b, vl, vr, rfl, hge, hc, hl, hr⟩ := h
  obtain ⟨pl, rfl⟩ := hl.pointer
  obtain ⟨pr, rfl⟩ := hr.pointer
  obtain ⟨⟨c0, c1, c2, c3⟩, _⟩ := blk4 hc
  have HL := Lib.hid hl
  clear hc hl hr
  go_enter Tryd.func65, Tryd.ntmps65
  go_wp2_with fail
  go_quiet (fail)
  go_wp2_with fail
  go_ret
  exact ⟨_, rfl, (H.out.bel (Bel.drewN _ _)), Bel.drewN _ _⟩

set_option maxRecDepth 100000 in
set_option maxHeartbeats 1000000 in
theorem unary_8_12 (xn : Int) (xl xr : RT) (u : Value) (w : World) (base : Nat) (h : Tr 91 w base (.node 12 xn xl xr) u) (hb : base ≤ w.heap.size) (ih : ∀ (u : Value) (w : World) (base : Nat), Tr 91 w base xl u → base ≤ w.heap.size → Calls Tryd.prog 65 #[.int .i64 8, u] w (Ret 91 w base (RT.unary 8 xl))) :
    Calls Tryd.prog 65 #[.int .i64 8, u] w (Ret 91 w base (RT.unary 8 (.node 12 xn xl xr))) := by
  have hu : RT.unary 8 (.node 12 xn xl xr) = RT.unary 8 xl := by (simp only [RT.unary]; repeat (first | rw [if_neg (by omega)] | rw [if_pos (by omega)] | rfl))
  rw [hu]
  clear hu
  have H := Lib.hid h
  obtain ⟨b, vl, vr, rfl, hge, hc, hl, hr⟩ := h
  obtain ⟨pl, rfl⟩ := hl.pointer
  obtain ⟨pr, rfl⟩ := hr.pointer
  obtain ⟨⟨c0, c1, c2, c3⟩, _⟩ := blk4 hc
  have HL := Lib.hid hl
  clear hc hl hr
  go_enter Tryd.func65, Tryd.ntmps65
  go_wp2_with fail
  go_quiet (fail)
  go_wp2_with (go_at_call 65; go_must (refine (ih _ _ base (HL.out.bel (Bel.drewN _ _)) hb).mono ?_); rintro e w1 ⟨p1, rfl, ht1, hb1⟩)
  go_ret
  exact ⟨_, rfl, ht1, (Bel.drewN _ _).trans hb1⟩

set_option maxRecDepth 100000 in
set_option maxHeartbeats 1000000 in
theorem unary_8_o (xk : Int) (a2 : (xk == 2) = false) (b2 : ((2 : Int) == xk) = false) (a1 : (xk == 1) = false) (b1 : ((1 : Int) == xk) = false) (a8 : (xk == 8) = false) (b8 : ((8 : Int) == xk) = false) (a12 : (xk == 12) = false) (b12 : ((12 : Int) == xk) = false) (xn : Int) (xl xr : RT) (u : Value) (w : World) (base : Nat) (h : Tr 91 w base (.node xk xn xl xr) u) (hb : base ≤ w.heap.size) :
    Calls Tryd.prog 65 #[.int .i64 8, u] w (Ret 91 w base (RT.unary 8 (.node xk xn xl xr))) := by
  have hu : RT.unary 8 (.node xk xn xl xr) = .node 8 0 (.node xk xn xl xr) .nil := by (have n2 : ¬ xk = 2 := (fun e => by rw [e] at a2; cases a2); have n1 : ¬ xk = 1 := (fun e => by rw [e] at a1; cases a1); have n8 : ¬ xk = 8 := (fun e => by rw [e] at a8; cases a8); have n12 : ¬ xk = 12 := (fun e => by rw [e] at a12; cases a12); simp only [RT.unary]; repeat (first | rw [if_neg (by omega)] | rfl))
  rw [hu]
  clear hu
  have H := Lib.hid h
  obtain ⟨b, vl, vr, rfl, hge, hc, hl, hr⟩ := h
  obtain ⟨pl, rfl⟩ := hl.pointer
  obtain ⟨pr, rfl⟩ := hr.pointer
  obtain ⟨⟨c0, c1, c2, c3⟩, _⟩ := blk4 hc
  have HL := Lib.hid hl
  clear hc hl hr
  go_enter Tryd.func65, Tryd.ntmps65
  go_wp2_with fail
  go_quiet (fail)
  go_wp2_with fail
  go_ret
  exact ⟨_, rfl, Tr.new 8 0 hb (H.out.bel (Bel.drewN _ _)) Tr.nil, (Bel.drewN _ _).thenAlloc _⟩

set_option maxRecDepth 100000 in
set_option maxHeartbeats 1000000 in
theorem unary_9_2 (xn : Int) (xl xr : RT) (u : Value) (w : World) (base : Nat) (h : Tr 91 w base (.node 2 xn xl xr) u) (hb : base ≤ w.heap.size) :
    Calls Tryd.prog 65 #[.int .i64 9, u] w (Ret 91 w base (RT.unary 9 (.node 2 xn xl xr))) := by
  have hu : RT.unary 9 (.node 2 xn xl xr) = (.node 2 xn xl xr) := by (simp only [RT.unary]; repeat (first | rw [if_neg (by omega)] | rw [if_pos (by omega)] | rfl))
  rw [hu]
  clear hu
  have H := Lib.hid h
  obtain ⟨b, vl, vr, rfl, hge, hc, hl, hr⟩ := h
  obtain ⟨pl, rfl⟩ := hl.pointer
  obtain ⟨pr, rfl⟩ := hr.pointer
  obtain ⟨⟨c0, c1, c2, c3⟩, _⟩ := blk4 hc
  have HL := Lib.hid hl
  clear hc hl hr
  go_enter Tryd.func65, Tryd.ntmps65
  go_wp2_with fail
  go_quiet (fail)
  go_wp2_with fail
  go_ret
  exact ⟨_, rfl, (H.out.bel (Bel.drewN _ _)), Bel.drewN _ _⟩

set_option maxRecDepth 100000 in
set_option maxHeartbeats 1000000 in
theorem unary_9_1 (xn : Int) (xl xr : RT) (u : Value) (w : World) (base : Nat) (h : Tr 91 w base (.node 1 xn xl xr) u) (hb : base ≤ w.heap.size) :
    Calls Tryd.prog 65 #[.int .i64 9, u] w (Ret 91 w base (RT.unary 9 (.node 1 xn xl xr))) := by
  have hu : RT.unary 9 (.node 1 xn xl xr) = (.node 1 xn xl xr) := by (simp only [RT.unary]; repeat (first | rw [if_neg (by omega)] | rw [if_pos (by omega)] | rfl))
  rw [hu]
  clear hu
  have H := Lib.hid h
  obtain ⟨b, vl, vr, rfl, hge, hc, hl, hr⟩ := h
  obtain ⟨pl, rfl⟩ := hl.pointer
  obtain ⟨pr, rfl⟩ := hr.pointer
  obtain ⟨⟨c0, c1, c2, c3⟩, _⟩ := blk4 hc
  have HL := Lib.hid hl
  clear hc hl hr
  go_enter Tryd.func65, Tryd.ntmps65
  go_wp2_with fail
  go_quiet (fail)
  go_wp2_with fail
  go_ret
  exact ⟨_, rfl, (H.out.bel (Bel.drewN _ _)), Bel.drewN _ _⟩

set_option maxRecDepth 100000 in
set_option maxHeartbeats 1000000 in
theorem unary_9_9 (xn : Int) (xl xr : RT) (u : Value) (w : World) (base : Nat) (h : Tr 91 w base (.node 9 xn xl xr) u) (hb : base ≤ w.heap.size) :
    Calls Tryd.prog 65 #[.int .i64 9, u] w (Ret 91 w base (RT.unary 9 (.node 9 xn xl xr))) := by
  have hu : RT.unary 9 (.node 9 xn xl xr) = (.node 9 xn xl xr) := by (simp only [RT.unary]; repeat (first | rw [if_neg (by omega)] | rw [if_pos (by omega)] | rfl))
  rw [hu]
  clear hu
  have H := Lib.hid h
  obtain ⟨b, vl, vr, rfl, hge, hc, hl, hr⟩ := h
  obtain ⟨pl, rfl⟩ := hl.pointer
  obtain ⟨pr, rfl⟩ := hr.pointer
  obtain ⟨⟨c0, c1, c2, c3⟩, _⟩ := blk4 hc
  have HL := Lib.hid hl
  clear hc hl hr
  go_enter Tryd.func65, Tryd.ntmps65
  go_wp2_with fail
  go_quiet (fail)
  go_wp2_with fail
  go_ret
  exact ⟨_, rfl, (H.out.bel (Bel.drewN _ _)), Bel.drewN _ _⟩

set_option maxRecDepth 100000 in
set_option maxHeartbeats 1000000 in
theorem unary_9_13 (xn : Int) (xl xr : RT) (u : Value) (w : World) (base : Nat) (h : Tr 91 w base (.node 13 xn xl xr) u) (hb : base ≤ w.heap.size) (ih : ∀ (u : Value) (w : World) (base : Nat), Tr 91 w base xl u → base ≤ w.heap.size → Calls Tryd.prog 65 #[.int .i64 9, u] w (Ret 91 w base (RT.unary 9 xl))) :
    Calls Tryd.prog 65 #[.int .i64 9, u] w (Ret 91 w base (RT.unary 9 (.node 13 xn xl xr))) := by
  have hu : RT.unary 9 (.node 13 xn xl xr) = RT.unary 9 xl := by (simp only [RT.unary]; repeat (first | rw [if_neg (by omega)] | rw [if_pos (by omega)] | rfl))
  rw [hu]
  clear hu
  have H := Lib.hid h
  obtain ⟨b, vl, vr, rfl, hge, hc, hl, hr⟩ := h
  obtain ⟨pl, rfl⟩ := hl.pointer
  obtain ⟨pr, rfl⟩ := hr.pointer
  obtain ⟨⟨c0, c1, c2, c3⟩, _⟩ := blk4 hc
  have HL := Lib.hid hl
  clear hc hl hr
  go_enter Tryd.func65, Tryd.ntmps65
  go_wp2_with fail
  go_quiet (fail)
  go_wp2_with (go_at_call 65; go_must (refine (ih _ _ base (HL.out.bel (Bel.drewN _ _)) hb).mono ?_); rintro e w1 ⟨p1, rfl, ht1, hb1⟩)
  go_ret
  exact ⟨_, rfl, ht1, (Bel.drewN _ _).trans hb1⟩

set_option maxRecDepth 100000 in
set_option maxHeartbeats 1000000 in
theorem unary_9_o (xk : Int) (a2 : (xk == 2) = false) (b2 : ((2 : Int) == xk) = false) (a1 : (xk == 1) = false) (b1 : ((1 : Int) == xk) = false) (a9 : (xk == 9) = false) (b9 : ((9 : Int) == xk) = false) (a13 : (xk == 13) = false) (b13 : ((13 : Int) == xk) = false) (xn : Int) (xl xr : RT) (u : Value) (w : World) (base : Nat) (h : Tr 91 w base (.node xk xn xl xr) u) (hb : base ≤ w.heap.size) :
    Calls Tryd.prog 65 #[.int .i64 9, u] w (Ret 91 w base (RT.unary 9 (.node xk xn xl xr))) := by
  have hu : RT.unary 9 (.node xk xn xl xr) = .node 9 0 (.node xk xn xl xr) .nil := by (have n2 : ¬ xk = 2 := (fun e => by rw [e] at a2; cases a2); have n1 : ¬ xk = 1 := (fun e => by rw [e] at a1; cases a1); have n9 : ¬ xk = 9 := (fun e => by rw [e] at a9; cases a9); have n13 : ¬ xk = 13 := (fun e => by rw [e] at a13; cases a13); simp only [RT.unary]; repeat (first | rw [if_neg (by omega)] | rfl))
  rw [hu]
  clear hu
  have H := Lib.hid h
  obtain ⟨b, vl, vr, rfl, hge, hc, hl, hr⟩ := h
  obtain ⟨pl, rfl⟩ := hl.pointer
  obtain ⟨pr, rfl⟩ := hr.pointer
  obtain ⟨⟨c0, c1, c2, c3⟩, _⟩ := blk4 hc
  have HL := Lib.hid hl
  clear hc hl hr
  go_enter Tryd.func65, Tryd.ntmps65
  go_wp2_with fail
  go_quiet (fail)
  go_wp2_with fail
  go_ret
  exact ⟨_, rfl, Tr.new 9 0 hb (H.out.bel (Bel.drewN _ _)) Tr.nil, (Bel.drewN _ _).thenAlloc _⟩

set_option maxRecDepth 100000 in
set_option maxHeartbeats 1000000 in
theorem unary_10_2 (xn : Int) (xl xr : RT) (u : Value) (w : World) (base : Nat) (h : Tr 91 w base (.node 2 xn xl xr) u) (hb : base ≤ w.heap.size) :
    Calls Tryd.prog 65 #[.int .i64 10, u] w (Ret 91 w base (RT.unary 10 (.node 2 xn xl xr))) := by
  have hu : RT.unary 10 (.node 2 xn xl xr) = (.node 2 xn xl xr) := by (simp only [RT.unary]; repeat (first | rw [if_neg (by omega)] | rw [if_pos (by omega)] | rfl))
  rw [hu]
  clear hu
  have H := Lib.hid h
  obtain ⟨b, vl, vr, rfl, hge, hc, hl, hr⟩ := h
  obtain ⟨pl, rfl⟩ := hl.pointer
  obtain ⟨pr, rfl⟩ := hr.pointer
  obtain ⟨⟨c0, c1, c2, c3⟩, _⟩ := blk4 hc
  have HL := Lib.hid hl
  clear hc hl hr
  go_enter Tryd.func65, Tryd.ntmps65
  go_wp2_with fail
  go_quiet (fail)
  go_wp2_with fail
  go_ret
  exact ⟨_, rfl, (H.out.bel (Bel.drewN _ _)), Bel.drewN _ _⟩

set_option maxRecDepth 100000 in
set_option maxHeartbeats 1000000 in
theorem unary_10_1 (xn : Int) (xl xr : RT) (u : Value) (w : World) (base : Nat) (h : Tr 91 w base (.node 1 xn xl xr) u) (hb : base ≤ w.heap.size) :
    Calls Tryd.prog 65 #[.int .i64 10, u] w (Ret 91 w base (RT.unary 10 (.node 1 xn xl xr))) := by
  have hu : RT.unary 10 (.node 1 xn xl xr) = .node 10 0 (.node 1 xn xl xr) .nil := by (simp only [RT.unary]; repeat (first | rw [if_neg (by omega)] | rw [if_pos (by omega)] | rfl))
  rw [hu]
  clear hu
  have H := Lib.hid h
  obtain ⟨b, vl, vr, rfl, hge, hc, hl, hr⟩ := h
  obtain ⟨pl, rfl⟩ := hl.pointer
  obtain ⟨pr, rfl⟩ := hr.pointer
  obtain ⟨⟨c0, c1, c2, c3⟩, _⟩ := blk4 hc
  have HL := Lib.hid hl
  clear hc hl hr
  go_enter Tryd.func65, Tryd.ntmps65
  go_wp2_with fail
  go_quiet (fail)
  go_wp2_with fail
  go_ret
  exact ⟨_, rfl, Tr.new 10 0 hb (H.out.bel (Bel.drewN _ _)) Tr.nil, (Bel.drewN _ _).thenAlloc _⟩

set_option maxRecDepth 100000 in
set_option maxHeartbeats 1000000 in
theorem unary_10_10 (xn : Int) (xl xr : RT) (u : Value) (w : World) (base : Nat) (h : Tr 91 w base (.node 10 xn xl xr) u) (hb : base ≤ w.heap.size) :
    Calls Tryd.prog 65 #[.int .i64 10, u] w (Ret 91 w base (RT.unary 10 (.node 10 xn xl xr))) := by
  have hu : RT.unary 10 (.node 10 xn xl xr) = .node 10 0 (.node 10 xn xl xr) .nil := by (simp only [RT.unary]; repeat (first | rw [if_neg (by omega)] | rw [if_pos (by omega)] | rfl))
  rw [hu]
  clear hu
  have H := Lib.hid h
  obtain ⟨b, vl, vr, rfl, hge, hc, hl, hr⟩ := h
  obtain ⟨pl, rfl⟩ := hl.pointer
  obtain ⟨pr, rfl⟩ := hr.pointer
  obtain ⟨⟨c0, c1, c2, c3⟩, _⟩ := blk4 hc
  have HL := Lib.hid hl
  clear hc hl hr
  go_enter Tryd.func65, Tryd.ntmps65
  go_wp2_with fail
  go_quiet (fail)
  go_wp2_with fail
  go_ret
  exact ⟨_, rfl, Tr.new 10 0 hb (H.out.bel (Bel.drewN _ _)) Tr.nil, (Bel.drewN _ _).thenAlloc _⟩

set_option maxRecDepth 100000 in
set_option maxHeartbeats 1000000 in
theorem unary_10_o (xk : Int) (a2 : (xk == 2) = false) (b2 : ((2 : Int) == xk) = false) (a1 : (xk == 1) = false) (b1 : ((1 : Int) == xk) = false) (a10 : (xk == 10) = false) (b10 : ((10 : Int) == xk) = false) (xn : Int) (xl xr : RT) (u : Value) (w : World) (base : Nat) (h : Tr 91 w base (.node xk xn xl xr) u) (hb : base ≤ w.heap.size) :
    Calls Tryd.prog 65 #[.int .i64 10, u] w (Ret 91 w base (RT.unary 10 (.node xk xn xl xr))) := by
  have hu : RT.unary 10 (.node xk xn xl xr) = .node 10 0 (.node xk xn xl xr) .nil := by (have n2 : ¬ xk = 2 := (fun e => by rw [e] at a2; cases a2); have n1 : ¬ xk = 1 := (fun e => by rw [e] at a1; cases a1); have n10 : ¬ xk = 10 := (fun e => by rw [e] at a10; cases a10); simp only [RT.unary]; repeat (first | rw [if_neg (by omega)] | rfl))
  rw [hu]
  clear hu
  have H := Lib.hid h
  obtain ⟨b, vl, vr, rfl, hge, hc, hl, hr⟩ := h
  obtain ⟨pl, rfl⟩ := hl.pointer
  obtain ⟨pr, rfl⟩ := hr.pointer
  obtain ⟨⟨c0, c1, c2, c3⟩, _⟩ := blk4 hc
  have HL := Lib.hid hl
  clear hc hl hr
  go_enter Tryd.func65, Tryd.ntmps65
  go_wp2_with fail
  go_quiet (fail)
  go_wp2_with fail
  go_ret
  exact ⟨_, rfl, Tr.new 10 0 hb (H.out.bel (Bel.drewN _ _)) Tr.nil, (Bel.drewN _ _).thenAlloc _⟩

set_option maxRecDepth 100000 in
set_option maxHeartbeats 1000000 in
theorem unary_11_2 (xn : Int) (xl xr : RT) (u : Value) (w : World) (base : Nat) (h : Tr 91 w base (.node 2 xn xl xr) u) (hb : base ≤ w.heap.size) :
    Calls Tryd.prog 65 #[.int .i64 11, u] w (Ret 91 w base (RT.unary 11 (.node 2 xn xl xr))) := by
  have hu : RT.unary 11 (.node 2 xn xl xr) = (.node 2 xn xl xr) := by (simp only [RT.unary]; repeat (first | rw [if_neg (by omega)] | rw [if_pos (by omega)] | rfl))
  rw [hu]
  clear hu
  have H := Lib.hid h
  obtain ⟨b, vl, vr, rfl, hge, hc, hl, hr⟩ := h
  obtain ⟨pl, rfl⟩ := hl.pointer
  obtain ⟨pr, rfl⟩ := hr.pointer
  obtain ⟨⟨c0, c1, c2, c3⟩, _⟩ := blk4 hc
  have HL := Lib.hid hl
  clear hc hl hr
  go_enter Tryd.func65, Tryd.ntmps65
  go_wp2_with fail
  go_quiet (fail)
  go_wp2_with fail
  go_ret
  exact ⟨_, rfl, (H.out.bel (Bel.drewN _ _)), Bel.drewN _ _⟩

set_option maxRecDepth 100000 in
set_option maxHeartbeats 1000000 in
theorem unary_11_1 (xn : Int) (xl xr : RT) (u : Value) (w : World) (base : Nat) (h : Tr 91 w base (.node 1 xn xl xr) u) (hb : base ≤ w.heap.size) :
    Calls Tryd.prog 65 #[.int .i64 11, u] w (Ret 91 w base (RT.unary 11 (.node 1 xn xl xr))) := by
  have hu : RT.unary 11 (.node 1 xn xl xr) = .node 11 0 (.node 1 xn xl xr) .nil := by (simp only [RT.unary]; repeat (first | rw [if_neg (by omega)] | rw [if_pos (by omega)] | rfl))
  rw [hu]
  clear hu
  have H := Lib.hid h
  obtain ⟨b, vl, vr, rfl, hge, hc, hl, hr⟩ := h
  obtain ⟨pl, rfl⟩ := hl.pointer
  obtain ⟨pr, rfl⟩ := hr.pointer
  obtain ⟨⟨c0, c1, c2, c3⟩, _⟩ := blk4 hc
  have HL := Lib.hid hl
  clear hc hl hr
  go_enter Tryd.func65, Tryd.ntmps65
  go_wp2_with fail
  go_quiet (fail)
  go_wp2_with fail
  go_ret
  exact ⟨_, rfl, Tr.new 11 0 hb (H.out.bel (Bel.drewN _ _)) Tr.nil, (Bel.drewN _ _).thenAlloc _⟩

set_option maxRecDepth 100000 in
set_option maxHeartbeats 1000000 in
theorem unary_11_11 (xn : Int) (xl xr : RT) (u : Value) (w : World) (base : Nat) (h : Tr 91 w base (.node 11 xn xl xr) u) (hb : base ≤ w.heap.size) :
    Calls Tryd.prog 65 #[.int .i64 11, u] w (Ret 91 w base (RT.unary 11 (.node 11 xn xl xr))) := by
  have hu : RT.unary 11 (.node 11 xn xl xr) = .node 11 0 (.node 11 xn xl xr) .nil := by (simp only [RT.unary]; repeat (first | rw [if_neg (by omega)] | rw [if_pos (by omega)] | rfl))
  rw [hu]
  clear hu
  have H := Lib.hid h
  obtain ⟨b, vl, vr, rfl, hge, hc, hl, hr⟩ := h
  obtain ⟨pl, rfl⟩ := hl.pointer
  obtain ⟨pr, rfl⟩ := hr.pointer
  obtain ⟨⟨c0, c1, c2, c3⟩, _⟩ := blk4 hc
  have HL := Lib.hid hl
  clear hc hl hr
  go_enter Tryd.func65, Tryd.ntmps65
  go_wp2_with fail
  go_quiet (fail)
  go_wp2_with fail
  go_ret
  exact ⟨_, rfl, Tr.new 11 0 hb (H.out.bel (Bel.drewN _ _)) Tr.nil, (Bel.drewN _ _).thenAlloc _⟩

set_option maxRecDepth 100000 in
set_option maxHeartbeats 1000000 in
theorem unary_11_o (xk : Int) (a2 : (xk == 2) = false) (b2 : ((2 : Int) == xk) = false) (a1 : (xk == 1) = false) (b1 : ((1 : Int) == xk) = false) (a11 : (xk == 11) = false) (b11 : ((11 : Int) == xk) = false) (xn : Int) (xl xr : RT) (u : Value) (w : World) (base : Nat) (h : Tr 91 w base (.node xk xn xl xr) u) (hb : base ≤ w.heap.size) :
    Calls Tryd.prog 65 #[.int .i64 11, u] w (Ret 91 w base (RT.unary 11 (.node xk xn xl xr))) := by
  have hu : RT.unary 11 (.node xk xn xl xr) = .node 11 0 (.node xk xn xl xr) .nil := by (have n2 : ¬ xk = 2 := (fun e => by rw [e] at a2; cases a2); have n1 : ¬ xk = 1 := (fun e => by rw [e] at a1; cases a1); have n11 : ¬ xk = 11 := (fun e => by rw [e] at a11; cases a11); simp only [RT.unary]; repeat (first | rw [if_neg (by omega)] | rfl))
  rw [hu]
  clear hu
  have H := Lib.hid h
  obtain ⟨b, vl, vr, rfl, hge, hc, hl, hr⟩ := h
  obtain ⟨pl, rfl⟩ := hl.pointer
  obtain ⟨pr, rfl⟩ := hr.pointer
  obtain ⟨⟨c0, c1, c2, c3⟩, _⟩ := blk4 hc
  have HL := Lib.hid hl
  clear hc hl hr
  go_enter Tryd.func65, Tryd.ntmps65
  go_wp2_with fail
  go_quiet (fail)
  go_wp2_with fail
  go_ret
  exact ⟨_, rfl, Tr.new 11 0 hb (H.out.bel (Bel.drewN _ _)) Tr.nil, (Bel.drewN _ _).thenAlloc _⟩

set_option maxRecDepth 100000 in
set_option maxHeartbeats 1000000 in
theorem unary_12_2 (xn : Int) (xl xr : RT) (u : Value) (w : World) (base : Nat) (h : Tr 91 w base (.node 2 xn xl xr) u) (hb : base ≤ w.heap.size) :
    Calls Tryd.prog 65 #[.int .i64 12, u] w (Ret 91 w base (RT.unary 12 (.node 2 xn xl xr))) := by
  have hu : RT.unary 12 (.node 2 xn xl xr) = (.node 2 xn xl xr) := by (simp only [RT.unary]; repeat (first | rw [if_neg (by omega)] | rw [if_pos (by omega)] | rfl))
  rw [hu]
  clear hu
  have H := Lib.hid h
  obtain ⟨b, vl, vr, rfl, hge, hc, hl, hr⟩ := h
  obtain ⟨pl, rfl⟩ := hl.pointer
  obtain ⟨pr, rfl⟩ := hr.pointer
  obtain ⟨⟨c0, c1, c2, c3⟩, _⟩ := blk4 hc
  have HL := Lib.hid hl
  clear hc hl hr
  go_enter Tryd.func65, Tryd.ntmps65
  go_wp2_with fail
  go_quiet (fail)
  go_wp2_with fail
  go_ret
  exact ⟨_, rfl, (H.out.bel (Bel.drewN _ _)), Bel.drewN _ _⟩

set_option maxRecDepth 100000 in
set_option maxHeartbeats 1000000 in
theorem unary_12_1 (xn : Int) (xl xr : RT) (u : Value) (w : World) (base : Nat) (h : Tr 91 w base (.node 1 xn xl xr) u) (hb : base ≤ w.heap.size) :
    Calls Tryd.prog 65 #[.int .i64 12, u] w (Ret 91 w base (RT.unary 12 (.node 1 xn xl xr))) := by
  have hu : RT.unary 12 (.node 1 xn xl xr) = .node 12 0 (.node 1 xn xl xr) .nil := by (simp only [RT.unary]; repeat (first | rw [if_neg (by omega)] | rw [if_pos (by omega)] | rfl))
  rw [hu]
  clear hu
  have H := Lib.hid h
  obtain ⟨b, vl, vr, rfl, hge, hc, hl, hr⟩ := h
  obtain ⟨pl, rfl⟩ := hl.pointer
  obtain ⟨pr, rfl⟩ := hr.pointer
  obtain ⟨⟨c0, c1, c2, c3⟩, _⟩ := blk4 hc
  have HL := Lib.hid hl
  clear hc hl hr
  go_enter Tryd.func65, Tryd.ntmps65
  go_wp2_with fail
  go_quiet (fail)
  go_wp2_with fail
  go_ret
  exact ⟨_, rfl, Tr.new 12 0 hb (H.out.bel (Bel.drewN _ _)) Tr.nil, (Bel.drewN _ _).thenAlloc _⟩

set_option maxRecDepth 100000 in
set_option maxHeartbeats 1000000 in
theorem unary_12_12 (xn : Int) (xl xr : RT) (u : Value) (w : World) (base : Nat) (h : Tr 91 w base (.node 12 xn xl xr) u) (hb : base ≤ w.heap.size) :
    Calls Tryd.prog 65 #[.int .i64 12, u] w (Ret 91 w base (RT.unary 12 (.node 12 xn xl xr))) := by
  have hu : RT.unary 12 (.node 12 xn xl xr) = (.node 12 xn xl xr) := by (simp only [RT.unary]; repeat (first | rw [if_neg (by omega)] | rw [if_pos (by omega)] | rfl))
  rw [hu]
  clear hu
  have H := Lib.hid h
  obtain ⟨b, vl, vr, rfl, hge, hc, hl, hr⟩ := h
  obtain ⟨pl, rfl⟩ := hl.pointer
  obtain ⟨pr, rfl⟩ := hr.pointer
  obtain ⟨⟨c0, c1, c2, c3⟩, _⟩ := blk4 hc
  have HL := Lib.hid hl
  clear hc hl hr
  go_enter Tryd.func65, Tryd.ntmps65
  go_wp2_with fail
  go_quiet (fail)
  go_wp2_with fail
  go_ret
  exact ⟨_, rfl, (H.out.bel (Bel.drewN _ _)), Bel.drewN _ _⟩

set_option maxRecDepth 100000 in
set_option maxHeartbeats 1000000 in
theorem unary_12_8 (xn : Int) (xl xr : RT) (u : Value) (w : World) (base : Nat) (h : Tr 91 w base (.node 8 xn xl xr) u) (hb : base ≤ w.heap.size) (ih : ∀ (u : Value) (w : World) (base : Nat), Tr 91 w base xl u → base ≤ w.heap.size → Calls Tryd.prog 65 #[.int .i64 12, u] w (Ret 91 w base (RT.unary 12 xl))) :
    Calls Tryd.prog 65 #[.int .i64 12, u] w (Ret 91 w base (RT.unary 12 (.node 8 xn xl xr))) := by
  have hu : RT.unary 12 (.node 8 xn xl xr) = RT.unary 12 xl := by (simp only [RT.unary]; repeat (first | rw [if_neg (by omega)] | rw [if_pos (by omega)] | rfl))
  rw [hu]
  clear hu
  have H := Lib.hid h
  obtain ⟨b, vl, vr, rfl, hge, hc, hl, hr⟩ := h
  obtain ⟨pl, rfl⟩ := hl.pointer
  obtain ⟨pr, rfl⟩ := hr.pointer
  obtain ⟨⟨c0, c1, c2, c3⟩, _⟩ := blk4 hc
  have HL := Lib.hid hl
  clear hc hl hr
  go_enter Tryd.func65, Tryd.ntmps65
  go_wp2_with fail
  go_quiet (fail)
  go_wp2_with (go_at_call 65; go_must (refine (ih _ _ base (HL.out.bel (Bel.drewN _ _)) hb).mono ?_); rintro e w1 ⟨p1, rfl, ht1, hb1⟩)
  go_ret
  exact ⟨_, rfl, ht1, (Bel.drewN _ _).trans hb1⟩

set_option maxRecDepth 100000 in
set_option maxHeartbeats 1000000 in
theorem unary_12_o (xk : Int) (a2 : (xk == 2) = false) (b2 : ((2 : Int) == xk) = false) (a1 : (xk == 1) = false) (b1 : ((1 : Int) == xk) = false) (a12 : (xk == 12) = false) (b12 : ((12 : Int) == xk) = false) (a8 : (xk == 8) = false) (b8 : ((8 : Int) == xk) = false) (xn : Int) (xl xr : RT) (u : Value) (w : World) (base : Nat) (h : Tr 91 w base (.node xk xn xl xr) u) (hb : base ≤ w.heap.size) :
    Calls Tryd.prog 65 #[.int .i64 12, u] w (Ret 91 w base (RT.unary 12 (.node xk xn xl xr))) := by
  have hu : RT.unary 12 (.node xk xn xl xr) = .node 12 0 (.node xk xn xl xr) .nil := by (have n2 : ¬ xk = 2 := (fun e => by rw [e] at a2; cases a2); have n1 : ¬ xk = 1 := (fun e => by rw [e] at a1; cases a1); have n12 : ¬ xk = 12 := (fun e => by rw [e] at a12; cases a12); have n8 : ¬ xk = 8 := (fun e => by rw [e] at a8; cases a8); simp only [RT.unary]; repeat (first | rw [if_neg (by omega)] | rfl))
  rw [hu]
  clear hu
  have H := Lib.hid h
  obtain ⟨b, vl, vr, rfl, hge, hc, hl, hr⟩ := h
  obtain ⟨pl, rfl⟩ := hl.pointer
  obtain ⟨pr, rfl⟩ := hr.pointer
  obtain ⟨⟨c0, c1, c2, c3⟩, _⟩ := blk4 hc
  have HL := Lib.hid hl
  clear hc hl hr
  go_enter Tryd.func65, Tryd.ntmps65
  go_wp2_with fail
  go_quiet (fail)
  go_wp2_with fail
  go_ret
  exact ⟨_, rfl, Tr.new 12 0 hb (H.out.bel (Bel.drewN _ _)) Tr.nil, (Bel.drewN _ _).thenAlloc _⟩

set_option maxRecDepth 100000 in
set_option maxHeartbeats 1000000 in
theorem unary_13_2 (xn : Int) (xl xr : RT) (u : Value) (w : World) (base : Nat) (h : Tr 91 w base (.node 2 xn xl xr) u) (hb : base ≤ w.heap.size) :
    Calls Tryd.prog 65 #[.int .i64 13, u] w (Ret 91 w base (RT.unary 13 (.node 2 xn xl xr))) := by
  have hu : RT.unary 13 (.node 2 xn xl xr) = (.node 2 xn xl xr) := by (simp only [RT.unary]; repeat (first | rw [if_neg (by omega)] | rw [if_pos (by omega)] | rfl))
  rw [hu]
  clear hu
  have H := Lib.hid h
  obtain ⟨b, vl, vr, rfl, hge, hc, hl, hr⟩ := h
  obtain ⟨pl, rfl⟩ := hl.pointer
  obtain ⟨pr, rfl⟩ := hr.pointer
  obtain ⟨⟨c0, c1, c2, c3⟩, _⟩ := blk4 hc
  have HL := Lib.hid hl
  clear hc hl hr
  go_enter Tryd.func65, Tryd.ntmps65
  go_wp2_with fail
  go_quiet (fail)
  go_wp2_with fail
  go_ret
  exact ⟨_, rfl, (H.out.bel (Bel.drewN _ _)), Bel.drewN _ _⟩

set_option maxRecDepth 100000 in
set_option maxHeartbeats 1000000 in
theorem unary_13_1 (xn : Int) (xl xr : RT) (u : Value) (w : World) (base : Nat) (h : Tr 91 w base (.node 1 xn xl xr) u) (hb : base ≤ w.heap.size) :
    Calls Tryd.prog 65 #[.int .i64 13, u] w (Ret 91 w base (RT.unary 13 (.node 1 xn xl xr))) := by
  have hu : RT.unary 13 (.node 1 xn xl xr) = .node 13 0 (.node 1 xn xl xr) .nil := by (simp only [RT.unary]; repeat (first | rw [if_neg (by omega)] | rw [if_pos (by omega)] | rfl))
  rw [hu]
  clear hu
  have H := Lib.hid h
  obtain ⟨b, vl, vr, rfl, hge, hc, hl, hr⟩ := h
  obtain ⟨pl, rfl⟩ := hl.pointer
  obtain ⟨pr, rfl⟩ := hr.pointer
  obtain ⟨⟨c0, c1, c2, c3⟩, _⟩ := blk4 hc
  have HL := Lib.hid hl
  clear hc hl hr
  go_enter Tryd.func65, Tryd.ntmps65
  go_wp2_with fail
  go_quiet (fail)
  go_wp2_with fail
  go_ret
  exact ⟨_, rfl, Tr.new 13 0 hb (H.out.bel (Bel.drewN _ _)) Tr.nil, (Bel.drewN _ _).thenAlloc _⟩

set_option maxRecDepth 100000 in
set_option maxHeartbeats 1000000 in
theorem unary_13_13 (xn : Int) (xl xr : RT) (u : Value) (w : World) (base : Nat) (h : Tr 91 w base (.node 13 xn xl xr) u) (hb : base ≤ w.heap.size) :
    Calls Tryd.prog 65 #[.int .i64 13, u] w (Ret 91 w base (RT.unary 13 (.node 13 xn xl xr))) := by
  have hu : RT.unary 13 (.node 13 xn xl xr) = (.node 13 xn xl xr) := by (simp only [RT.unary]; repeat (first | rw [if_neg (by omega)] | rw [if_pos (by omega)] | rfl))
  rw [hu]
  clear hu
  have H := Lib.hid h
  obtain ⟨b, vl, vr, rfl, hge, hc, hl, hr⟩ := h
  obtain ⟨pl, rfl⟩ := hl.pointer
  obtain ⟨pr, rfl⟩ := hr.pointer
  obtain ⟨⟨c0, c1, c2, c3⟩, _⟩ := blk4 hc
  have HL := Lib.hid hl
  clear hc hl hr
  go_enter Tryd.func65, Tryd.ntmps65
  go_wp2_with fail
  go_quiet (fail)
  go_wp2_with fail
  go_ret
  exact ⟨_, rfl, (H.out.bel (Bel.drewN _ _)), Bel.drewN _ _⟩

set_option maxRecDepth 100000 in
set_option maxHeartbeats 1000000 in
theorem unary_13_9 (xn : Int) (xl xr : RT) (u : Value) (w : World) (base : Nat) (h : Tr 91 w base (.node 9 xn xl xr) u) (hb : base ≤ w.heap.size) (ih : ∀ (u : Value) (w : World) (base : Nat), Tr 91 w base xl u → base ≤ w.heap.size → Calls Tryd.prog 65 #[.int .i64 13, u] w (Ret 91 w base (RT.unary 13 xl))) :
    Calls Tryd.prog 65 #[.int .i64 13, u] w (Ret 91 w base (RT.unary 13 (.node 9 xn xl xr))) := by
  have hu : RT.unary 13 (.node 9 xn xl xr) = RT.unary 13 xl := by (simp only [RT.unary]; repeat (first | rw [if_neg (by omega)] | rw [if_pos (by omega)] | rfl))
  rw [hu]
  clear hu
  have H := Lib.hid h
  obtain ⟨b, vl, vr, rfl, hge, hc, hl, hr⟩ := h
  obtain ⟨pl, rfl⟩ := hl.pointer
  obtain ⟨pr, rfl⟩ := hr.pointer
  obtain ⟨⟨c0, c1, c2, c3⟩, _⟩ := blk4 hc
  have HL := Lib.hid hl
  clear hc hl hr
  go_enter Tryd.func65, Tryd.ntmps65
  go_wp2_with fail
  go_quiet (fail)
  go_wp2_with (go_at_call 65; go_must (refine (ih _ _ base (HL.out.bel (Bel.drewN _ _)) hb).mono ?_); rintro e w1 ⟨p1, rfl, ht1, hb1⟩)
  go_ret
  exact ⟨_, rfl, ht1, (Bel.drewN _ _).trans hb1⟩

set_option maxRecDepth 100000 in
set_option maxHeartbeats 1000000 in
theorem unary_13_o (xk : Int) (a2 : (xk == 2) = false) (b2 : ((2 : Int) == xk) = false) (a1 : (xk == 1) = false) (b1 : ((1 : Int) == xk) = false) (a13 : (xk == 13) = false) (b13 : ((13 : Int) == xk) = false) (a9 : (xk == 9) = false) (b9 : ((9 : Int) == xk) = false) (xn : Int) (xl xr : RT) (u : Value) (w : World) (base : Nat) (h : Tr 91 w base (.node xk xn xl xr) u) (hb : base ≤ w.heap.size) :
    Calls Tryd.prog 65 #[.int .i64 13, u] w (Ret 91 w base (RT.unary 13 (.node xk xn xl xr))) := by
  have hu : RT.unary 13 (.node xk xn xl xr) = .node 13 0 (.node xk xn xl xr) .nil := by (have n2 : ¬ xk = 2 := (fun e => by rw [e] at a2; cases a2); have n1 : ¬ xk = 1 := (fun e => by rw [e] at a1; cases a1); have n13 : ¬ xk = 13 := (fun e => by rw [e] at a13; cases a13); have n9 : ¬ xk = 9 := (fun e => by rw [e] at a9; cases a9); simp only [RT.unary]; repeat (first | rw [if_neg (by omega)] | rfl))
  rw [hu]
  clear hu
  have H := Lib.hid h
  obtain ⟨b, vl, vr, rfl, hge, hc, hl, hr⟩ := h
  obtain ⟨pl, rfl⟩ := hl.pointer
  obtain ⟨pr, rfl⟩ := hr.pointer
  obtain ⟨⟨c0, c1, c2, c3⟩, _⟩ := blk4 hc
  have HL := Lib.hid hl
  clear hc hl hr
  go_enter Tryd.func65, Tryd.ntmps65
  go_wp2_with fail
  go_quiet (fail)
  go_wp2_with fail
  go_ret
  exact ⟨_, rfl, Tr.new 13 0 hb (H.out.bel (Bel.drewN _ _)) Tr.nil, (Bel.drewN _ _).thenAlloc _⟩

theorem unary_any {x : RT} (hx : Sh x) : ∀ (k : Int) (u : Value) (w : World) (base : Nat), 7 ≤ k → k ≤ 13 → Tr 91 w base x u → base ≤ w.heap.size → Calls Tryd.prog 65 #[.int .i64 k, u] w (Ret 91 w base (RT.unary k x)) := by
  induction hx with
  | @leaf xk xn h1 h6 =>
    intro k u w base h7 h13 h hb
    have hk : k = 7 ∨ k = 8 ∨ k = 9 ∨ k = 10 ∨ k = 11 ∨ k = 12 ∨ k = 13 := by omega
    rcases hk with rfl | rfl | rfl | rfl | rfl | rfl | rfl
    · by_cases h2 : xk = 2
      · subst h2; exact unary_7_2 _ _ _ _ _ _ h hb
      
      · by_cases h1 : xk = 1
        · subst h1; exact unary_7_1 _ _ _ _ _ _ h hb
        
        · by_cases h7 : xk = 7
          · subst h7; exact unary_7_7 _ _ _ _ _ _ h hb
          
          · exact unary_7_o xk (by simpa using h2) (by simpa using (fun e => h2 e.symm : ¬ (2 : Int) = xk)) (by simpa using h1) (by simpa using (fun e => h1 e.symm : ¬ (1 : Int) = xk)) (by simpa using h7) (by simpa using (fun e => h7 e.symm : ¬ (7 : Int) = xk)) _ _ _ _ _ _ h hb
    · by_cases h2 : xk = 2
      · subst h2; exact unary_8_2 _ _ _ _ _ _ h hb
      
      · by_cases h1 : xk = 1
        · subst h1; exact unary_8_1 _ _ _ _ _ _ h hb
        
        · by_cases h8 : xk = 8
          · subst h8; exact unary_8_8 _ _ _ _ _ _ h hb
          
          · by_cases h12 : xk = 12
            · omega
            
            · exact unary_8_o xk (by simpa using h2) (by simpa using (fun e => h2 e.symm : ¬ (2 : Int) = xk)) (by simpa using h1) (by simpa using (fun e => h1 e.symm : ¬ (1 : Int) = xk)) (by simpa using h8) (by simpa using (fun e => h8 e.symm : ¬ (8 : Int) = xk)) (by simpa using h12) (by simpa using (fun e => h12 e.symm : ¬ (12 : Int) = xk)) _ _ _ _ _ _ h hb
    · by_cases h2 : xk = 2
      · subst h2; exact unary_9_2 _ _ _ _ _ _ h hb
      
      · by_cases h1 : xk = 1
        · subst h1; exact unary_9_1 _ _ _ _ _ _ h hb
        
        · by_cases h9 : xk = 9
          · subst h9; exact unary_9_9 _ _ _ _ _ _ h hb
          
          · by_cases h13 : xk = 13
            · omega
            
            · exact unary_9_o xk (by simpa using h2) (by simpa using (fun e => h2 e.symm : ¬ (2 : Int) = xk)) (by simpa using h1) (by simpa using (fun e => h1 e.symm : ¬ (1 : Int) = xk)) (by simpa using h9) (by simpa using (fun e => h9 e.symm : ¬ (9 : Int) = xk)) (by simpa using h13) (by simpa using (fun e => h13 e.symm : ¬ (13 : Int) = xk)) _ _ _ _ _ _ h hb
    · by_cases h2 : xk = 2
      · subst h2; exact unary_10_2 _ _ _ _ _ _ h hb
      
      · by_cases h1 : xk = 1
        · subst h1; exact unary_10_1 _ _ _ _ _ _ h hb
        
        · by_cases h10 : xk = 10
          · subst h10; exact unary_10_10 _ _ _ _ _ _ h hb
          
          · exact unary_10_o xk (by simpa using h2) (by simpa using (fun e => h2 e.symm : ¬ (2 : Int) = xk)) (by simpa using h1) (by simpa using (fun e => h1 e.symm : ¬ (1 : Int) = xk)) (by simpa using h10) (by simpa using (fun e => h10 e.symm : ¬ (10 : Int) = xk)) _ _ _ _ _ _ h hb
    · by_cases h2 : xk = 2
      · subst h2; exact unary_11_2 _ _ _ _ _ _ h hb
      
      · by_cases h1 : xk = 1
        · subst h1; exact unary_11_1 _ _ _ _ _ _ h hb
        
        · by_cases h11 : xk = 11
          · subst h11; exact unary_11_11 _ _ _ _ _ _ h hb
          
          · exact unary_11_o xk (by simpa using h2) (by simpa using (fun e => h2 e.symm : ¬ (2 : Int) = xk)) (by simpa using h1) (by simpa using (fun e => h1 e.symm : ¬ (1 : Int) = xk)) (by simpa using h11) (by simpa using (fun e => h11 e.symm : ¬ (11 : Int) = xk)) _ _ _ _ _ _ h hb
    · by_cases h2 : xk = 2
      · subst h2; exact unary_12_2 _ _ _ _ _ _ h hb
      
      · by_cases h1 : xk = 1
        · subst h1; exact unary_12_1 _ _ _ _ _ _ h hb
        
        · by_cases h12 : xk = 12
          · subst h12; exact unary_12_12 _ _ _ _ _ _ h hb
          
          · by_cases h8 : xk = 8
            · omega
            
            · exact unary_12_o xk (by simpa using h2) (by simpa using (fun e => h2 e.symm : ¬ (2 : Int) = xk)) (by simpa using h1) (by simpa using (fun e => h1 e.symm : ¬ (1 : Int) = xk)) (by simpa using h12) (by simpa using (fun e => h12 e.symm : ¬ (12 : Int) = xk)) (by simpa using h8) (by simpa using (fun e => h8 e.symm : ¬ (8 : Int) = xk)) _ _ _ _ _ _ h hb
    · by_cases h2 : xk = 2
      · subst h2; exact unary_13_2 _ _ _ _ _ _ h hb
      
      · by_cases h1 : xk = 1
        · subst h1; exact unary_13_1 _ _ _ _ _ _ h hb
        
        · by_cases h13 : xk = 13
          · subst h13; exact unary_13_13 _ _ _ _ _ _ h hb
          
          · by_cases h9 : xk = 9
            · omega
            
            · exact unary_13_o xk (by simpa using h2) (by simpa using (fun e => h2 e.symm : ¬ (2 : Int) = xk)) (by simpa using h1) (by simpa using (fun e => h1 e.symm : ¬ (1 : Int) = xk)) (by simpa using h13) (by simpa using (fun e => h13 e.symm : ¬ (13 : Int) = xk)) (by simpa using h9) (by simpa using (fun e => h9 e.symm : ¬ (9 : Int) = xk)) _ _ _ _ _ _ h hb
  | @un xk xn xl h7' h13' hl ih =>
    intro k u w base h7 h13 h hb
    have hk : k = 7 ∨ k = 8 ∨ k = 9 ∨ k = 10 ∨ k = 11 ∨ k = 12 ∨ k = 13 := by omega
    rcases hk with rfl | rfl | rfl | rfl | rfl | rfl | rfl
    · by_cases h2 : xk = 2
      · subst h2; exact unary_7_2 _ _ _ _ _ _ h hb
      
      · by_cases h1 : xk = 1
        · subst h1; exact unary_7_1 _ _ _ _ _ _ h hb
        
        · by_cases h7 : xk = 7
          · subst h7; exact unary_7_7 _ _ _ _ _ _ h hb
          
          · exact unary_7_o xk (by simpa using h2) (by simpa using (fun e => h2 e.symm : ¬ (2 : Int) = xk)) (by simpa using h1) (by simpa using (fun e => h1 e.symm : ¬ (1 : Int) = xk)) (by simpa using h7) (by simpa using (fun e => h7 e.symm : ¬ (7 : Int) = xk)) _ _ _ _ _ _ h hb
    · by_cases h2 : xk = 2
      · subst h2; exact unary_8_2 _ _ _ _ _ _ h hb
      
      · by_cases h1 : xk = 1
        · subst h1; exact unary_8_1 _ _ _ _ _ _ h hb
        
        · by_cases h8 : xk = 8
          · subst h8; exact unary_8_8 _ _ _ _ _ _ h hb
          
          · by_cases h12 : xk = 12
            · subst h12; exact unary_8_12 _ _ _ _ _ _ h hb (fun u w base h hb => ih 8 u w base (by omega) (by omega) h hb)
            
            · exact unary_8_o xk (by simpa using h2) (by simpa using (fun e => h2 e.symm : ¬ (2 : Int) = xk)) (by simpa using h1) (by simpa using (fun e => h1 e.symm : ¬ (1 : Int) = xk)) (by simpa using h8) (by simpa using (fun e => h8 e.symm : ¬ (8 : Int) = xk)) (by simpa using h12) (by simpa using (fun e => h12 e.symm : ¬ (12 : Int) = xk)) _ _ _ _ _ _ h hb
    · by_cases h2 : xk = 2
      · subst h2; exact unary_9_2 _ _ _ _ _ _ h hb
      
      · by_cases h1 : xk = 1
        · subst h1; exact unary_9_1 _ _ _ _ _ _ h hb
        
        · by_cases h9 : xk = 9
          · subst h9; exact unary_9_9 _ _ _ _ _ _ h hb
          
          · by_cases h13 : xk = 13
            · subst h13; exact unary_9_13 _ _ _ _ _ _ h hb (fun u w base h hb => ih 9 u w base (by omega) (by omega) h hb)
            
            · exact unary_9_o xk (by simpa using h2) (by simpa using (fun e => h2 e.symm : ¬ (2 : Int) = xk)) (by simpa using h1) (by simpa using (fun e => h1 e.symm : ¬ (1 : Int) = xk)) (by simpa using h9) (by simpa using (fun e => h9 e.symm : ¬ (9 : Int) = xk)) (by simpa using h13) (by simpa using (fun e => h13 e.symm : ¬ (13 : Int) = xk)) _ _ _ _ _ _ h hb
    · by_cases h2 : xk = 2
      · subst h2; exact unary_10_2 _ _ _ _ _ _ h hb
      
      · by_cases h1 : xk = 1
        · subst h1; exact unary_10_1 _ _ _ _ _ _ h hb
        
        · by_cases h10 : xk = 10
          · subst h10; exact unary_10_10 _ _ _ _ _ _ h hb
          
          · exact unary_10_o xk (by simpa using h2) (by simpa using (fun e => h2 e.symm : ¬ (2 : Int) = xk)) (by simpa using h1) (by simpa using (fun e => h1 e.symm : ¬ (1 : Int) = xk)) (by simpa using h10) (by simpa using (fun e => h10 e.symm : ¬ (10 : Int) = xk)) _ _ _ _ _ _ h hb
    · by_cases h2 : xk = 2
      · subst h2; exact unary_11_2 _ _ _ _ _ _ h hb
      
      · by_cases h1 : xk = 1
        · subst h1; exact unary_11_1 _ _ _ _ _ _ h hb
        
        · by_cases h11 : xk = 11
          · subst h11; exact unary_11_11 _ _ _ _ _ _ h hb
          
          · exact unary_11_o xk (by simpa using h2) (by simpa using (fun e => h2 e.symm : ¬ (2 : Int) = xk)) (by simpa using h1) (by simpa using (fun e => h1 e.symm : ¬ (1 : Int) = xk)) (by simpa using h11) (by simpa using (fun e => h11 e.symm : ¬ (11 : Int) = xk)) _ _ _ _ _ _ h hb
    · by_cases h2 : xk = 2
      · subst h2; exact unary_12_2 _ _ _ _ _ _ h hb
      
      · by_cases h1 : xk = 1
        · subst h1; exact unary_12_1 _ _ _ _ _ _ h hb
        
        · by_cases h12 : xk = 12
          · subst h12; exact unary_12_12 _ _ _ _ _ _ h hb
          
          · by_cases h8 : xk = 8
            · subst h8; exact unary_12_8 _ _ _ _ _ _ h hb (fun u w base h hb => ih 12 u w base (by omega) (by omega) h hb)
            
            · exact unary_12_o xk (by simpa using h2) (by simpa using (fun e => h2 e.symm : ¬ (2 : Int) = xk)) (by simpa using h1) (by simpa using (fun e => h1 e.symm : ¬ (1 : Int) = xk)) (by simpa using h12) (by simpa using (fun e => h12 e.symm : ¬ (12 : Int) = xk)) (by simpa using h8) (by simpa using (fun e => h8 e.symm : ¬ (8 : Int) = xk)) _ _ _ _ _ _ h hb
    · by_cases h2 : xk = 2
      · subst h2; exact unary_13_2 _ _ _ _ _ _ h hb
      
      · by_cases h1 : xk = 1
        · subst h1; exact unary_13_1 _ _ _ _ _ _ h hb
        
        · by_cases h13 : xk = 13
          · subst h13; exact unary_13_13 _ _ _ _ _ _ h hb
          
          · by_cases h9 : xk = 9
            · subst h9; exact unary_13_9 _ _ _ _ _ _ h hb (fun u w base h hb => ih 13 u w base (by omega) (by omega) h hb)
            
            · exact unary_13_o xk (by simpa using h2) (by simpa using (fun e => h2 e.symm : ¬ (2 : Int) = xk)) (by simpa using h1) (by simpa using (fun e => h1 e.symm : ¬ (1 : Int) = xk)) (by simpa using h13) (by simpa using (fun e => h13 e.symm : ¬ (13 : Int) = xk)) (by simpa using h9) (by simpa using (fun e => h9 e.symm : ¬ (9 : Int) = xk)) _ _ _ _ _ _ h hb
  | @bin xk xn xl xr h14 h16 hl hr ih _ =>
    intro k u w base h7 h13 h hb
    have hk : k = 7 ∨ k = 8 ∨ k = 9 ∨ k = 10 ∨ k = 11 ∨ k = 12 ∨ k = 13 := by omega
    rcases hk with rfl | rfl | rfl | rfl | rfl | rfl | rfl
    · by_cases h2 : xk = 2
      · subst h2; exact unary_7_2 _ _ _ _ _ _ h hb
      
      · by_cases h1 : xk = 1
        · subst h1; exact unary_7_1 _ _ _ _ _ _ h hb
        
        · by_cases h7 : xk = 7
          · subst h7; exact unary_7_7 _ _ _ _ _ _ h hb
          
          · exact unary_7_o xk (by simpa using h2) (by simpa using (fun e => h2 e.symm : ¬ (2 : Int) = xk)) (by simpa using h1) (by simpa using (fun e => h1 e.symm : ¬ (1 : Int) = xk)) (by simpa using h7) (by simpa using (fun e => h7 e.symm : ¬ (7 : Int) = xk)) _ _ _ _ _ _ h hb
    · by_cases h2 : xk = 2
      · subst h2; exact unary_8_2 _ _ _ _ _ _ h hb
      
      · by_cases h1 : xk = 1
        · subst h1; exact unary_8_1 _ _ _ _ _ _ h hb
        
        · by_cases h8 : xk = 8
          · subst h8; exact unary_8_8 _ _ _ _ _ _ h hb
          
          · by_cases h12 : xk = 12
            · omega
            
            · exact unary_8_o xk (by simpa using h2) (by simpa using (fun e => h2 e.symm : ¬ (2 : Int) = xk)) (by simpa using h1) (by simpa using (fun e => h1 e.symm : ¬ (1 : Int) = xk)) (by simpa using h8) (by simpa using (fun e => h8 e.symm : ¬ (8 : Int) = xk)) (by simpa using h12) (by simpa using (fun e => h12 e.symm : ¬ (12 : Int) = xk)) _ _ _ _ _ _ h hb
    · by_cases h2 : xk = 2
      · subst h2; exact unary_9_2 _ _ _ _ _ _ h hb
      
      · by_cases h1 : xk = 1
        · subst h1; exact unary_9_1 _ _ _ _ _ _ h hb
        
        · by_cases h9 : xk = 9
          · subst h9; exact unary_9_9 _ _ _ _ _ _ h hb
          
          · by_cases h13 : xk = 13
            · omega
            
            · exact unary_9_o xk (by simpa using h2) (by simpa using (fun e => h2 e.symm : ¬ (2 : Int) = xk)) (by simpa using h1) (by simpa using (fun e => h1 e.symm : ¬ (1 : Int) = xk)) (by simpa using h9) (by simpa using (fun e => h9 e.symm : ¬ (9 : Int) = xk)) (by simpa using h13) (by simpa using (fun e => h13 e.symm : ¬ (13 : Int) = xk)) _ _ _ _ _ _ h hb
    · by_cases h2 : xk = 2
      · subst h2; exact unary_10_2 _ _ _ _ _ _ h hb
      
      · by_cases h1 : xk = 1
        · subst h1; exact unary_10_1 _ _ _ _ _ _ h hb
        
        · by_cases h10 : xk = 10
          · subst h10; exact unary_10_10 _ _ _ _ _ _ h hb
          
          · exact unary_10_o xk (by simpa using h2) (by simpa using (fun e => h2 e.symm : ¬ (2 : Int) = xk)) (by simpa using h1) (by simpa using (fun e => h1 e.symm : ¬ (1 : Int) = xk)) (by simpa using h10) (by simpa using (fun e => h10 e.symm : ¬ (10 : Int) = xk)) _ _ _ _ _ _ h hb
    · by_cases h2 : xk = 2
      · subst h2; exact unary_11_2 _ _ _ _ _ _ h hb
      
      · by_cases h1 : xk = 1
        · subst h1; exact unary_11_1 _ _ _ _ _ _ h hb
        
        · by_cases h11 : xk = 11
          · subst h11; exact unary_11_11 _ _ _ _ _ _ h hb
          
          · exact unary_11_o xk (by simpa using h2) (by simpa using (fun e => h2 e.symm : ¬ (2 : Int) = xk)) (by simpa using h1) (by simpa using (fun e => h1 e.symm : ¬ (1 : Int) = xk)) (by simpa using h11) (by simpa using (fun e => h11 e.symm : ¬ (11 : Int) = xk)) _ _ _ _ _ _ h hb
    · by_cases h2 : xk = 2
      · subst h2; exact unary_12_2 _ _ _ _ _ _ h hb
      
      · by_cases h1 : xk = 1
        · subst h1; exact unary_12_1 _ _ _ _ _ _ h hb
        
        · by_cases h12 : xk = 12
          · subst h12; exact unary_12_12 _ _ _ _ _ _ h hb
          
          · by_cases h8 : xk = 8
            · omega
            
            · exact unary_12_o xk (by simpa using h2) (by simpa using (fun e => h2 e.symm : ¬ (2 : Int) = xk)) (by simpa using h1) (by simpa using (fun e => h1 e.symm : ¬ (1 : Int) = xk)) (by simpa using h12) (by simpa using (fun e => h12 e.symm : ¬ (12 : Int) = xk)) (by simpa using h8) (by simpa using (fun e => h8 e.symm : ¬ (8 : Int) = xk)) _ _ _ _ _ _ h hb
    · by_cases h2 : xk = 2
      · subst h2; exact unary_13_2 _ _ _ _ _ _ h hb
      
      · by_cases h1 : xk = 1
        · subst h1; exact unary_13_1 _ _ _ _ _ _ h hb
        
        · by_cases h13 : xk = 13
          · subst h13; exact unary_13_13 _ _ _ _ _ _ h hb
          
          · by_cases h9 : xk = 9
            · omega
            
            · exact unary_13_o xk (by simpa using h2) (by simpa using (fun e => h2 e.symm : ¬ (2 : Int) = xk)) (by simpa using h1) (by simpa using (fun e => h1 e.symm : ¬ (1 : Int) = xk)) (by simpa using h13) (by simpa using (fun e => h13 e.symm : ¬ (13 : Int) = xk)) (by simpa using h9) (by simpa using (fun e => h9 e.symm : ¬ (9 : Int) = xk)) _ _ _ _ _ _ h hb

end Go.Proofs.YtijaoedlhmdpnaaDoor
/- Package revopt: binary walked. -/
namespace Go.Proofs.YtijaoedlhmdpnaaDoor
open Go.RowKit Go.Proofs.YtijaoedlhmdpnaaDoor.PTopQueriesKept Go.Proofs.YtijaoedlhmdpnaaDoorW.PrintWords

def RT.nonE : RT := .node 2 0 .nil .nil
def RT.allE : RT := .node 1 0 .nil .nil
/-- What binary makes of a kind and two operands. -/
def RT.binary (k : Int) (x y : RT) : RT :=
  if k = 16 then
    if (x.same y || x.same nonE || y.same allE) = true then nonE
    else if y.same nonE = true then x
    else if x.same allE = true then RT.unary 7 y
    else .node 16 0 x y
  else if k = 15 then
    if (x.same y || y.same allE) = true then x
    else if x.same allE = true then y
    else if (x.same nonE || y.same nonE) = true then nonE
    else .node k 0 x y
  else
    if (x.same y || y.same nonE) = true then x
    else if x.same nonE = true then y
    else if (x.same allE || y.same allE) = true then allE
    else .node k 0 x y

theorem bdn {w w1 : World} (n : Nat) (h : Bel w w1) : Bel w (w1.drewN n) := h.trans (Bel.drewN _ _)
abbrev bw (w : World) : World := (w.alloc (.cells #[.int .i64 2, .int .i64 0, .pointer none, .pointer none] 91)).alloc (.cells #[.int .i64 1, .int .i64 0, .pointer none, .pointer none] 91)
theorem bw_bel (w : World) : Bel w (bw w) := (Bel.alloc w _).thenAlloc _
theorem binary_worlds (w : World) {x : RT} {base : Nat} {u : Value} (h : Tr 91 w base x u) : Tr 91 (bw w) base x u := (h.bel (Bel.alloc _ _)).bel (Bel.alloc _ _)
theorem binary_none (w : World) (base : Nat) (hb : base ≤ w.heap.size) : Tr 91 (bw w) base RT.nonE (.pointer (some ⟨w.heap.size, 0, none⟩)) :=
  (Tr.new 2 0 hb Tr.nil Tr.nil).bel (Bel.alloc _ _)
theorem binary_all (w : World) (base : Nat) (hb : base ≤ w.heap.size) : Tr 91 (bw w) base RT.allE (.pointer (some ⟨w.heap.size + 1, 0, none⟩)) :=
  Tr.newAt 1 0 (by simp; omega) (by simp) Tr.nil Tr.nil

set_option maxRecDepth 100000 in
set_option maxHeartbeats 1000000 in
theorem binary_16_0 (x y : RT) (u v : Value) (w : World) (base : Nat) (hx : Tr 91 w base x u) (hy0 : Tr 91 w base y v) (hb : base ≤ w.heap.size) (txy : x.same y = true) :
    Calls Tryd.prog 64 #[.int .i64 16, u, v] w (Ret 91 w base (RT.binary 16 x y)) := by
  have hr : RT.binary 16 x y = RT.nonE := by simp [RT.binary, txy]
  rw [hr]
  clear hr
  obtain ⟨pu, rfl⟩ := hx.pointer
  obtain ⟨pv, rfl⟩ := hy0.pointer
  have HX := Lib.hid (binary_worlds w hx)
  have HY := Lib.hid (binary_worlds w hy0)
  have HN := Lib.hid (binary_none w base hb)
  have HA := Lib.hid (binary_all w base hb)
  have HB := Lib.hid (bw_bel w)
  have Sxy : ∀ w', Bel (bw w) w' → Calls Tryd.prog 73 #[(.pointer pu), (.pointer pv)] w' (RetBool w' true) := fun w' hw => txy ▸ same_any x y _ _ w' ((HX.out.bel hw).lower (Nat.zero_le _)) ((HY.out.bel hw).lower (Nat.zero_le _))
  clear hx hy0 txy
  go_enter Tryd.func64, Tryd.ntmps64
  go_wp2_with (first | ((with_reducible refine (Sxy _ (by repeat (first | exact Bel.refl _ | refine bdn _ ?_))).mono ?_); rintro e w1 ⟨rfl, n1, rfl⟩))
  go_ret
  exact ⟨_, rfl, HN.out.bel (by repeat (first | exact Bel.refl _ | refine bdn _ ?_)), HB.out.trans (by repeat (first | exact Bel.refl _ | refine bdn _ ?_))⟩

set_option maxRecDepth 100000 in
set_option maxHeartbeats 1000000 in
theorem binary_16_1 (x y : RT) (u v : Value) (w : World) (base : Nat) (hx : Tr 91 w base x u) (hy0 : Tr 91 w base y v) (hb : base ≤ w.heap.size) (txy : x.same y = false) (txn : x.same RT.nonE = true) :
    Calls Tryd.prog 64 #[.int .i64 16, u, v] w (Ret 91 w base (RT.binary 16 x y)) := by
  have hr : RT.binary 16 x y = RT.nonE := by simp [RT.binary, txy, txn]
  rw [hr]
  clear hr
  obtain ⟨pu, rfl⟩ := hx.pointer
  obtain ⟨pv, rfl⟩ := hy0.pointer
  have HX := Lib.hid (binary_worlds w hx)
  have HY := Lib.hid (binary_worlds w hy0)
  have HN := Lib.hid (binary_none w base hb)
  have HA := Lib.hid (binary_all w base hb)
  have HB := Lib.hid (bw_bel w)
  have Sxy : ∀ w', Bel (bw w) w' → Calls Tryd.prog 73 #[(.pointer pu), (.pointer pv)] w' (RetBool w' false) := fun w' hw => txy ▸ same_any x y _ _ w' ((HX.out.bel hw).lower (Nat.zero_le _)) ((HY.out.bel hw).lower (Nat.zero_le _))
  have Sxn : ∀ w', Bel (bw w) w' → Calls Tryd.prog 73 #[(.pointer pu), (.pointer (some ⟨w.heap.size, 0, none⟩))] w' (RetBool w' true) := fun w' hw => txn ▸ same_any x RT.nonE _ _ w' ((HX.out.bel hw).lower (Nat.zero_le _)) ((HN.out.bel hw).lower (Nat.zero_le _))
  clear hx hy0 txy txn
  go_enter Tryd.func64, Tryd.ntmps64
  go_wp2_with (first | ((with_reducible refine (Sxy _ (by repeat (first | exact Bel.refl _ | refine bdn _ ?_))).mono ?_); rintro e w1 ⟨rfl, n1, rfl⟩) | ((with_reducible refine (Sxn _ (by repeat (first | exact Bel.refl _ | refine bdn _ ?_))).mono ?_); rintro e w1 ⟨rfl, n1, rfl⟩))
  go_ret
  exact ⟨_, rfl, HN.out.bel (by repeat (first | exact Bel.refl _ | refine bdn _ ?_)), HB.out.trans (by repeat (first | exact Bel.refl _ | refine bdn _ ?_))⟩

set_option maxRecDepth 100000 in
set_option maxHeartbeats 1000000 in
theorem binary_16_2 (x y : RT) (u v : Value) (w : World) (base : Nat) (hx : Tr 91 w base x u) (hy0 : Tr 91 w base y v) (hb : base ≤ w.heap.size) (txy : x.same y = false) (txn : x.same RT.nonE = false) (tya : y.same RT.allE = true) :
    Calls Tryd.prog 64 #[.int .i64 16, u, v] w (Ret 91 w base (RT.binary 16 x y)) := by
  have hr : RT.binary 16 x y = RT.nonE := by simp [RT.binary, txy, txn, tya]
  rw [hr]
  clear hr
  obtain ⟨pu, rfl⟩ := hx.pointer
  obtain ⟨pv, rfl⟩ := hy0.pointer
  have HX := Lib.hid (binary_worlds w hx)
  have HY := Lib.hid (binary_worlds w hy0)
  have HN := Lib.hid (binary_none w base hb)
  have HA := Lib.hid (binary_all w base hb)
  have HB := Lib.hid (bw_bel w)
  have Sxy : ∀ w', Bel (bw w) w' → Calls Tryd.prog 73 #[(.pointer pu), (.pointer pv)] w' (RetBool w' false) := fun w' hw => txy ▸ same_any x y _ _ w' ((HX.out.bel hw).lower (Nat.zero_le _)) ((HY.out.bel hw).lower (Nat.zero_le _))
  have Sxn : ∀ w', Bel (bw w) w' → Calls Tryd.prog 73 #[(.pointer pu), (.pointer (some ⟨w.heap.size, 0, none⟩))] w' (RetBool w' false) := fun w' hw => txn ▸ same_any x RT.nonE _ _ w' ((HX.out.bel hw).lower (Nat.zero_le _)) ((HN.out.bel hw).lower (Nat.zero_le _))
  have Sya : ∀ w', Bel (bw w) w' → Calls Tryd.prog 73 #[(.pointer pv), (.pointer (some ⟨w.heap.size + 1, 0, none⟩))] w' (RetBool w' true) := fun w' hw => tya ▸ same_any y RT.allE _ _ w' ((HY.out.bel hw).lower (Nat.zero_le _)) ((HA.out.bel hw).lower (Nat.zero_le _))
  clear hx hy0 txy txn tya
  go_enter Tryd.func64, Tryd.ntmps64
  go_wp2_with (first | ((with_reducible refine (Sxy _ (by repeat (first | exact Bel.refl _ | refine bdn _ ?_))).mono ?_); rintro e w1 ⟨rfl, n1, rfl⟩) | ((with_reducible refine (Sxn _ (by repeat (first | exact Bel.refl _ | refine bdn _ ?_))).mono ?_); rintro e w1 ⟨rfl, n1, rfl⟩) | ((with_reducible refine (Sya _ (by repeat (first | exact Bel.refl _ | refine bdn _ ?_))).mono ?_); rintro e w1 ⟨rfl, n1, rfl⟩))
  go_ret
  exact ⟨_, rfl, HN.out.bel (by repeat (first | exact Bel.refl _ | refine bdn _ ?_)), HB.out.trans (by repeat (first | exact Bel.refl _ | refine bdn _ ?_))⟩

set_option maxRecDepth 100000 in
set_option maxHeartbeats 1000000 in
theorem binary_16_3 (x y : RT) (u v : Value) (w : World) (base : Nat) (hx : Tr 91 w base x u) (hy0 : Tr 91 w base y v) (hb : base ≤ w.heap.size) (txy : x.same y = false) (txn : x.same RT.nonE = false) (tya : y.same RT.allE = false) (tyn : y.same RT.nonE = true) :
    Calls Tryd.prog 64 #[.int .i64 16, u, v] w (Ret 91 w base (RT.binary 16 x y)) := by
  have hr : RT.binary 16 x y = x := by simp [RT.binary, txy, txn, tya, tyn]
  rw [hr]
  clear hr
  obtain ⟨pu, rfl⟩ := hx.pointer
  obtain ⟨pv, rfl⟩ := hy0.pointer
  have HX := Lib.hid (binary_worlds w hx)
  have HY := Lib.hid (binary_worlds w hy0)
  have HN := Lib.hid (binary_none w base hb)
  have HA := Lib.hid (binary_all w base hb)
  have HB := Lib.hid (bw_bel w)
  have Sxy : ∀ w', Bel (bw w) w' → Calls Tryd.prog 73 #[(.pointer pu), (.pointer pv)] w' (RetBool w' false) := fun w' hw => txy ▸ same_any x y _ _ w' ((HX.out.bel hw).lower (Nat.zero_le _)) ((HY.out.bel hw).lower (Nat.zero_le _))
  have Sxn : ∀ w', Bel (bw w) w' → Calls Tryd.prog 73 #[(.pointer pu), (.pointer (some ⟨w.heap.size, 0, none⟩))] w' (RetBool w' false) := fun w' hw => txn ▸ same_any x RT.nonE _ _ w' ((HX.out.bel hw).lower (Nat.zero_le _)) ((HN.out.bel hw).lower (Nat.zero_le _))
  have Sya : ∀ w', Bel (bw w) w' → Calls Tryd.prog 73 #[(.pointer pv), (.pointer (some ⟨w.heap.size + 1, 0, none⟩))] w' (RetBool w' false) := fun w' hw => tya ▸ same_any y RT.allE _ _ w' ((HY.out.bel hw).lower (Nat.zero_le _)) ((HA.out.bel hw).lower (Nat.zero_le _))
  have Syn : ∀ w', Bel (bw w) w' → Calls Tryd.prog 73 #[(.pointer pv), (.pointer (some ⟨w.heap.size, 0, none⟩))] w' (RetBool w' true) := fun w' hw => tyn ▸ same_any y RT.nonE _ _ w' ((HY.out.bel hw).lower (Nat.zero_le _)) ((HN.out.bel hw).lower (Nat.zero_le _))
  clear hx hy0 txy txn tya tyn
  go_enter Tryd.func64, Tryd.ntmps64
  go_wp2_with (first | ((with_reducible refine (Sxy _ (by repeat (first | exact Bel.refl _ | refine bdn _ ?_))).mono ?_); rintro e w1 ⟨rfl, n1, rfl⟩) | ((with_reducible refine (Sxn _ (by repeat (first | exact Bel.refl _ | refine bdn _ ?_))).mono ?_); rintro e w1 ⟨rfl, n1, rfl⟩) | ((with_reducible refine (Sya _ (by repeat (first | exact Bel.refl _ | refine bdn _ ?_))).mono ?_); rintro e w1 ⟨rfl, n1, rfl⟩) | ((with_reducible refine (Syn _ (by repeat (first | exact Bel.refl _ | refine bdn _ ?_))).mono ?_); rintro e w1 ⟨rfl, n1, rfl⟩))
  go_ret
  exact ⟨_, rfl, HX.out.bel (by repeat (first | exact Bel.refl _ | refine bdn _ ?_)), HB.out.trans (by repeat (first | exact Bel.refl _ | refine bdn _ ?_))⟩

set_option maxRecDepth 100000 in
set_option maxHeartbeats 1000000 in
theorem binary_16_4 (x y : RT) (u v : Value) (w : World) (base : Nat) (hx : Tr 91 w base x u) (hy0 : Tr 91 w base y v) (hb : base ≤ w.heap.size) (hy : Sh y) (txy : x.same y = false) (txn : x.same RT.nonE = false) (tya : y.same RT.allE = false) (tyn : y.same RT.nonE = false) (txa : x.same RT.allE = true) :
    Calls Tryd.prog 64 #[.int .i64 16, u, v] w (Ret 91 w base (RT.binary 16 x y)) := by
  have hr : RT.binary 16 x y = RT.unary 7 y := by simp [RT.binary, txy, txn, tya, tyn, txa]
  rw [hr]
  clear hr
  obtain ⟨pu, rfl⟩ := hx.pointer
  obtain ⟨pv, rfl⟩ := hy0.pointer
  have HX := Lib.hid (binary_worlds w hx)
  have HY := Lib.hid (binary_worlds w hy0)
  have HN := Lib.hid (binary_none w base hb)
  have HA := Lib.hid (binary_all w base hb)
  have HB := Lib.hid (bw_bel w)
  have Sxy : ∀ w', Bel (bw w) w' → Calls Tryd.prog 73 #[(.pointer pu), (.pointer pv)] w' (RetBool w' false) := fun w' hw => txy ▸ same_any x y _ _ w' ((HX.out.bel hw).lower (Nat.zero_le _)) ((HY.out.bel hw).lower (Nat.zero_le _))
  have Sxn : ∀ w', Bel (bw w) w' → Calls Tryd.prog 73 #[(.pointer pu), (.pointer (some ⟨w.heap.size, 0, none⟩))] w' (RetBool w' false) := fun w' hw => txn ▸ same_any x RT.nonE _ _ w' ((HX.out.bel hw).lower (Nat.zero_le _)) ((HN.out.bel hw).lower (Nat.zero_le _))
  have Sya : ∀ w', Bel (bw w) w' → Calls Tryd.prog 73 #[(.pointer pv), (.pointer (some ⟨w.heap.size + 1, 0, none⟩))] w' (RetBool w' false) := fun w' hw => tya ▸ same_any y RT.allE _ _ w' ((HY.out.bel hw).lower (Nat.zero_le _)) ((HA.out.bel hw).lower (Nat.zero_le _))
  have Syn : ∀ w', Bel (bw w) w' → Calls Tryd.prog 73 #[(.pointer pv), (.pointer (some ⟨w.heap.size, 0, none⟩))] w' (RetBool w' false) := fun w' hw => tyn ▸ same_any y RT.nonE _ _ w' ((HY.out.bel hw).lower (Nat.zero_le _)) ((HN.out.bel hw).lower (Nat.zero_le _))
  have Sxa : ∀ w', Bel (bw w) w' → Calls Tryd.prog 73 #[(.pointer pu), (.pointer (some ⟨w.heap.size + 1, 0, none⟩))] w' (RetBool w' true) := fun w' hw => txa ▸ same_any x RT.allE _ _ w' ((HX.out.bel hw).lower (Nat.zero_le _)) ((HA.out.bel hw).lower (Nat.zero_le _))
  clear hx hy0 txy txn tya tyn txa
  go_enter Tryd.func64, Tryd.ntmps64
  go_wp2_with (first | ((with_reducible refine (Sxy _ (by repeat (first | exact Bel.refl _ | refine bdn _ ?_))).mono ?_); rintro e w1 ⟨rfl, n1, rfl⟩) | ((with_reducible refine (Sxn _ (by repeat (first | exact Bel.refl _ | refine bdn _ ?_))).mono ?_); rintro e w1 ⟨rfl, n1, rfl⟩) | ((with_reducible refine (Sya _ (by repeat (first | exact Bel.refl _ | refine bdn _ ?_))).mono ?_); rintro e w1 ⟨rfl, n1, rfl⟩) | ((with_reducible refine (Syn _ (by repeat (first | exact Bel.refl _ | refine bdn _ ?_))).mono ?_); rintro e w1 ⟨rfl, n1, rfl⟩) | ((with_reducible refine (Sxa _ (by repeat (first | exact Bel.refl _ | refine bdn _ ?_))).mono ?_); rintro e w1 ⟨rfl, n1, rfl⟩) | (go_at_call 65; go_must (refine (unary_any hy 7 _ _ base (by omega) (by omega) (HY.out.bel (by repeat (first | exact Bel.refl _ | refine bdn _ ?_))) ?_).mono ?_); (simp; omega); rintro e w2 ⟨p2, rfl, ht2, hb2⟩))
  go_ret
  exact ⟨_, rfl, ht2, (HB.out.trans (by repeat (first | exact Bel.refl _ | refine bdn _ ?_))).trans hb2⟩

set_option maxRecDepth 100000 in
set_option maxHeartbeats 1000000 in
theorem binary_16_5 (x y : RT) (u v : Value) (w : World) (base : Nat) (hx : Tr 91 w base x u) (hy0 : Tr 91 w base y v) (hb : base ≤ w.heap.size) (txy : x.same y = false) (txn : x.same RT.nonE = false) (tya : y.same RT.allE = false) (tyn : y.same RT.nonE = false) (txa : x.same RT.allE = false) :
    Calls Tryd.prog 64 #[.int .i64 16, u, v] w (Ret 91 w base (RT.binary 16 x y)) := by
  have hr : RT.binary 16 x y = .node 16 0 x y := by simp [RT.binary, txy, txn, tya, tyn, txa]
  rw [hr]
  clear hr
  obtain ⟨pu, rfl⟩ := hx.pointer
  obtain ⟨pv, rfl⟩ := hy0.pointer
  have HX := Lib.hid (binary_worlds w hx)
  have HY := Lib.hid (binary_worlds w hy0)
  have HN := Lib.hid (binary_none w base hb)
  have HA := Lib.hid (binary_all w base hb)
  have HB := Lib.hid (bw_bel w)
  have Sxy : ∀ w', Bel (bw w) w' → Calls Tryd.prog 73 #[(.pointer pu), (.pointer pv)] w' (RetBool w' false) := fun w' hw => txy ▸ same_any x y _ _ w' ((HX.out.bel hw).lower (Nat.zero_le _)) ((HY.out.bel hw).lower (Nat.zero_le _))
  have Sxn : ∀ w', Bel (bw w) w' → Calls Tryd.prog 73 #[(.pointer pu), (.pointer (some ⟨w.heap.size, 0, none⟩))] w' (RetBool w' false) := fun w' hw => txn ▸ same_any x RT.nonE _ _ w' ((HX.out.bel hw).lower (Nat.zero_le _)) ((HN.out.bel hw).lower (Nat.zero_le _))
  have Sya : ∀ w', Bel (bw w) w' → Calls Tryd.prog 73 #[(.pointer pv), (.pointer (some ⟨w.heap.size + 1, 0, none⟩))] w' (RetBool w' false) := fun w' hw => tya ▸ same_any y RT.allE _ _ w' ((HY.out.bel hw).lower (Nat.zero_le _)) ((HA.out.bel hw).lower (Nat.zero_le _))
  have Syn : ∀ w', Bel (bw w) w' → Calls Tryd.prog 73 #[(.pointer pv), (.pointer (some ⟨w.heap.size, 0, none⟩))] w' (RetBool w' false) := fun w' hw => tyn ▸ same_any y RT.nonE _ _ w' ((HY.out.bel hw).lower (Nat.zero_le _)) ((HN.out.bel hw).lower (Nat.zero_le _))
  have Sxa : ∀ w', Bel (bw w) w' → Calls Tryd.prog 73 #[(.pointer pu), (.pointer (some ⟨w.heap.size + 1, 0, none⟩))] w' (RetBool w' false) := fun w' hw => txa ▸ same_any x RT.allE _ _ w' ((HX.out.bel hw).lower (Nat.zero_le _)) ((HA.out.bel hw).lower (Nat.zero_le _))
  clear hx hy0 txy txn tya tyn txa
  go_enter Tryd.func64, Tryd.ntmps64
  go_wp2_with (first | ((with_reducible refine (Sxy _ (by repeat (first | exact Bel.refl _ | refine bdn _ ?_))).mono ?_); rintro e w1 ⟨rfl, n1, rfl⟩) | ((with_reducible refine (Sxn _ (by repeat (first | exact Bel.refl _ | refine bdn _ ?_))).mono ?_); rintro e w1 ⟨rfl, n1, rfl⟩) | ((with_reducible refine (Sya _ (by repeat (first | exact Bel.refl _ | refine bdn _ ?_))).mono ?_); rintro e w1 ⟨rfl, n1, rfl⟩) | ((with_reducible refine (Syn _ (by repeat (first | exact Bel.refl _ | refine bdn _ ?_))).mono ?_); rintro e w1 ⟨rfl, n1, rfl⟩) | ((with_reducible refine (Sxa _ (by repeat (first | exact Bel.refl _ | refine bdn _ ?_))).mono ?_); rintro e w1 ⟨rfl, n1, rfl⟩))
  go_ret
  exact ⟨_, rfl, Tr.newAt 16 0 (by simp; omega) (by simp) (HX.out.bel (by repeat (first | exact Bel.refl _ | refine bdn _ ?_))) (HY.out.bel (by repeat (first | exact Bel.refl _ | refine bdn _ ?_))), (HB.out.trans (by repeat (first | exact Bel.refl _ | refine bdn _ ?_))).thenAlloc _⟩

set_option maxRecDepth 100000 in
set_option maxHeartbeats 1000000 in
theorem binary_15_0 (x y : RT) (u v : Value) (w : World) (base : Nat) (hx : Tr 91 w base x u) (hy0 : Tr 91 w base y v) (hb : base ≤ w.heap.size) (txy : x.same y = true) :
    Calls Tryd.prog 64 #[.int .i64 15, u, v] w (Ret 91 w base (RT.binary 15 x y)) := by
  have hr : RT.binary 15 x y = x := by simp [RT.binary, txy]
  rw [hr]
  clear hr
  obtain ⟨pu, rfl⟩ := hx.pointer
  obtain ⟨pv, rfl⟩ := hy0.pointer
  have HX := Lib.hid (binary_worlds w hx)
  have HY := Lib.hid (binary_worlds w hy0)
  have HN := Lib.hid (binary_none w base hb)
  have HA := Lib.hid (binary_all w base hb)
  have HB := Lib.hid (bw_bel w)
  have Sxy : ∀ w', Bel (bw w) w' → Calls Tryd.prog 73 #[(.pointer pu), (.pointer pv)] w' (RetBool w' true) := fun w' hw => txy ▸ same_any x y _ _ w' ((HX.out.bel hw).lower (Nat.zero_le _)) ((HY.out.bel hw).lower (Nat.zero_le _))
  clear hx hy0 txy
  go_enter Tryd.func64, Tryd.ntmps64
  go_wp2_with (first | ((with_reducible refine (Sxy _ (by repeat (first | exact Bel.refl _ | refine bdn _ ?_))).mono ?_); rintro e w1 ⟨rfl, n1, rfl⟩))
  go_ret
  exact ⟨_, rfl, HX.out.bel (by repeat (first | exact Bel.refl _ | refine bdn _ ?_)), HB.out.trans (by repeat (first | exact Bel.refl _ | refine bdn _ ?_))⟩

set_option maxRecDepth 100000 in
set_option maxHeartbeats 1000000 in
theorem binary_15_1 (x y : RT) (u v : Value) (w : World) (base : Nat) (hx : Tr 91 w base x u) (hy0 : Tr 91 w base y v) (hb : base ≤ w.heap.size) (txy : x.same y = false) (tya : y.same RT.allE = true) :
    Calls Tryd.prog 64 #[.int .i64 15, u, v] w (Ret 91 w base (RT.binary 15 x y)) := by
  have hr : RT.binary 15 x y = x := by simp [RT.binary, txy, tya]
  rw [hr]
  clear hr
  obtain ⟨pu, rfl⟩ := hx.pointer
  obtain ⟨pv, rfl⟩ := hy0.pointer
  have HX := Lib.hid (binary_worlds w hx)
  have HY := Lib.hid (binary_worlds w hy0)
  have HN := Lib.hid (binary_none w base hb)
  have HA := Lib.hid (binary_all w base hb)
  have HB := Lib.hid (bw_bel w)
  have Sxy : ∀ w', Bel (bw w) w' → Calls Tryd.prog 73 #[(.pointer pu), (.pointer pv)] w' (RetBool w' false) := fun w' hw => txy ▸ same_any x y _ _ w' ((HX.out.bel hw).lower (Nat.zero_le _)) ((HY.out.bel hw).lower (Nat.zero_le _))
  have Sya : ∀ w', Bel (bw w) w' → Calls Tryd.prog 73 #[(.pointer pv), (.pointer (some ⟨w.heap.size + 1, 0, none⟩))] w' (RetBool w' true) := fun w' hw => tya ▸ same_any y RT.allE _ _ w' ((HY.out.bel hw).lower (Nat.zero_le _)) ((HA.out.bel hw).lower (Nat.zero_le _))
  clear hx hy0 txy tya
  go_enter Tryd.func64, Tryd.ntmps64
  go_wp2_with (first | ((with_reducible refine (Sxy _ (by repeat (first | exact Bel.refl _ | refine bdn _ ?_))).mono ?_); rintro e w1 ⟨rfl, n1, rfl⟩) | ((with_reducible refine (Sya _ (by repeat (first | exact Bel.refl _ | refine bdn _ ?_))).mono ?_); rintro e w1 ⟨rfl, n1, rfl⟩))
  go_ret
  exact ⟨_, rfl, HX.out.bel (by repeat (first | exact Bel.refl _ | refine bdn _ ?_)), HB.out.trans (by repeat (first | exact Bel.refl _ | refine bdn _ ?_))⟩

set_option maxRecDepth 100000 in
set_option maxHeartbeats 1000000 in
theorem binary_15_2 (x y : RT) (u v : Value) (w : World) (base : Nat) (hx : Tr 91 w base x u) (hy0 : Tr 91 w base y v) (hb : base ≤ w.heap.size) (txy : x.same y = false) (tya : y.same RT.allE = false) (txa : x.same RT.allE = true) :
    Calls Tryd.prog 64 #[.int .i64 15, u, v] w (Ret 91 w base (RT.binary 15 x y)) := by
  have hr : RT.binary 15 x y = y := by simp [RT.binary, txy, tya, txa]
  rw [hr]
  clear hr
  obtain ⟨pu, rfl⟩ := hx.pointer
  obtain ⟨pv, rfl⟩ := hy0.pointer
  have HX := Lib.hid (binary_worlds w hx)
  have HY := Lib.hid (binary_worlds w hy0)
  have HN := Lib.hid (binary_none w base hb)
  have HA := Lib.hid (binary_all w base hb)
  have HB := Lib.hid (bw_bel w)
  have Sxy : ∀ w', Bel (bw w) w' → Calls Tryd.prog 73 #[(.pointer pu), (.pointer pv)] w' (RetBool w' false) := fun w' hw => txy ▸ same_any x y _ _ w' ((HX.out.bel hw).lower (Nat.zero_le _)) ((HY.out.bel hw).lower (Nat.zero_le _))
  have Sya : ∀ w', Bel (bw w) w' → Calls Tryd.prog 73 #[(.pointer pv), (.pointer (some ⟨w.heap.size + 1, 0, none⟩))] w' (RetBool w' false) := fun w' hw => tya ▸ same_any y RT.allE _ _ w' ((HY.out.bel hw).lower (Nat.zero_le _)) ((HA.out.bel hw).lower (Nat.zero_le _))
  have Sxa : ∀ w', Bel (bw w) w' → Calls Tryd.prog 73 #[(.pointer pu), (.pointer (some ⟨w.heap.size + 1, 0, none⟩))] w' (RetBool w' true) := fun w' hw => txa ▸ same_any x RT.allE _ _ w' ((HX.out.bel hw).lower (Nat.zero_le _)) ((HA.out.bel hw).lower (Nat.zero_le _))
  clear hx hy0 txy tya txa
  go_enter Tryd.func64, Tryd.ntmps64
  go_wp2_with (first | ((with_reducible refine (Sxy _ (by repeat (first | exact Bel.refl _ | refine bdn _ ?_))).mono ?_); rintro e w1 ⟨rfl, n1, rfl⟩) | ((with_reducible refine (Sya _ (by repeat (first | exact Bel.refl _ | refine bdn _ ?_))).mono ?_); rintro e w1 ⟨rfl, n1, rfl⟩) | ((with_reducible refine (Sxa _ (by repeat (first | exact Bel.refl _ | refine bdn _ ?_))).mono ?_); rintro e w1 ⟨rfl, n1, rfl⟩))
  go_ret
  exact ⟨_, rfl, HY.out.bel (by repeat (first | exact Bel.refl _ | refine bdn _ ?_)), HB.out.trans (by repeat (first | exact Bel.refl _ | refine bdn _ ?_))⟩

set_option maxRecDepth 100000 in
set_option maxHeartbeats 1000000 in
theorem binary_15_3 (x y : RT) (u v : Value) (w : World) (base : Nat) (hx : Tr 91 w base x u) (hy0 : Tr 91 w base y v) (hb : base ≤ w.heap.size) (txy : x.same y = false) (tya : y.same RT.allE = false) (txa : x.same RT.allE = false) (txn : x.same RT.nonE = true) :
    Calls Tryd.prog 64 #[.int .i64 15, u, v] w (Ret 91 w base (RT.binary 15 x y)) := by
  have hr : RT.binary 15 x y = RT.nonE := by simp [RT.binary, txy, tya, txa, txn]
  rw [hr]
  clear hr
  obtain ⟨pu, rfl⟩ := hx.pointer
  obtain ⟨pv, rfl⟩ := hy0.pointer
  have HX := Lib.hid (binary_worlds w hx)
  have HY := Lib.hid (binary_worlds w hy0)
  have HN := Lib.hid (binary_none w base hb)
  have HA := Lib.hid (binary_all w base hb)
  have HB := Lib.hid (bw_bel w)
  have Sxy : ∀ w', Bel (bw w) w' → Calls Tryd.prog 73 #[(.pointer pu), (.pointer pv)] w' (RetBool w' false) := fun w' hw => txy ▸ same_any x y _ _ w' ((HX.out.bel hw).lower (Nat.zero_le _)) ((HY.out.bel hw).lower (Nat.zero_le _))
  have Sya : ∀ w', Bel (bw w) w' → Calls Tryd.prog 73 #[(.pointer pv), (.pointer (some ⟨w.heap.size + 1, 0, none⟩))] w' (RetBool w' false) := fun w' hw => tya ▸ same_any y RT.allE _ _ w' ((HY.out.bel hw).lower (Nat.zero_le _)) ((HA.out.bel hw).lower (Nat.zero_le _))
  have Sxa : ∀ w', Bel (bw w) w' → Calls Tryd.prog 73 #[(.pointer pu), (.pointer (some ⟨w.heap.size + 1, 0, none⟩))] w' (RetBool w' false) := fun w' hw => txa ▸ same_any x RT.allE _ _ w' ((HX.out.bel hw).lower (Nat.zero_le _)) ((HA.out.bel hw).lower (Nat.zero_le _))
  have Sxn : ∀ w', Bel (bw w) w' → Calls Tryd.prog 73 #[(.pointer pu), (.pointer (some ⟨w.heap.size, 0, none⟩))] w' (RetBool w' true) := fun w' hw => txn ▸ same_any x RT.nonE _ _ w' ((HX.out.bel hw).lower (Nat.zero_le _)) ((HN.out.bel hw).lower (Nat.zero_le _))
  clear hx hy0 txy tya txa txn
  go_enter Tryd.func64, Tryd.ntmps64
  go_wp2_with (first | ((with_reducible refine (Sxy _ (by repeat (first | exact Bel.refl _ | refine bdn _ ?_))).mono ?_); rintro e w1 ⟨rfl, n1, rfl⟩) | ((with_reducible refine (Sya _ (by repeat (first | exact Bel.refl _ | refine bdn _ ?_))).mono ?_); rintro e w1 ⟨rfl, n1, rfl⟩) | ((with_reducible refine (Sxa _ (by repeat (first | exact Bel.refl _ | refine bdn _ ?_))).mono ?_); rintro e w1 ⟨rfl, n1, rfl⟩) | ((with_reducible refine (Sxn _ (by repeat (first | exact Bel.refl _ | refine bdn _ ?_))).mono ?_); rintro e w1 ⟨rfl, n1, rfl⟩))
  go_ret
  exact ⟨_, rfl, HN.out.bel (by repeat (first | exact Bel.refl _ | refine bdn _ ?_)), HB.out.trans (by repeat (first | exact Bel.refl _ | refine bdn _ ?_))⟩

set_option maxRecDepth 100000 in
set_option maxHeartbeats 1000000 in
theorem binary_15_4 (x y : RT) (u v : Value) (w : World) (base : Nat) (hx : Tr 91 w base x u) (hy0 : Tr 91 w base y v) (hb : base ≤ w.heap.size) (txy : x.same y = false) (tya : y.same RT.allE = false) (txa : x.same RT.allE = false) (txn : x.same RT.nonE = false) (tyn : y.same RT.nonE = true) :
    Calls Tryd.prog 64 #[.int .i64 15, u, v] w (Ret 91 w base (RT.binary 15 x y)) := by
  have hr : RT.binary 15 x y = RT.nonE := by simp [RT.binary, txy, tya, txa, txn, tyn]
  rw [hr]
  clear hr
  obtain ⟨pu, rfl⟩ := hx.pointer
  obtain ⟨pv, rfl⟩ := hy0.pointer
  have HX := Lib.hid (binary_worlds w hx)
  have HY := Lib.hid (binary_worlds w hy0)
  have HN := Lib.hid (binary_none w base hb)
  have HA := Lib.hid (binary_all w base hb)
  have HB := Lib.hid (bw_bel w)
  have Sxy : ∀ w', Bel (bw w) w' → Calls Tryd.prog 73 #[(.pointer pu), (.pointer pv)] w' (RetBool w' false) := fun w' hw => txy ▸ same_any x y _ _ w' ((HX.out.bel hw).lower (Nat.zero_le _)) ((HY.out.bel hw).lower (Nat.zero_le _))
  have Sya : ∀ w', Bel (bw w) w' → Calls Tryd.prog 73 #[(.pointer pv), (.pointer (some ⟨w.heap.size + 1, 0, none⟩))] w' (RetBool w' false) := fun w' hw => tya ▸ same_any y RT.allE _ _ w' ((HY.out.bel hw).lower (Nat.zero_le _)) ((HA.out.bel hw).lower (Nat.zero_le _))
  have Sxa : ∀ w', Bel (bw w) w' → Calls Tryd.prog 73 #[(.pointer pu), (.pointer (some ⟨w.heap.size + 1, 0, none⟩))] w' (RetBool w' false) := fun w' hw => txa ▸ same_any x RT.allE _ _ w' ((HX.out.bel hw).lower (Nat.zero_le _)) ((HA.out.bel hw).lower (Nat.zero_le _))
  have Sxn : ∀ w', Bel (bw w) w' → Calls Tryd.prog 73 #[(.pointer pu), (.pointer (some ⟨w.heap.size, 0, none⟩))] w' (RetBool w' false) := fun w' hw => txn ▸ same_any x RT.nonE _ _ w' ((HX.out.bel hw).lower (Nat.zero_le _)) ((HN.out.bel hw).lower (Nat.zero_le _))
  have Syn : ∀ w', Bel (bw w) w' → Calls Tryd.prog 73 #[(.pointer pv), (.pointer (some ⟨w.heap.size, 0, none⟩))] w' (RetBool w' true) := fun w' hw => tyn ▸ same_any y RT.nonE _ _ w' ((HY.out.bel hw).lower (Nat.zero_le _)) ((HN.out.bel hw).lower (Nat.zero_le _))
  clear hx hy0 txy tya txa txn tyn
  go_enter Tryd.func64, Tryd.ntmps64
  go_wp2_with (first | ((with_reducible refine (Sxy _ (by repeat (first | exact Bel.refl _ | refine bdn _ ?_))).mono ?_); rintro e w1 ⟨rfl, n1, rfl⟩) | ((with_reducible refine (Sya _ (by repeat (first | exact Bel.refl _ | refine bdn _ ?_))).mono ?_); rintro e w1 ⟨rfl, n1, rfl⟩) | ((with_reducible refine (Sxa _ (by repeat (first | exact Bel.refl _ | refine bdn _ ?_))).mono ?_); rintro e w1 ⟨rfl, n1, rfl⟩) | ((with_reducible refine (Sxn _ (by repeat (first | exact Bel.refl _ | refine bdn _ ?_))).mono ?_); rintro e w1 ⟨rfl, n1, rfl⟩) | ((with_reducible refine (Syn _ (by repeat (first | exact Bel.refl _ | refine bdn _ ?_))).mono ?_); rintro e w1 ⟨rfl, n1, rfl⟩))
  go_ret
  exact ⟨_, rfl, HN.out.bel (by repeat (first | exact Bel.refl _ | refine bdn _ ?_)), HB.out.trans (by repeat (first | exact Bel.refl _ | refine bdn _ ?_))⟩

set_option maxRecDepth 100000 in
set_option maxHeartbeats 1000000 in
theorem binary_15_5 (x y : RT) (u v : Value) (w : World) (base : Nat) (hx : Tr 91 w base x u) (hy0 : Tr 91 w base y v) (hb : base ≤ w.heap.size) (txy : x.same y = false) (tya : y.same RT.allE = false) (txa : x.same RT.allE = false) (txn : x.same RT.nonE = false) (tyn : y.same RT.nonE = false) :
    Calls Tryd.prog 64 #[.int .i64 15, u, v] w (Ret 91 w base (RT.binary 15 x y)) := by
  have hr : RT.binary 15 x y = .node 15 0 x y := by simp [RT.binary, txy, tya, txa, txn, tyn]
  rw [hr]
  clear hr
  obtain ⟨pu, rfl⟩ := hx.pointer
  obtain ⟨pv, rfl⟩ := hy0.pointer
  have HX := Lib.hid (binary_worlds w hx)
  have HY := Lib.hid (binary_worlds w hy0)
  have HN := Lib.hid (binary_none w base hb)
  have HA := Lib.hid (binary_all w base hb)
  have HB := Lib.hid (bw_bel w)
  have Sxy : ∀ w', Bel (bw w) w' → Calls Tryd.prog 73 #[(.pointer pu), (.pointer pv)] w' (RetBool w' false) := fun w' hw => txy ▸ same_any x y _ _ w' ((HX.out.bel hw).lower (Nat.zero_le _)) ((HY.out.bel hw).lower (Nat.zero_le _))
  have Sya : ∀ w', Bel (bw w) w' → Calls Tryd.prog 73 #[(.pointer pv), (.pointer (some ⟨w.heap.size + 1, 0, none⟩))] w' (RetBool w' false) := fun w' hw => tya ▸ same_any y RT.allE _ _ w' ((HY.out.bel hw).lower (Nat.zero_le _)) ((HA.out.bel hw).lower (Nat.zero_le _))
  have Sxa : ∀ w', Bel (bw w) w' → Calls Tryd.prog 73 #[(.pointer pu), (.pointer (some ⟨w.heap.size + 1, 0, none⟩))] w' (RetBool w' false) := fun w' hw => txa ▸ same_any x RT.allE _ _ w' ((HX.out.bel hw).lower (Nat.zero_le _)) ((HA.out.bel hw).lower (Nat.zero_le _))
  have Sxn : ∀ w', Bel (bw w) w' → Calls Tryd.prog 73 #[(.pointer pu), (.pointer (some ⟨w.heap.size, 0, none⟩))] w' (RetBool w' false) := fun w' hw => txn ▸ same_any x RT.nonE _ _ w' ((HX.out.bel hw).lower (Nat.zero_le _)) ((HN.out.bel hw).lower (Nat.zero_le _))
  have Syn : ∀ w', Bel (bw w) w' → Calls Tryd.prog 73 #[(.pointer pv), (.pointer (some ⟨w.heap.size, 0, none⟩))] w' (RetBool w' false) := fun w' hw => tyn ▸ same_any y RT.nonE _ _ w' ((HY.out.bel hw).lower (Nat.zero_le _)) ((HN.out.bel hw).lower (Nat.zero_le _))
  clear hx hy0 txy tya txa txn tyn
  go_enter Tryd.func64, Tryd.ntmps64
  go_wp2_with (first | ((with_reducible refine (Sxy _ (by repeat (first | exact Bel.refl _ | refine bdn _ ?_))).mono ?_); rintro e w1 ⟨rfl, n1, rfl⟩) | ((with_reducible refine (Sya _ (by repeat (first | exact Bel.refl _ | refine bdn _ ?_))).mono ?_); rintro e w1 ⟨rfl, n1, rfl⟩) | ((with_reducible refine (Sxa _ (by repeat (first | exact Bel.refl _ | refine bdn _ ?_))).mono ?_); rintro e w1 ⟨rfl, n1, rfl⟩) | ((with_reducible refine (Sxn _ (by repeat (first | exact Bel.refl _ | refine bdn _ ?_))).mono ?_); rintro e w1 ⟨rfl, n1, rfl⟩) | ((with_reducible refine (Syn _ (by repeat (first | exact Bel.refl _ | refine bdn _ ?_))).mono ?_); rintro e w1 ⟨rfl, n1, rfl⟩))
  go_ret
  exact ⟨_, rfl, Tr.newAt 15 0 (by simp; omega) (by simp) (HX.out.bel (by repeat (first | exact Bel.refl _ | refine bdn _ ?_))) (HY.out.bel (by repeat (first | exact Bel.refl _ | refine bdn _ ?_))), (HB.out.trans (by repeat (first | exact Bel.refl _ | refine bdn _ ?_))).thenAlloc _⟩

set_option maxRecDepth 100000 in
set_option maxHeartbeats 1000000 in
theorem binary_14_0 (x y : RT) (u v : Value) (w : World) (base : Nat) (hx : Tr 91 w base x u) (hy0 : Tr 91 w base y v) (hb : base ≤ w.heap.size) (txy : x.same y = true) :
    Calls Tryd.prog 64 #[.int .i64 14, u, v] w (Ret 91 w base (RT.binary 14 x y)) := by
  have hr : RT.binary 14 x y = x := by simp [RT.binary, txy]
  rw [hr]
  clear hr
  obtain ⟨pu, rfl⟩ := hx.pointer
  obtain ⟨pv, rfl⟩ := hy0.pointer
  have HX := Lib.hid (binary_worlds w hx)
  have HY := Lib.hid (binary_worlds w hy0)
  have HN := Lib.hid (binary_none w base hb)
  have HA := Lib.hid (binary_all w base hb)
  have HB := Lib.hid (bw_bel w)
  have Sxy : ∀ w', Bel (bw w) w' → Calls Tryd.prog 73 #[(.pointer pu), (.pointer pv)] w' (RetBool w' true) := fun w' hw => txy ▸ same_any x y _ _ w' ((HX.out.bel hw).lower (Nat.zero_le _)) ((HY.out.bel hw).lower (Nat.zero_le _))
  clear hx hy0 txy
  go_enter Tryd.func64, Tryd.ntmps64
  go_wp2_with (first | ((with_reducible refine (Sxy _ (by repeat (first | exact Bel.refl _ | refine bdn _ ?_))).mono ?_); rintro e w1 ⟨rfl, n1, rfl⟩))
  go_ret
  exact ⟨_, rfl, HX.out.bel (by repeat (first | exact Bel.refl _ | refine bdn _ ?_)), HB.out.trans (by repeat (first | exact Bel.refl _ | refine bdn _ ?_))⟩

set_option maxRecDepth 100000 in
set_option maxHeartbeats 1000000 in
theorem binary_14_1 (x y : RT) (u v : Value) (w : World) (base : Nat) (hx : Tr 91 w base x u) (hy0 : Tr 91 w base y v) (hb : base ≤ w.heap.size) (txy : x.same y = false) (tyn : y.same RT.nonE = true) :
    Calls Tryd.prog 64 #[.int .i64 14, u, v] w (Ret 91 w base (RT.binary 14 x y)) := by
  have hr : RT.binary 14 x y = x := by simp [RT.binary, txy, tyn]
  rw [hr]
  clear hr
  obtain ⟨pu, rfl⟩ := hx.pointer
  obtain ⟨pv, rfl⟩ := hy0.pointer
  have HX := Lib.hid (binary_worlds w hx)
  have HY := Lib.hid (binary_worlds w hy0)
  have HN := Lib.hid (binary_none w base hb)
  have HA := Lib.hid (binary_all w base hb)
  have HB := Lib.hid (bw_bel w)
  have Sxy : ∀ w', Bel (bw w) w' → Calls Tryd.prog 73 #[(.pointer pu), (.pointer pv)] w' (RetBool w' false) := fun w' hw => txy ▸ same_any x y _ _ w' ((HX.out.bel hw).lower (Nat.zero_le _)) ((HY.out.bel hw).lower (Nat.zero_le _))
  have Syn : ∀ w', Bel (bw w) w' → Calls Tryd.prog 73 #[(.pointer pv), (.pointer (some ⟨w.heap.size, 0, none⟩))] w' (RetBool w' true) := fun w' hw => tyn ▸ same_any y RT.nonE _ _ w' ((HY.out.bel hw).lower (Nat.zero_le _)) ((HN.out.bel hw).lower (Nat.zero_le _))
  clear hx hy0 txy tyn
  go_enter Tryd.func64, Tryd.ntmps64
  go_wp2_with (first | ((with_reducible refine (Sxy _ (by repeat (first | exact Bel.refl _ | refine bdn _ ?_))).mono ?_); rintro e w1 ⟨rfl, n1, rfl⟩) | ((with_reducible refine (Syn _ (by repeat (first | exact Bel.refl _ | refine bdn _ ?_))).mono ?_); rintro e w1 ⟨rfl, n1, rfl⟩))
  go_ret
  exact ⟨_, rfl, HX.out.bel (by repeat (first | exact Bel.refl _ | refine bdn _ ?_)), HB.out.trans (by repeat (first | exact Bel.refl _ | refine bdn _ ?_))⟩

set_option maxRecDepth 100000 in
set_option maxHeartbeats 1000000 in
theorem binary_14_2 (x y : RT) (u v : Value) (w : World) (base : Nat) (hx : Tr 91 w base x u) (hy0 : Tr 91 w base y v) (hb : base ≤ w.heap.size) (txy : x.same y = false) (tyn : y.same RT.nonE = false) (txn : x.same RT.nonE = true) :
    Calls Tryd.prog 64 #[.int .i64 14, u, v] w (Ret 91 w base (RT.binary 14 x y)) := by
  have hr : RT.binary 14 x y = y := by simp [RT.binary, txy, tyn, txn]
  rw [hr]
  clear hr
  obtain ⟨pu, rfl⟩ := hx.pointer
  obtain ⟨pv, rfl⟩ := hy0.pointer
  have HX := Lib.hid (binary_worlds w hx)
  have HY := Lib.hid (binary_worlds w hy0)
  have HN := Lib.hid (binary_none w base hb)
  have HA := Lib.hid (binary_all w base hb)
  have HB := Lib.hid (bw_bel w)
  have Sxy : ∀ w', Bel (bw w) w' → Calls Tryd.prog 73 #[(.pointer pu), (.pointer pv)] w' (RetBool w' false) := fun w' hw => txy ▸ same_any x y _ _ w' ((HX.out.bel hw).lower (Nat.zero_le _)) ((HY.out.bel hw).lower (Nat.zero_le _))
  have Syn : ∀ w', Bel (bw w) w' → Calls Tryd.prog 73 #[(.pointer pv), (.pointer (some ⟨w.heap.size, 0, none⟩))] w' (RetBool w' false) := fun w' hw => tyn ▸ same_any y RT.nonE _ _ w' ((HY.out.bel hw).lower (Nat.zero_le _)) ((HN.out.bel hw).lower (Nat.zero_le _))
  have Sxn : ∀ w', Bel (bw w) w' → Calls Tryd.prog 73 #[(.pointer pu), (.pointer (some ⟨w.heap.size, 0, none⟩))] w' (RetBool w' true) := fun w' hw => txn ▸ same_any x RT.nonE _ _ w' ((HX.out.bel hw).lower (Nat.zero_le _)) ((HN.out.bel hw).lower (Nat.zero_le _))
  clear hx hy0 txy tyn txn
  go_enter Tryd.func64, Tryd.ntmps64
  go_wp2_with (first | ((with_reducible refine (Sxy _ (by repeat (first | exact Bel.refl _ | refine bdn _ ?_))).mono ?_); rintro e w1 ⟨rfl, n1, rfl⟩) | ((with_reducible refine (Syn _ (by repeat (first | exact Bel.refl _ | refine bdn _ ?_))).mono ?_); rintro e w1 ⟨rfl, n1, rfl⟩) | ((with_reducible refine (Sxn _ (by repeat (first | exact Bel.refl _ | refine bdn _ ?_))).mono ?_); rintro e w1 ⟨rfl, n1, rfl⟩))
  go_ret
  exact ⟨_, rfl, HY.out.bel (by repeat (first | exact Bel.refl _ | refine bdn _ ?_)), HB.out.trans (by repeat (first | exact Bel.refl _ | refine bdn _ ?_))⟩

set_option maxRecDepth 100000 in
set_option maxHeartbeats 1000000 in
theorem binary_14_3 (x y : RT) (u v : Value) (w : World) (base : Nat) (hx : Tr 91 w base x u) (hy0 : Tr 91 w base y v) (hb : base ≤ w.heap.size) (txy : x.same y = false) (tyn : y.same RT.nonE = false) (txn : x.same RT.nonE = false) (txa : x.same RT.allE = true) :
    Calls Tryd.prog 64 #[.int .i64 14, u, v] w (Ret 91 w base (RT.binary 14 x y)) := by
  have hr : RT.binary 14 x y = RT.allE := by simp [RT.binary, txy, tyn, txn, txa]
  rw [hr]
  clear hr
  obtain ⟨pu, rfl⟩ := hx.pointer
  obtain ⟨pv, rfl⟩ := hy0.pointer
  have HX := Lib.hid (binary_worlds w hx)
  have HY := Lib.hid (binary_worlds w hy0)
  have HN := Lib.hid (binary_none w base hb)
  have HA := Lib.hid (binary_all w base hb)
  have HB := Lib.hid (bw_bel w)
  have Sxy : ∀ w', Bel (bw w) w' → Calls Tryd.prog 73 #[(.pointer pu), (.pointer pv)] w' (RetBool w' false) := fun w' hw => txy ▸ same_any x y _ _ w' ((HX.out.bel hw).lower (Nat.zero_le _)) ((HY.out.bel hw).lower (Nat.zero_le _))
  have Syn : ∀ w', Bel (bw w) w' → Calls Tryd.prog 73 #[(.pointer pv), (.pointer (some ⟨w.heap.size, 0, none⟩))] w' (RetBool w' false) := fun w' hw => tyn ▸ same_any y RT.nonE _ _ w' ((HY.out.bel hw).lower (Nat.zero_le _)) ((HN.out.bel hw).lower (Nat.zero_le _))
  have Sxn : ∀ w', Bel (bw w) w' → Calls Tryd.prog 73 #[(.pointer pu), (.pointer (some ⟨w.heap.size, 0, none⟩))] w' (RetBool w' false) := fun w' hw => txn ▸ same_any x RT.nonE _ _ w' ((HX.out.bel hw).lower (Nat.zero_le _)) ((HN.out.bel hw).lower (Nat.zero_le _))
  have Sxa : ∀ w', Bel (bw w) w' → Calls Tryd.prog 73 #[(.pointer pu), (.pointer (some ⟨w.heap.size + 1, 0, none⟩))] w' (RetBool w' true) := fun w' hw => txa ▸ same_any x RT.allE _ _ w' ((HX.out.bel hw).lower (Nat.zero_le _)) ((HA.out.bel hw).lower (Nat.zero_le _))
  clear hx hy0 txy tyn txn txa
  go_enter Tryd.func64, Tryd.ntmps64
  go_wp2_with (first | ((with_reducible refine (Sxy _ (by repeat (first | exact Bel.refl _ | refine bdn _ ?_))).mono ?_); rintro e w1 ⟨rfl, n1, rfl⟩) | ((with_reducible refine (Syn _ (by repeat (first | exact Bel.refl _ | refine bdn _ ?_))).mono ?_); rintro e w1 ⟨rfl, n1, rfl⟩) | ((with_reducible refine (Sxn _ (by repeat (first | exact Bel.refl _ | refine bdn _ ?_))).mono ?_); rintro e w1 ⟨rfl, n1, rfl⟩) | ((with_reducible refine (Sxa _ (by repeat (first | exact Bel.refl _ | refine bdn _ ?_))).mono ?_); rintro e w1 ⟨rfl, n1, rfl⟩))
  go_ret
  exact ⟨_, rfl, HA.out.bel (by repeat (first | exact Bel.refl _ | refine bdn _ ?_)), HB.out.trans (by repeat (first | exact Bel.refl _ | refine bdn _ ?_))⟩

set_option maxRecDepth 100000 in
set_option maxHeartbeats 1000000 in
theorem binary_14_4 (x y : RT) (u v : Value) (w : World) (base : Nat) (hx : Tr 91 w base x u) (hy0 : Tr 91 w base y v) (hb : base ≤ w.heap.size) (txy : x.same y = false) (tyn : y.same RT.nonE = false) (txn : x.same RT.nonE = false) (txa : x.same RT.allE = false) (tya : y.same RT.allE = true) :
    Calls Tryd.prog 64 #[.int .i64 14, u, v] w (Ret 91 w base (RT.binary 14 x y)) := by
  have hr : RT.binary 14 x y = RT.allE := by simp [RT.binary, txy, tyn, txn, txa, tya]
  rw [hr]
  clear hr
  obtain ⟨pu, rfl⟩ := hx.pointer
  obtain ⟨pv, rfl⟩ := hy0.pointer
  have HX := Lib.hid (binary_worlds w hx)
  have HY := Lib.hid (binary_worlds w hy0)
  have HN := Lib.hid (binary_none w base hb)
  have HA := Lib.hid (binary_all w base hb)
  have HB := Lib.hid (bw_bel w)
  have Sxy : ∀ w', Bel (bw w) w' → Calls Tryd.prog 73 #[(.pointer pu), (.pointer pv)] w' (RetBool w' false) := fun w' hw => txy ▸ same_any x y _ _ w' ((HX.out.bel hw).lower (Nat.zero_le _)) ((HY.out.bel hw).lower (Nat.zero_le _))
  have Syn : ∀ w', Bel (bw w) w' → Calls Tryd.prog 73 #[(.pointer pv), (.pointer (some ⟨w.heap.size, 0, none⟩))] w' (RetBool w' false) := fun w' hw => tyn ▸ same_any y RT.nonE _ _ w' ((HY.out.bel hw).lower (Nat.zero_le _)) ((HN.out.bel hw).lower (Nat.zero_le _))
  have Sxn : ∀ w', Bel (bw w) w' → Calls Tryd.prog 73 #[(.pointer pu), (.pointer (some ⟨w.heap.size, 0, none⟩))] w' (RetBool w' false) := fun w' hw => txn ▸ same_any x RT.nonE _ _ w' ((HX.out.bel hw).lower (Nat.zero_le _)) ((HN.out.bel hw).lower (Nat.zero_le _))
  have Sxa : ∀ w', Bel (bw w) w' → Calls Tryd.prog 73 #[(.pointer pu), (.pointer (some ⟨w.heap.size + 1, 0, none⟩))] w' (RetBool w' false) := fun w' hw => txa ▸ same_any x RT.allE _ _ w' ((HX.out.bel hw).lower (Nat.zero_le _)) ((HA.out.bel hw).lower (Nat.zero_le _))
  have Sya : ∀ w', Bel (bw w) w' → Calls Tryd.prog 73 #[(.pointer pv), (.pointer (some ⟨w.heap.size + 1, 0, none⟩))] w' (RetBool w' true) := fun w' hw => tya ▸ same_any y RT.allE _ _ w' ((HY.out.bel hw).lower (Nat.zero_le _)) ((HA.out.bel hw).lower (Nat.zero_le _))
  clear hx hy0 txy tyn txn txa tya
  go_enter Tryd.func64, Tryd.ntmps64
  go_wp2_with (first | ((with_reducible refine (Sxy _ (by repeat (first | exact Bel.refl _ | refine bdn _ ?_))).mono ?_); rintro e w1 ⟨rfl, n1, rfl⟩) | ((with_reducible refine (Syn _ (by repeat (first | exact Bel.refl _ | refine bdn _ ?_))).mono ?_); rintro e w1 ⟨rfl, n1, rfl⟩) | ((with_reducible refine (Sxn _ (by repeat (first | exact Bel.refl _ | refine bdn _ ?_))).mono ?_); rintro e w1 ⟨rfl, n1, rfl⟩) | ((with_reducible refine (Sxa _ (by repeat (first | exact Bel.refl _ | refine bdn _ ?_))).mono ?_); rintro e w1 ⟨rfl, n1, rfl⟩) | ((with_reducible refine (Sya _ (by repeat (first | exact Bel.refl _ | refine bdn _ ?_))).mono ?_); rintro e w1 ⟨rfl, n1, rfl⟩))
  go_ret
  exact ⟨_, rfl, HA.out.bel (by repeat (first | exact Bel.refl _ | refine bdn _ ?_)), HB.out.trans (by repeat (first | exact Bel.refl _ | refine bdn _ ?_))⟩

set_option maxRecDepth 100000 in
set_option maxHeartbeats 1000000 in
theorem binary_14_5 (x y : RT) (u v : Value) (w : World) (base : Nat) (hx : Tr 91 w base x u) (hy0 : Tr 91 w base y v) (hb : base ≤ w.heap.size) (txy : x.same y = false) (tyn : y.same RT.nonE = false) (txn : x.same RT.nonE = false) (txa : x.same RT.allE = false) (tya : y.same RT.allE = false) :
    Calls Tryd.prog 64 #[.int .i64 14, u, v] w (Ret 91 w base (RT.binary 14 x y)) := by
  have hr : RT.binary 14 x y = .node 14 0 x y := by simp [RT.binary, txy, tyn, txn, txa, tya]
  rw [hr]
  clear hr
  obtain ⟨pu, rfl⟩ := hx.pointer
  obtain ⟨pv, rfl⟩ := hy0.pointer
  have HX := Lib.hid (binary_worlds w hx)
  have HY := Lib.hid (binary_worlds w hy0)
  have HN := Lib.hid (binary_none w base hb)
  have HA := Lib.hid (binary_all w base hb)
  have HB := Lib.hid (bw_bel w)
  have Sxy : ∀ w', Bel (bw w) w' → Calls Tryd.prog 73 #[(.pointer pu), (.pointer pv)] w' (RetBool w' false) := fun w' hw => txy ▸ same_any x y _ _ w' ((HX.out.bel hw).lower (Nat.zero_le _)) ((HY.out.bel hw).lower (Nat.zero_le _))
  have Syn : ∀ w', Bel (bw w) w' → Calls Tryd.prog 73 #[(.pointer pv), (.pointer (some ⟨w.heap.size, 0, none⟩))] w' (RetBool w' false) := fun w' hw => tyn ▸ same_any y RT.nonE _ _ w' ((HY.out.bel hw).lower (Nat.zero_le _)) ((HN.out.bel hw).lower (Nat.zero_le _))
  have Sxn : ∀ w', Bel (bw w) w' → Calls Tryd.prog 73 #[(.pointer pu), (.pointer (some ⟨w.heap.size, 0, none⟩))] w' (RetBool w' false) := fun w' hw => txn ▸ same_any x RT.nonE _ _ w' ((HX.out.bel hw).lower (Nat.zero_le _)) ((HN.out.bel hw).lower (Nat.zero_le _))
  have Sxa : ∀ w', Bel (bw w) w' → Calls Tryd.prog 73 #[(.pointer pu), (.pointer (some ⟨w.heap.size + 1, 0, none⟩))] w' (RetBool w' false) := fun w' hw => txa ▸ same_any x RT.allE _ _ w' ((HX.out.bel hw).lower (Nat.zero_le _)) ((HA.out.bel hw).lower (Nat.zero_le _))
  have Sya : ∀ w', Bel (bw w) w' → Calls Tryd.prog 73 #[(.pointer pv), (.pointer (some ⟨w.heap.size + 1, 0, none⟩))] w' (RetBool w' false) := fun w' hw => tya ▸ same_any y RT.allE _ _ w' ((HY.out.bel hw).lower (Nat.zero_le _)) ((HA.out.bel hw).lower (Nat.zero_le _))
  clear hx hy0 txy tyn txn txa tya
  go_enter Tryd.func64, Tryd.ntmps64
  go_wp2_with (first | ((with_reducible refine (Sxy _ (by repeat (first | exact Bel.refl _ | refine bdn _ ?_))).mono ?_); rintro e w1 ⟨rfl, n1, rfl⟩) | ((with_reducible refine (Syn _ (by repeat (first | exact Bel.refl _ | refine bdn _ ?_))).mono ?_); rintro e w1 ⟨rfl, n1, rfl⟩) | ((with_reducible refine (Sxn _ (by repeat (first | exact Bel.refl _ | refine bdn _ ?_))).mono ?_); rintro e w1 ⟨rfl, n1, rfl⟩) | ((with_reducible refine (Sxa _ (by repeat (first | exact Bel.refl _ | refine bdn _ ?_))).mono ?_); rintro e w1 ⟨rfl, n1, rfl⟩) | ((with_reducible refine (Sya _ (by repeat (first | exact Bel.refl _ | refine bdn _ ?_))).mono ?_); rintro e w1 ⟨rfl, n1, rfl⟩))
  go_ret
  exact ⟨_, rfl, Tr.newAt 14 0 (by simp; omega) (by simp) (HX.out.bel (by repeat (first | exact Bel.refl _ | refine bdn _ ?_))) (HY.out.bel (by repeat (first | exact Bel.refl _ | refine bdn _ ?_))), (HB.out.trans (by repeat (first | exact Bel.refl _ | refine bdn _ ?_))).thenAlloc _⟩

theorem binary_any {x y : RT} (hx : Sh x) (hy : Sh y) (k : Int) (u v : Value) (w : World) (base : Nat) (h14 : 14 ≤ k) (h16 : k ≤ 16) (tx : Tr 91 w base x u) (ty : Tr 91 w base y v) (hb : base ≤ w.heap.size) :
    Calls Tryd.prog 64 #[.int .i64 k, u, v] w (Ret 91 w base (RT.binary k x y)) := by
  have hk : k = 16 ∨ k = 15 ∨ k = 14 := by omega
  rcases hk with rfl | rfl | rfl
  · by_cases txy : x.same y = true
    · exact binary_16_0 x y u v w base tx ty hb  txy
    · replace txy := Bool.eq_false_iff.2 txy
      by_cases txn : x.same RT.nonE = true
      · exact binary_16_1 x y u v w base tx ty hb txy txn
      · replace txn := Bool.eq_false_iff.2 txn
        by_cases tya : y.same RT.allE = true
        · exact binary_16_2 x y u v w base tx ty hb txy txn tya
        · replace tya := Bool.eq_false_iff.2 tya
          by_cases tyn : y.same RT.nonE = true
          · exact binary_16_3 x y u v w base tx ty hb txy txn tya tyn
          · replace tyn := Bool.eq_false_iff.2 tyn
            by_cases txa : x.same RT.allE = true
            · exact binary_16_4 x y u v w base tx ty hb hy txy txn tya tyn txa
            · replace txa := Bool.eq_false_iff.2 txa
              exact binary_16_5 x y u v w base tx ty hb txy txn tya tyn txa
  · by_cases txy : x.same y = true
    · exact binary_15_0 x y u v w base tx ty hb  txy
    · replace txy := Bool.eq_false_iff.2 txy
      by_cases tya : y.same RT.allE = true
      · exact binary_15_1 x y u v w base tx ty hb txy tya
      · replace tya := Bool.eq_false_iff.2 tya
        by_cases txa : x.same RT.allE = true
        · exact binary_15_2 x y u v w base tx ty hb txy tya txa
        · replace txa := Bool.eq_false_iff.2 txa
          by_cases txn : x.same RT.nonE = true
          · exact binary_15_3 x y u v w base tx ty hb txy tya txa txn
          · replace txn := Bool.eq_false_iff.2 txn
            by_cases tyn : y.same RT.nonE = true
            · exact binary_15_4 x y u v w base tx ty hb txy tya txa txn tyn
            · replace tyn := Bool.eq_false_iff.2 tyn
              exact binary_15_5 x y u v w base tx ty hb txy tya txa txn tyn
  · by_cases txy : x.same y = true
    · exact binary_14_0 x y u v w base tx ty hb  txy
    · replace txy := Bool.eq_false_iff.2 txy
      by_cases tyn : y.same RT.nonE = true
      · exact binary_14_1 x y u v w base tx ty hb txy tyn
      · replace tyn := Bool.eq_false_iff.2 tyn
        by_cases txn : x.same RT.nonE = true
        · exact binary_14_2 x y u v w base tx ty hb txy tyn txn
        · replace txn := Bool.eq_false_iff.2 txn
          by_cases txa : x.same RT.allE = true
          · exact binary_14_3 x y u v w base tx ty hb txy tyn txn txa
          · replace txa := Bool.eq_false_iff.2 txa
            by_cases tya : y.same RT.allE = true
            · exact binary_14_4 x y u v w base tx ty hb txy tyn txn txa tya
            · replace tya := Bool.eq_false_iff.2 tya
              exact binary_14_5 x y u v w base tx ty hb txy tyn txn txa tya

end Go.Proofs.YtijaoedlhmdpnaaDoor
/- Package revopt: simple walked. -/
namespace Go.Proofs.YtijaoedlhmdpnaaDoor
open Go.RowKit Go.Proofs.YtijaoedlhmdpnaaDoor.PTopQueriesKept Go.Proofs.YtijaoedlhmdpnaaDoorW.PrintWords

/-- What simple makes of a tree. -/
def RT.simple : RT → RT
  | .nil => .nil
  | .node k n .nil .nil => .node k n .nil .nil
  | .node k _ l .nil => RT.unary k (RT.simple l)
  | .node k _ l r => RT.binary k (RT.simple l) (RT.simple r)

theorem Sh.unary {x : RT} (hx : Sh x) : ∀ (k : Int), 7 ≤ k → k ≤ 13 → Sh (RT.unary k x) := by
  induction hx with
  | @leaf xk xn h1 h6 =>
    intro k h7 h13
    simp only [RT.unary]
    split
    · exact .leaf (by omega) (by omega)
    · split
      · exact .leaf (by omega) (by omega)
      · split
        · omega
        · split
          · exact .leaf h1 h6
          · split
            · exact .leaf h1 h6
            · split
              · omega
              · exact .un h7 h13 (.leaf h1 h6)
  | @un xk xn xl h7' h13' hl ih =>
    intro k h7 h13
    simp only [RT.unary]
    split
    · exact .leaf (by omega) (by omega)
    · split
      · exact .leaf (by omega) (by omega)
      · split
        · exact hl
        · split
          · exact .un h7' h13' hl
          · split
            · exact .un h7' h13' hl
            · split
              · exact ih k h7 h13
              · exact .un h7 h13 (.un h7' h13' hl)
  | @bin xk xn xl xr h14 h16 hl hr _ _ =>
    intro k h7 h13
    simp only [RT.unary]
    split
    · exact .leaf (by omega) (by omega)
    · split
      · exact .leaf (by omega) (by omega)
      · split
        · omega
        · split
          · exact .bin h14 h16 hl hr
          · split
            · exact .bin h14 h16 hl hr
            · split
              · omega
              · exact .un h7 h13 (.bin h14 h16 hl hr)
theorem Sh.nonE : Sh RT.nonE := .leaf (by omega) (by omega)
theorem Sh.allE : Sh RT.allE := .leaf (by omega) (by omega)
theorem Sh.binary {x y : RT} (hx : Sh x) (hy : Sh y) (k : Int) (h14 : 14 ≤ k) (h16 : k ≤ 16) : Sh (RT.binary k x y) := by
  unfold RT.binary
  repeat' split
  all_goals first | exact hx | exact hy | exact Sh.nonE | exact Sh.allE | exact hy.unary 7 (by omega) (by omega) | exact .bin (by omega) (by omega) hx hy
theorem RT.simple_un {k n : Int} {l : RT} (hl : Sh l) : RT.simple (.node k n l .nil) = RT.unary k (RT.simple l) := by
  cases l with
  | nil => exact absurd rfl hl.ne_nil
  | node => rfl
theorem RT.simple_bin {k n : Int} {l r : RT} (hr : Sh r) : RT.simple (.node k n l r) = RT.binary k (RT.simple l) (RT.simple r) := by
  cases r with
  | nil => exact absurd rfl hr.ne_nil
  | node => cases l <;> rfl
theorem Sh.simple {t : RT} (h : Sh t) : Sh t.simple := by
  induction h with
  | leaf h1 h6 => exact .leaf h1 h6
  | un h7 h13 hl ih => rw [RT.simple_un hl]; exact ih.unary _ h7 h13
  | bin h14 h16 hl hr ihl ihr => rw [RT.simple_bin hr]; exact ihl.binary ihr _ h14 h16

set_option maxRecDepth 100000 in
set_option maxHeartbeats 4000000 in
theorem simple_any {t : RT} (hs : Sh t) : ∀ (u : Value) (w : World) (base : Nat), Tr 91 w base t u → base ≤ w.heap.size → Calls Tryd.prog 52 #[u] w (Ret 91 w base t.simple) := by
  induction hs with
  | @leaf k n h1 h6 =>
    intro u w base h hb
    have H := Lib.hid h
    obtain ⟨b, vl, vr, rfl, hge, hc, rfl, rfl⟩ := h
    obtain ⟨⟨c0, c1, c2, c3⟩, _⟩ := blk4 hc
    clear hc
    go_enter Tryd.func52, Tryd.ntmps52
    go_wp2_with fail
    go_ret
    exact ⟨_, rfl, H.out, Bel.refl _⟩
  | @un k n l h7 h13 hl ihl =>
    intro u w base h hb
    rw [RT.simple_un hl]
    obtain ⟨b, vl, vr, rfl, hge, hc, tl, rfl⟩ := h
    obtain ⟨p, rfl⟩ := tl.pointer
    obtain ⟨pa, rfl⟩ := tl.isPtr hl
    have hn : Bel w w.drew ∧ Nd w.drew b k n (.pointer (some pa)) (.pointer none) := ⟨Bel.drew w, Tr.ndCells hc⟩
    obtain ⟨⟨c0, c1, c2, c3⟩, _⟩ := blk4 hc
    have HL := Lib.hid tl
    clear hc tl
    go_enter Tryd.func52, Tryd.ntmps52
    go_wp2_with fail
    go_region_held3 (fun w' => Bel w w' ∧ w'.cell? ⟨b, 0, none⟩ = some (.int .i64 k) ∧ w'.cell? ⟨b, 1, none⟩ = some (.int .i64 n) ∧ w'.cell? ⟨b, 2, none⟩ = some (.pointer (some pa)) ∧ w'.cell? ⟨b, 3, none⟩ = some (.pointer none))
      (first | exact hn | exact Nd.bel (by assumption) (by assumption))
      (first | (go_at_call 52; (refine (ihl _ _ base (HL.out.bel (And.left (by assumption))) (Nat.le_trans hb (Bel.size (And.left (by assumption))))).mono ?_); rintro e w1 ⟨p1, rfl, ht1, hb1⟩) | (go_at_call 65; (refine (unary_any hl.simple k _ _ base h7 h13 ht1 (Nat.le_trans hb (Bel.size (And.left (by assumption))))).mono ?_); rintro e w2 ⟨p2, rfl, ht2, hb2⟩))
    go_wp2_with fail
    go_ret
    exact ⟨_, rfl, ht2, And.left (by assumption)⟩
  | @bin k n l r h14 h16 hl hr ihl ihr =>
    intro u w base h hb
    rw [RT.simple_bin hr]
    obtain ⟨b, vl, vr, rfl, hge, hc, tl, tr⟩ := h
    obtain ⟨p, rfl⟩ := tl.pointer
    obtain ⟨pa, rfl⟩ := tl.isPtr hl
    obtain ⟨q, rfl⟩ := tr.pointer
    obtain ⟨qa, rfl⟩ := tr.isPtr hr
    have hn : Bel w w.drew ∧ Nd w.drew b k n (.pointer (some pa)) (.pointer (some qa)) := ⟨Bel.drew w, Tr.ndCells hc⟩
    obtain ⟨⟨c0, c1, c2, c3⟩, _⟩ := blk4 hc
    have HL := Lib.hid tl
    have HR := Lib.hid tr
    clear hc tl tr
    go_enter Tryd.func52, Tryd.ntmps52
    go_wp2_with fail
    go_region_held3 (fun w' => Bel w w' ∧ w'.cell? ⟨b, 0, none⟩ = some (.int .i64 k) ∧ w'.cell? ⟨b, 1, none⟩ = some (.int .i64 n) ∧ w'.cell? ⟨b, 2, none⟩ = some (.pointer (some pa)) ∧ w'.cell? ⟨b, 3, none⟩ = some (.pointer (some qa)))
      (first | exact hn | exact Nd.bel (by assumption) (by assumption))
      (first | (go_at_call_of 52 (Value.pointer (some pa)); (refine (ihl _ _ base (HL.out.bel (And.left (by assumption))) (Nat.le_trans hb (Bel.size (And.left (by assumption))))).mono ?_); rintro e w1 ⟨p1, rfl, ht1, hb1⟩) | (go_at_call_of 52 (Value.pointer (some qa)); (refine (ihr _ _ base (HR.out.bel (And.left (by assumption))) (Nat.le_trans hb (Bel.size (And.left (by assumption))))).mono ?_); rintro e w2 ⟨p2, rfl, ht2, hb2⟩) | (go_at_call 64; (refine (binary_any hl.simple hr.simple k _ _ _ base h14 h16 (ht1.bel hb2) ht2 (Nat.le_trans hb (Bel.size (And.left (by assumption))))).mono ?_); rintro e w3 ⟨p3, rfl, ht3, hb3⟩))
    go_wp2_with fail
    go_ret
    exact ⟨_, rfl, ht3, And.left (by assumption)⟩

end Go.Proofs.YtijaoedlhmdpnaaDoor
