/- TopHeadsWritten: for every input the call returns true and each argument reads as it read, where the package-level variables that the row lists hold what the program's text lays in them: the row, and its tied card. -/
import Derived.Test.YtijaoedlhmdpnaaDoorZ7
import Derived.Test.YtijaoedlhmdpnaaDoorCards
import Derived.Test.YtijaoedlhmdpnaaDoorTie
import Derived.SevenTiedAt
set_option linter.unusedVariables false
set_option linter.unusedSimpArgs false
/- The closure of TopHeadsWritten walked. -/
namespace Go.Proofs.YtijaoedlhmdpnaaDoor
open Go.RowKit Go.Proofs.YtijaoedlhmdpnaaDoor.PTopQueriesKept Go.Proofs.YtijaoedlhmdpnaaDoorW.PrintWords

set_option maxRecDepth 100000 in
set_option maxHeartbeats 4000000 in
theorem wri_no {w : World} {b : Nat} {k n : Int} {vl vr : Value} (hc : w.heap[b]? = some (.cells #[.int .i64 k, .int .i64 n, vl, vr] 36 (0, 0))) (h12 : k ≠ 12) (h13 : k ≠ 13) :
    Calls Tryd.prog 32 #[.pointer (some ⟨b, 0, none⟩)] w fun e w' => e = .returned (.pointer none) ∧ w = w' := by
  obtain ⟨⟨c0, c1, c2, c3⟩, _⟩ := blk4 hc
  have ek0 : (k == 12) = false := by simpa using (show k ≠ 12 by omega)
  have fk0 : (k != 12) = true := by simpa using (show k ≠ 12 by omega)
  have ek1 : (k == 13) = false := by simpa using (show k ≠ 13 by omega)
  have fk1 : (k != 13) = true := by simpa using (show k ≠ 13 by omega)
  clear hc
  go_enter Tryd.func32, Tryd.ntmps32
  go_wp2_with fail
  go_ret
  exact ⟨rfl, rfl⟩
set_option maxRecDepth 100000 in
set_option maxHeartbeats 4000000 in
theorem wri_12 {w : World} {base : Nat} {b : Nat} {n : Int} {l : RT} {pl : Option Addr} {vr : Value} (hb : base ≤ w.heap.size) (hc : w.heap[b]? = some (.cells #[.int .i64 12, .int .i64 n, .pointer pl, vr] 36 (0, 0))) (hl : Tr 36 w base l (.pointer pl)) :
    Calls Tryd.prog 32 #[.pointer (some ⟨b, 0, none⟩)] w (Ret 36 w base (.node 16 0 l (.node 8 0 (.node 10 0 l .nil) .nil))) := by
  obtain ⟨⟨c0, c1, c2, c3⟩, _⟩ := blk4 hc
  have hs0 : Bel w w ∧ w.cell? ⟨b, 0, none⟩ = some (.int .i64 12) ∧ w.cell? ⟨b, 2, none⟩ = some (.pointer pl) := ⟨Bel.refl _, c0, c2⟩
  have hst : Bel w w.drew ∧ w.drew.cell? ⟨b, 0, none⟩ = some (.int .i64 12) ∧ w.drew.cell? ⟨b, 2, none⟩ = some (.pointer pl) := ⟨Bel.drew _, c0, c2⟩
  have HSZ := Lib.hid hb
  clear hc
  go_enter Tryd.func32, Tryd.ntmps32
  go_wp2_with fail
  go_region_held3 (fun w' => Bel w w' ∧ w'.cell? ⟨b, 0, none⟩ = some (.int .i64 12) ∧ w'.cell? ⟨b, 2, none⟩ = some (.pointer pl))
    (first | assumption | exact keep2 hs0 (Bel.drew _) | exact keep2 (by assumption) (by assumption) | exact keep2 (by assumption) (Bel.alloc _ _) | exact keep2 hs0 ((Bel.alloc _ _).trans (Bel.drew _)) | exact keep2 hs0 ((And.left (by assumption)).trans (Bel.drew _)) | exact keep2 hs0 (And.left (by assumption)) | exact keep2 hs0 ((And.left (by assumption)).trans ((Bel.alloc _ _).trans (Bel.drew _))))
    (first
      | (go_at_call_of 30 (Value.int .i64 12); (refine (wStep_any 12 10 rfl _).mono ?_); rintro e w9 ⟨rfl, rfl⟩)
      | (go_at_call 19; (refine Calls.mono (wSame_any l (.pointer pl) _ _ base (hl.bel (And.left (by assumption))) (Nat.le_trans HSZ.out (Bel.size (And.left (by assumption))))) ?_); rintro e w1 ⟨p1, rfl, ht1, hb1⟩)
      | (go_at_call_of 18 (Value.int .i64 10); (refine Calls.mono (wRevOf_one 10 _ _ (.pointer p1) _ ?_ l base (Nat.le_trans HSZ.out (Bel.size (And.left (by assumption)))) (by repeat (first | assumption | refine Tr.bel ?_ (Bel.alloc _ _) | refine Tr.bel ?_ (by assumption)))) ?_); (focus ((repeat (first | (simp; done) | refine Bel.cell (Bel.alloc _ _) ?_ | refine Bel.cell (by assumption) ?_)); done)); rintro e w2 ⟨p2, rfl, ht2, hb2⟩)
      | (go_at_call_of 18 (Value.int .i64 8); (refine Calls.mono (wRevOf_one 8 _ _ (.pointer p2) _ ?_ (.node 10 0 l .nil) base (Nat.le_trans HSZ.out (Bel.size (And.left (by assumption)))) (by repeat (first | assumption | refine Tr.bel ?_ (Bel.alloc _ _) | refine Tr.bel ?_ (by assumption)))) ?_); (focus ((repeat (first | (simp; done) | refine Bel.cell (Bel.alloc _ _) ?_ | refine Bel.cell (by assumption) ?_)); done)); rintro e w3 ⟨p3, rfl, ht3, hb3⟩)
      | (go_at_call_of 18 (Value.int .i64 16); (refine Calls.mono (wRevOf_two 16 _ _ (.pointer pl) (.pointer p3) _ ?_ ?_ l (.node 8 0 (.node 10 0 l .nil) .nil) base (Nat.le_trans HSZ.out (Bel.size (And.left (by assumption)))) (hl.bel (And.left (by assumption))) (by repeat (first | assumption | refine Tr.bel ?_ (Bel.alloc _ _) | refine Tr.bel ?_ (by assumption)))) ?_); (focus ((repeat (first | (simp; done) | refine Bel.cell (Bel.alloc _ _) ?_ | refine Bel.cell (by assumption) ?_)); done)); (focus ((repeat (first | (simp; done) | refine Bel.cell (Bel.alloc _ _) ?_ | refine Bel.cell (by assumption) ?_)); done)); rintro e w4 ⟨p4, rfl, ht4, hb4⟩))
  all_goals
    go_wp2_with fail
    go_ret
    exact ⟨_, rfl, ht4, And.left (by assumption)⟩
set_option maxRecDepth 100000 in
set_option maxHeartbeats 4000000 in
theorem wri_13 {w : World} {base : Nat} {b : Nat} {n : Int} {l : RT} {pl : Option Addr} {vr : Value} (hb : base ≤ w.heap.size) (hc : w.heap[b]? = some (.cells #[.int .i64 13, .int .i64 n, .pointer pl, vr] 36 (0, 0))) (hl : Tr 36 w base l (.pointer pl)) :
    Calls Tryd.prog 32 #[.pointer (some ⟨b, 0, none⟩)] w (Ret 36 w base (.node 16 0 l (.node 9 0 (.node 11 0 l .nil) .nil))) := by
  obtain ⟨⟨c0, c1, c2, c3⟩, _⟩ := blk4 hc
  have hs0 : Bel w w ∧ w.cell? ⟨b, 0, none⟩ = some (.int .i64 13) ∧ w.cell? ⟨b, 2, none⟩ = some (.pointer pl) := ⟨Bel.refl _, c0, c2⟩
  have hst : Bel w w.drew ∧ w.drew.cell? ⟨b, 0, none⟩ = some (.int .i64 13) ∧ w.drew.cell? ⟨b, 2, none⟩ = some (.pointer pl) := ⟨Bel.drew _, c0, c2⟩
  have HSZ := Lib.hid hb
  clear hc
  go_enter Tryd.func32, Tryd.ntmps32
  go_wp2_with fail
  go_region_held3 (fun w' => Bel w w' ∧ w'.cell? ⟨b, 0, none⟩ = some (.int .i64 13) ∧ w'.cell? ⟨b, 2, none⟩ = some (.pointer pl))
    (first | assumption | exact keep2 hs0 (Bel.drew _) | exact keep2 (by assumption) (by assumption) | exact keep2 (by assumption) (Bel.alloc _ _) | exact keep2 hs0 ((Bel.alloc _ _).trans (Bel.drew _)) | exact keep2 hs0 ((And.left (by assumption)).trans (Bel.drew _)) | exact keep2 hs0 (And.left (by assumption)) | exact keep2 hs0 ((And.left (by assumption)).trans ((Bel.alloc _ _).trans (Bel.drew _))))
    (first
      | (go_at_call_of 30 (Value.int .i64 13); (refine (wStep_any 13 11 rfl _).mono ?_); rintro e w9 ⟨rfl, rfl⟩)
      | (go_at_call 19; (refine Calls.mono (wSame_any l (.pointer pl) _ _ base (hl.bel (And.left (by assumption))) (Nat.le_trans HSZ.out (Bel.size (And.left (by assumption))))) ?_); rintro e w1 ⟨p1, rfl, ht1, hb1⟩)
      | (go_at_call_of 18 (Value.int .i64 11); (refine Calls.mono (wRevOf_one 11 _ _ (.pointer p1) _ ?_ l base (Nat.le_trans HSZ.out (Bel.size (And.left (by assumption)))) (by repeat (first | assumption | refine Tr.bel ?_ (Bel.alloc _ _) | refine Tr.bel ?_ (by assumption)))) ?_); (focus ((repeat (first | (simp; done) | refine Bel.cell (Bel.alloc _ _) ?_ | refine Bel.cell (by assumption) ?_)); done)); rintro e w2 ⟨p2, rfl, ht2, hb2⟩)
      | (go_at_call_of 18 (Value.int .i64 9); (refine Calls.mono (wRevOf_one 9 _ _ (.pointer p2) _ ?_ (.node 11 0 l .nil) base (Nat.le_trans HSZ.out (Bel.size (And.left (by assumption)))) (by repeat (first | assumption | refine Tr.bel ?_ (Bel.alloc _ _) | refine Tr.bel ?_ (by assumption)))) ?_); (focus ((repeat (first | (simp; done) | refine Bel.cell (Bel.alloc _ _) ?_ | refine Bel.cell (by assumption) ?_)); done)); rintro e w3 ⟨p3, rfl, ht3, hb3⟩)
      | (go_at_call_of 18 (Value.int .i64 16); (refine Calls.mono (wRevOf_two 16 _ _ (.pointer pl) (.pointer p3) _ ?_ ?_ l (.node 9 0 (.node 11 0 l .nil) .nil) base (Nat.le_trans HSZ.out (Bel.size (And.left (by assumption)))) (hl.bel (And.left (by assumption))) (by repeat (first | assumption | refine Tr.bel ?_ (Bel.alloc _ _) | refine Tr.bel ?_ (by assumption)))) ?_); (focus ((repeat (first | (simp; done) | refine Bel.cell (Bel.alloc _ _) ?_ | refine Bel.cell (by assumption) ?_)); done)); (focus ((repeat (first | (simp; done) | refine Bel.cell (Bel.alloc _ _) ?_ | refine Bel.cell (by assumption) ?_)); done)); rintro e w4 ⟨p4, rfl, ht4, hb4⟩))
  all_goals
    go_wp2_with fail
    go_ret
    exact ⟨_, rfl, ht4, And.left (by assumption)⟩
theorem wri_by (w0 : World) : ByC w0 32 #[] writtenF := by
  intro t p w base hw hs hnn ht hb
  show Calls Tryd.prog 32 #[.pointer p] w _
  cases t with
  | nil => exact absurd rfl hs.ne_nil
  | node k n l r =>
    have ht0 := ht
    obtain ⟨b, vl, vr, hv, hge, hc, hl, hr⟩ := ht
    injection hv with hv
    subst hv
    obtain ⟨pl, rfl⟩ := hl.pointer
    obtain ⟨pr, rfl⟩ := hr.pointer
    by_cases hk : k = 12 ∨ k = 13
    · rcases hs.parts with ⟨_, h6, _, _⟩ | ⟨h7, h13, hsl, rfl⟩ | ⟨h14, _, _, _⟩
      · omega
      · rcases hk with rfl | rfl
        · exact (wri_12 hb hc hl).mono fun e w' h => by_some rfl h
        · exact (wri_13 hb hc hl).mono fun e w' h => by_some rfl h
      · omega
    · exact (wri_no hc (by omega) (by omega)).mono fun e w' h => by_none (by unfold writtenF; exact if_pos (by simp only [RT.kind]; omega)) h
theorem enters32 : EntersAt 32 := EntersAt.of Tryd.func32 (by kernel_rfl) (by kernel_rfl)

end Go.Proofs.YtijaoedlhmdpnaaDoor
/- TopHeadsWritten walked. -/
namespace Go.Proofs.YtijaoedlhmdpnaaDoor
open Go.RowKit Go.Proofs.YtijaoedlhmdpnaaDoor.PTopQueriesKept Go.Proofs.YtijaoedlhmdpnaaDoorW.PrintWords

set_option maxRecDepth 100000 in
set_option maxHeartbeats 4000000 in
theorem topWri_any (cs : List S51) (A : Option Addr) (c : Nat) (xs : List S53) (A1 : Option Addr) (c1 : Nat) (which : Int) (w : World) (he : Env w) (hC : Kd.C k51 w A cs.length cs) (hc : cs.length ≤ c) (hC1 : Kd.C k53 w A1 xs.length xs) (hc1 : xs.length ≤ c1) :
    Calls Tryd.prog 11 #[.slice A cs.length c, .agg #[.slice A1 xs.length c1], .int .i64 which] w (RetTrue w) := by
  have HQ := Lib.hid (fun (w2 : World) (p1 p2 : Nat) (hp1 : w2.cell? ⟨p1, 0, none⟩ = some (.func (.func 32) #[] #[])) (hp2 : w2.cell? ⟨p2, 0, none⟩ = some (.int .i64 which))  (w' : World) (hw : Bel w2 w') (hww : Bel w w') =>
    law_query enters32 (wri_by w2) written_good hp1 hp2 hw (he.bel hww) (Kd.C_below hC hww) hc (Kd.C_below hC1 hww) hc1)
  have HB := Lib.hid (Bel.alloc w (Obj.cells #[.slice A1 xs.length c1] 25))
  have hk0 : (w.alloc (Obj.cells #[.slice A1 xs.length c1] 25)).cell? ⟨w.heap.size, 0, none⟩ = some (.slice A1 xs.length c1) := by simp
  clear he hC hc hC1 hc1
  go_enter Tryd.func11, Tryd.ntmps11
  go_wp2_with fail
  generalize (w.alloc (Obj.cells #[.slice A1 xs.length c1] 25)) = W at *
  have hs0 : Bel W W ∧ W.cell? ⟨w.heap.size, 0, none⟩ = some (.slice A1 xs.length c1) := ⟨Bel.refl _, hk0⟩
  have hst : Bel W W.drew ∧ W.drew.cell? ⟨w.heap.size, 0, none⟩ = some (.slice A1 xs.length c1) := ⟨Bel.drew _, hk0⟩
  go_region_held3 (fun w' => Bel W w' ∧ w'.cell? ⟨w.heap.size, 0, none⟩ = some (.slice A1 xs.length c1))
    (first | assumption | exact keep1 (by assumption) (by assumption) | exact keep1 (by assumption) (Bel.alloc _ _))
    (first
      | (go_at_call 16; (refine (wPut_any which 32 #[] _).mono ?_); rintro e w2 ⟨p1, p2, rfl, hb2, hp1, hp2⟩)
      | (go_at_call 15; (refine (HQ.out _ p1 p2 hp1 hp2  _ (Bel.refl _) (HB.out.trans (And.left (by assumption)))).mono ?_); rintro e w3 ⟨rfl, hb3⟩))
  all_goals
    have HB3 := Lib.hid (HB.out.trans (And.left (by assumption)))
    go_wp2_with fail
    go_ret
    exact ⟨rfl, HB3.out⟩

end Go.Proofs.YtijaoedlhmdpnaaDoor
namespace Go.Proofs.YtijaoedlhmdpnaaDoor
open Go.ChangeShapes Go.WideShapes Go.ChangeAt Go.RowKit
set_option maxRecDepth 100000

theorem topHeadsWritten_lifted (os : Os) (started : os.Started) (H : Type) (enc : TypeId × Value → H) :
    ReturnsInHanded {} Tryd.checked os 11 .any (fun w args => (Rows.topHeadsWrittenSpec.pre enc Tryd.prog Tryd.f11 [] false w args ∧ laidMetH Tryd.prog laidL w) ∧ sizedMet enc Tryd.prog Tryd.f11 (OpenSpec.ofChange Rows.topHeadsWrittenSpec) false w args)
      (Rows.topHeadsWrittenSpec.post enc Tryd.prog Tryd.f11 false true false false) := by
  refine returnsInHanded_of_change_and (C := Tryd.checked) (X := fun w _ => laidMetH Tryd.prog laidL w) (fun _ _ _ hh h => h.of_heap hh) own started (by kernel_rfl) Tryd.func11
    (ChangeSpec.witness_shaped (enc := enc) (C := Tryd.checked) (os := os) (X := fun w _ => laidMetH Tryd.prog laidL w) false (World.doorLaid Tryd.prog 67 os) #[.slice none 0 0, .agg #[.slice none 0 0], .int .i64 0] 8 rfl (World.shaped_of_RefB (by kernel_rfl) (by kernel_rfl)) (by kernel_rfl) (by kernel_rfl) (by kernel_rfl) (door_met os _)) ?_
  intro W base args ds gs before hval0 hW _ _ hL _
  have hval : ∀ (j : Nat) t v, Tryd.f11.params[j]? = some t → args[j]? = some v → Value.okWide Tryd.prog W .any base t v := hval0
  have hW' := hW
  obtain ⟨p, q, hA0, hV, rfl, hfz, hnd⟩ := hW
  have hA : DataW.TrodAll enc Tryd.prog W 0 (fun _ => true) true Tryd.f11.params.toList args.toList ds p := hA0
  rw [Tryd.params11] at hA hval
  obtain ⟨v0, vs0, d0, ds0, p0, q0, hargs, rfl, rfl, h0, r0⟩ := trodAll_cons hA
  obtain ⟨v1, vs1, d1, ds1, p1, q1, rfl, rfl, rfl, h1, r1⟩ := trodAll_cons r0
  obtain ⟨v2, vs2, d2, ds2, p2, q2, rfl, rfl, rfl, h2, r2⟩ := trodAll_cons r1
  obtain ⟨rfl, rfl, rfl⟩ := trodAll_nil r2
  obtain rfl : args = #[v0, v1, v2] := by cases args; simp_all
  obtain ⟨rfl, rfl⟩ := trodVars_none hV
  have lt0 : ∀ x ∈ p0, x.block < W.heap.size := by obtain ⟨m, hm⟩ := h0; exact DataW.trod_lt m _ _ _ hm
  have lt1 : ∀ x ∈ p1, x.block < W.heap.size := by obtain ⟨m, hm⟩ := h1; exact DataW.trod_lt m _ _ _ hm
  obtain ⟨cs, A, c, rfl, hc, hC⟩ := commits_opened (hval 0 22 v0 rfl rfl) h0
  obtain ⟨u, xs, rfl, A1, c1, rfl, hc1, hC1⟩ := query_opened (hval 1 25 v1 rfl rfl) h1
  obtain ⟨a2, rfl, rfl, rfl, w2⟩ := open_int Tryd.underlying3 (hval 2 3 v2 rfl rfl) h2
  have he := env_of_laid hL
  clear hA0 hval0 hval
  refine (topWri_any cs A c xs A1 c1 a2 W he hC hc hC1 hc1).mono fun e W' ⟨hee, hb0⟩ => ?_
  have hb := Lib.hid hb0
  subst hee
  exact ⟨_, rfl, _, _, _, [], _, [], hW', trodAll_mk1 (shut_bool Tryd.underlying4 _), (trodAll_cons_mk (Below.trod laidOut (by kernel_rfl) (of_decide_eq_true (by kernel_rfl)) h0 hb.out lt0) (trodAll_cons_mk (Below.trod laidOut (by kernel_rfl) (of_decide_eq_true (by kernel_rfl)) h1 hb.out lt1) (trodAll_cons_mk (shut_int Tryd.underlying3 w2) trodAll_mk0))), rfl, (show Below W.heap.size W W' from hb.out).frame _, fun h => by cases h⟩

theorem topHeadsWritten_row : Rows.TopHeadsWrittenSaid :=
  OpenClaim.holds_of_wide 11 Tryd.f11 rfl rfl rfl rfl rfl rfl rfl ⟨rfl, rfl, rfl, rfl, rfl⟩ rfl rfl rfl rfl rfl (by kernel_rfl) Tryd.func11 (by kernel_rfl)
    (of_decide_eq_true (by kernel_rfl)) (by unfold Func.isWrapper; first | (rw [if_pos (by decide +kernel)]; kernel_rfl) | (rw [if_neg (by decide +kernel)]; exact ⟨rfl, rfl⟩))
    (fun os started H enc _ => topHeadsWritten_lifted os started H enc)

theorem topHeadsWritten_holds : Rows.TopHeadsWrittenCardSaid :=
  Claim7.holds_tied_plain_at .later [] [.data, .data, .data, .sentinel, .sentinel, .widerDeep] true (true, "a0d9a2353728ea79b086a747090c81b9a0a74b7d21e1d1052255b4b7a5fadd21") true
    topHeadsWritten_row (fun _ h => by cases h) (by kernel_rfl) (fun _ h => by cases h) topHeadsWritten_row_tie rfl ⟨rfl, rfl⟩ (by kernel_rfl) rfl
    (fun f fn hf hfn => by
      obtain rfl : f = 11 := Option.some.inj ((show Tryd.prog.funcNamed "changeforge/changeforgetop.TopHeadsWritten" = some 11 by kernel_rfl).symm.trans hf) |>.symm
      obtain rfl : fn = Tryd.f11 := (Option.some.inj (Tryd.func11.symm.trans hfn)).symm
      exact ⟨by kernel_rfl, fun j t ht => by
        rw [Tryd.params11] at ht
        have hm : t ∈ [22, 25, 3] := by simpa using Array.mem_of_getElem? ht
        have hall : ([22, 25, 3].all fun u => !Tryd.prog.wantsStandIn u) = true := by kernel_rfl
        exact (show Tryd.prog.wantsStandIn t = false by simpa using List.all_eq_true.1 hall t hm)⟩)
    (by kernel_rfl)
#print axioms topHeadsWritten_holds
end Go.Proofs.YtijaoedlhmdpnaaDoor
