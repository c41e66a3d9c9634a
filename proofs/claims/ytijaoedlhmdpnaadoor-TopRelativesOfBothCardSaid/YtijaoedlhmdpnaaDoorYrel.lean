/- TopRelativesOfBoth: for every input the call returns true and each argument reads as it read, where the package-level variables that the row lists hold what the program's text lays in them: the row, and its tied card. -/
import Derived.Test.YtijaoedlhmdpnaaDoorZ7
import Derived.Test.YtijaoedlhmdpnaaDoorCards
import Derived.Test.YtijaoedlhmdpnaaDoorTie
import Derived.SevenTiedAt
set_option linter.unusedVariables false
set_option linter.unusedSimpArgs false
/- The closure of TopRelativesOfBoth walked. -/
namespace Go.Proofs.YtijaoedlhmdpnaaDoor
open Go.RowKit Go.Proofs.YtijaoedlhmdpnaaDoor.PTopQueriesKept Go.Proofs.YtijaoedlhmdpnaaDoorW.PrintWords

set_option maxRecDepth 100000 in
set_option maxHeartbeats 4000000 in
theorem rel_no1 {w : World} {b : Nat} {k n : Int} {vl vr : Value} (hc : w.heap[b]? = some (.cells #[.int .i64 k, .int .i64 n, vl, vr] 36 (0, 0))) (hk : k < 8 ∨ 11 < k) :
    Calls Tryd.prog 28 #[.pointer (some ⟨b, 0, none⟩)] w fun e w' => e = .returned (.pointer none) ∧ w = w' := by
  obtain ⟨⟨c0, c1, c2, c3⟩, _⟩ := blk4 hc
  clear hc
  rcases hk with hk | hk
  · go_enter Tryd.func28, Tryd.ntmps28
    go_wp2_with fail
    go_ret
    exact ⟨rfl, rfl⟩
  · have h8 : ¬ k < 8 := by omega
    go_enter Tryd.func28, Tryd.ntmps28
    go_wp2_with fail
    go_ret
    exact ⟨rfl, rfl⟩
set_option maxRecDepth 100000 in
set_option maxHeartbeats 4000000 in
theorem rel_no2 {w : World} {b bl : Nat} {k n kl nl : Int} {vr ll lr : Value} (hc : w.heap[b]? = some (.cells #[.int .i64 k, .int .i64 n, .pointer (some ⟨bl, 0, none⟩), vr] 36 (0, 0))) (hcl : w.heap[bl]? = some (.cells #[.int .i64 kl, .int .i64 nl, ll, lr] 36 (0, 0))) (h8 : 8 ≤ k) (h11 : k ≤ 11) (hkl : kl ≠ 14) :
    Calls Tryd.prog 28 #[.pointer (some ⟨b, 0, none⟩)] w fun e w' => e = .returned (.pointer none) ∧ w = w' := by
  obtain ⟨⟨c0, c1, c2, c3⟩, _⟩ := blk4 hc
  obtain ⟨⟨d0, d1, d2, d3⟩, _⟩ := blk4 hcl
  have e1 : (kl == 14) = false := by simpa using hkl
  have e3 : (kl != 14) = true := by simpa using hkl
  have e2 : (14 == kl) = false := by simpa using fun h : 14 = kl => hkl h.symm
  clear hc hcl hkl
  go_enter Tryd.func28, Tryd.ntmps28
  go_wp2_with fail
  go_ret
  exact ⟨rfl, rfl⟩
set_option maxRecDepth 100000 in
set_option maxHeartbeats 4000000 in
theorem rel_yes {w : World} {base b bl : Nat} {k n nl : Int} {vr : Value} {ll lr : RT} {pll plr : Option Addr} (hb : base ≤ w.heap.size) (hc : w.heap[b]? = some (.cells #[.int .i64 k, .int .i64 n, .pointer (some ⟨bl, 0, none⟩), vr] 36 (0, 0))) (hcl : w.heap[bl]? = some (.cells #[.int .i64 14, .int .i64 nl, .pointer pll, .pointer plr] 36 (0, 0))) (h8 : 8 ≤ k) (h11 : k ≤ 11)
    (hll : Tr 36 w base ll (.pointer pll)) (hlr : Tr 36 w base lr (.pointer plr)) :
    Calls Tryd.prog 28 #[.pointer (some ⟨b, 0, none⟩)] w (Ret 36 w base (.node 14 0 (.node k 0 ll .nil) (.node k 0 lr .nil))) := by
  obtain ⟨⟨c0, c1, c2, c3⟩, _⟩ := blk4 hc
  obtain ⟨⟨d0, d1, d2, d3⟩, _⟩ := blk4 hcl
  have hst : Bel w w.drew ∧ w.drew.cell? ⟨b, 0, none⟩ = some (.int .i64 k) ∧ w.drew.cell? ⟨b, 2, none⟩ = some (.pointer (some ⟨bl, 0, none⟩)) ∧ w.drew.cell? ⟨bl, 2, none⟩ = some (.pointer pll) ∧ w.drew.cell? ⟨bl, 3, none⟩ = some (.pointer plr) := ⟨Bel.drew _, c0, c2, d2, d3⟩
  have HSZ := Lib.hid hb
  clear hc hcl
  go_enter Tryd.func28, Tryd.ntmps28
  go_wp2_with fail
  go_region_held3 (fun w' => Bel w w' ∧ w'.cell? ⟨b, 0, none⟩ = some (.int .i64 k) ∧ w'.cell? ⟨b, 2, none⟩ = some (.pointer (some ⟨bl, 0, none⟩)) ∧ w'.cell? ⟨bl, 2, none⟩ = some (.pointer pll) ∧ w'.cell? ⟨bl, 3, none⟩ = some (.pointer plr))
    (first | exact hst | exact keep4 (by assumption) (by assumption) | exact keep4 (by assumption) (Bel.alloc _ _))
    (first
      | (go_at_call_of 18 (Value.int .i64 14); (refine Calls.mono (wRevOf_two 14 _ _ (.pointer p1) (.pointer p2) _ ?_ ?_ (.node k 0 ll .nil) (.node k 0 lr .nil) base (Nat.le_trans HSZ.out (Bel.size (And.left (by assumption)))) (by repeat (first | assumption | refine Tr.bel ?_ (Bel.alloc _ _) | refine Tr.bel ?_ (by assumption))) (by repeat (first | assumption | refine Tr.bel ?_ (Bel.alloc _ _) | refine Tr.bel ?_ (by assumption)))) ?_); (focus ((repeat (first | (simp; done) | refine Bel.cell (Bel.alloc _ _) ?_ | refine Bel.cell (by assumption) ?_)); done)); (focus ((repeat (first | (simp; done) | refine Bel.cell (Bel.alloc _ _) ?_ | refine Bel.cell (by assumption) ?_)); done)); rintro e w3 ⟨p3, rfl, ht3, hb3⟩)
      | (go_at_call 18; (refine Calls.mono (wRevOf_one k _ _ (.pointer pll) _ ?_ ll base (Nat.le_trans HSZ.out (Bel.size (And.left (by assumption)))) (hll.bel (And.left (by assumption)))) ?_); (focus ((repeat (first | (simp; done) | refine Bel.cell (Bel.alloc _ _) ?_ | refine Bel.cell (by assumption) ?_)); done)); rintro e w1 ⟨p1, rfl, ht1, hb1⟩)
      | (go_at_call 18; (refine Calls.mono (wRevOf_one k _ _ (.pointer plr) _ ?_ lr base (Nat.le_trans HSZ.out (Bel.size (And.left (by assumption)))) (hlr.bel (And.left (by assumption)))) ?_); (focus ((repeat (first | (simp; done) | refine Bel.cell (Bel.alloc _ _) ?_ | refine Bel.cell (by assumption) ?_)); done)); rintro e w2 ⟨p2, rfl, ht2, hb2⟩))
  all_goals
    go_wp2_with fail
    go_ret
    exact ⟨_, rfl, ht3, And.left (by assumption)⟩

end Go.Proofs.YtijaoedlhmdpnaaDoor
/- TopRelativesOfBoth walked. -/
namespace Go.Proofs.YtijaoedlhmdpnaaDoor
open Go.RowKit Go.Proofs.YtijaoedlhmdpnaaDoor.PTopQueriesKept Go.Proofs.YtijaoedlhmdpnaaDoorW.PrintWords

theorem rel_by (w0 : World) : ByC w0 28 #[] relF := by
  intro t p w base _ hs hnn ht hb
  show Calls Tryd.prog 28 #[.pointer p] w _
  cases t with
  | nil => exact absurd rfl hs.ne_nil
  | node k n l r =>
    obtain ⟨b, vl, vr, hv, hge, hc, hl, hr⟩ := ht
    injection hv with hv
    subst hv
    by_cases hk : k < 8 ∨ 11 < k
    · exact (rel_no1 hc hk).mono fun e w' h => by_none (by unfold relF; exact if_pos (by simp only [RT.kind]; omega)) h
    · rcases hs.parts with ⟨_, h6, _, _⟩ | ⟨h7, h13, hsl, rfl⟩ | ⟨h14, _, _, _⟩
      · omega
      · cases l with
        | nil => exact absurd rfl hsl.ne_nil
        | node kl nl ll lr =>
          obtain ⟨bl, vll, vlr, rfl, hgel, hcl, hll, hlr⟩ := hl
          by_cases hkl : kl = 14
          · subst hkl
            obtain ⟨pll, rfl⟩ := hll.pointer
            obtain ⟨plr, rfl⟩ := hlr.pointer
            exact (rel_yes hb hc hcl (by omega) (by omega) hll hlr).mono fun e w' h => by_some (by unfold relF; exact if_neg (by simp only [RT.kind, RT.lft]; omega)) h
          · exact (rel_no2 hc hcl (by omega) (by omega) hkl).mono fun e w' h => by_none (by unfold relF; exact if_pos (by simp only [RT.kind, RT.lft]; omega)) h
      · omega
theorem enters28 : EntersAt 28 := EntersAt.of Tryd.func28 (by kernel_rfl) (by kernel_rfl)

set_option maxRecDepth 100000 in
set_option maxHeartbeats 4000000 in
theorem topRel_any (cs : List S51) (A : Option Addr) (c : Nat) (xs : List S53) (A1 : Option Addr) (c1 : Nat) (which : Int) (w : World) (he : Env w) (hC : Kd.C k51 w A cs.length cs) (hc : cs.length ≤ c) (hC1 : Kd.C k53 w A1 xs.length xs) (hc1 : xs.length ≤ c1) :
    Calls Tryd.prog 8 #[.slice A cs.length c, .agg #[.slice A1 xs.length c1], .int .i64 which] w (RetTrue w) := by
  have HQ := Lib.hid (fun (w2 : World) (p1 p2 : Nat) (hp1 : w2.cell? ⟨p1, 0, none⟩ = some (.func (.func 28) #[] #[])) (hp2 : w2.cell? ⟨p2, 0, none⟩ = some (.int .i64 which)) (w' : World) (hw : Bel w2 w') (hww : Bel w w') =>
    law_query enters28 (rel_by w2) rel_good hp1 hp2 hw (he.bel hww) (Kd.C_below hC hww) hc (Kd.C_below hC1 hww) hc1)
  have HB := Lib.hid (Bel.alloc w (Obj.cells #[.slice A1 xs.length c1] 25))
  have hk0 : (w.alloc (Obj.cells #[.slice A1 xs.length c1] 25)).cell? ⟨w.heap.size, 0, none⟩ = some (.slice A1 xs.length c1) := by simp
  clear he hC hc hC1 hc1
  go_enter Tryd.func8, Tryd.ntmps8
  go_wp2_with fail
  generalize (w.alloc (Obj.cells #[.slice A1 xs.length c1] 25)) = W at *
  have hst : Bel W W.drew ∧ W.drew.cell? ⟨w.heap.size, 0, none⟩ = some (.slice A1 xs.length c1) := ⟨Bel.drew _, hk0⟩
  go_region_held3 (fun w' => Bel W w' ∧ w'.cell? ⟨w.heap.size, 0, none⟩ = some (.slice A1 xs.length c1))
    (first | exact hst | exact keep1 (by assumption) (by assumption) | exact keep1 (by assumption) (Bel.alloc _ _))
    (first
      | (go_at_call 16; (refine (wPut_any which 28 #[] _).mono ?_); rintro e w2 ⟨p1, p2, rfl, hb2, hp1, hp2⟩)
      | (go_at_call 15; (refine (HQ.out _ p1 p2 hp1 hp2 _ (Bel.refl _) (HB.out.trans (And.left (by assumption)))).mono ?_); rintro e w3 ⟨rfl, hb3⟩))
  all_goals
    have HB3 := Lib.hid (HB.out.trans (And.left (by assumption)))
    go_wp2_with fail
    go_ret
    exact ⟨rfl, HB3.out⟩

end Go.Proofs.YtijaoedlhmdpnaaDoor
namespace Go.Proofs.YtijaoedlhmdpnaaDoor
open Go.ChangeShapes Go.WideShapes Go.ChangeAt Go.RowKit
set_option maxRecDepth 100000

theorem topRelativesOfBoth_lifted (os : Os) (started : os.Started) (H : Type) (enc : TypeId × Value → H) :
    ReturnsInHanded {} Tryd.checked os 8 .any (fun w args => (Rows.topRelativesOfBothSpec.pre enc Tryd.prog Tryd.f8 [] false w args ∧ laidMetH Tryd.prog laidL w) ∧ sizedMet enc Tryd.prog Tryd.f8 (OpenSpec.ofChange Rows.topRelativesOfBothSpec) false w args)
      (Rows.topRelativesOfBothSpec.post enc Tryd.prog Tryd.f8 false true false false) := by
  refine returnsInHanded_of_change_and (C := Tryd.checked) (X := fun w _ => laidMetH Tryd.prog laidL w) (fun _ _ _ hh h => h.of_heap hh) own started (by kernel_rfl) Tryd.func8
    (ChangeSpec.witness_shaped (enc := enc) (C := Tryd.checked) (os := os) (X := fun w _ => laidMetH Tryd.prog laidL w) false (World.doorLaid Tryd.prog 67 os) #[.slice none 0 0, .agg #[.slice none 0 0], .int .i64 0] 8 rfl (World.shaped_of_RefB (by kernel_rfl) (by kernel_rfl)) (by kernel_rfl) (by kernel_rfl) (by kernel_rfl) (door_met os _)) ?_
  intro W base args ds gs before hval0 hW _ _ hL _
  have hval : ∀ (j : Nat) t v, Tryd.f8.params[j]? = some t → args[j]? = some v → Value.okWide Tryd.prog W .any base t v := hval0
  have hW' := hW
  obtain ⟨p, q, hA0, hV, rfl, hfz, hnd⟩ := hW
  have hA : DataW.TrodAll enc Tryd.prog W 0 (fun _ => true) true Tryd.f8.params.toList args.toList ds p := hA0
  rw [Tryd.params8] at hA hval
  obtain ⟨v0, vs0, d0, ds0, p0, q0, hargs, rfl, rfl, h0, r0⟩ := trodAll_cons hA
  obtain ⟨v1, vs1, d1, ds1, p1, q1, rfl, rfl, rfl, h1, r1⟩ := trodAll_cons r0
  obtain ⟨v2, vs2, d2, ds2, p2, q2, rfl, rfl, rfl, h2, r2⟩ := trodAll_cons r1
  obtain ⟨rfl, rfl, rfl⟩ := trodAll_nil r2
  obtain rfl : args = #[v0, v1, v2] := by cases args; simp_all
  obtain ⟨rfl, rfl⟩ := trodVars_none hV
  have lt0 : ∀ x ∈ p0, x.block < W.heap.size := by obtain ⟨m, hm⟩ := h0; exact DataW.trod_lt m _ _ _ hm
  have lt1 : ∀ x ∈ p1, x.block < W.heap.size := by obtain ⟨m, hm⟩ := h1; exact DataW.trod_lt m _ _ _ hm
  obtain ⟨cs, A, c, rfl, hc, hC⟩ := commits_opened (hval 0 22 v0 rfl rfl) h0
  obtain ⟨u, xs, rfl, A1, c1, rfl, hc1, hC1⟩ := query_opened (hval 1 25 v1 rfl rfl) h1
  obtain ⟨a2, rfl, rfl, rfl, w2⟩ := open_int Tryd.underlying3 (hval 2 3 v2 rfl rfl) h2
  have he := env_of_laid hL
  clear hA0 hval0 hval
  refine (topRel_any cs A c xs A1 c1 a2 W he hC hc hC1 hc1).mono fun e W' ⟨hee, hb0⟩ => ?_
  have hb := Lib.hid hb0
  subst hee
  exact ⟨_, rfl, _, _, _, [], _, [], hW', trodAll_mk1 (shut_bool Tryd.underlying4 _), (trodAll_cons_mk (Below.trod laidOut (by kernel_rfl) (of_decide_eq_true (by kernel_rfl)) h0 hb.out lt0) (trodAll_cons_mk (Below.trod laidOut (by kernel_rfl) (of_decide_eq_true (by kernel_rfl)) h1 hb.out lt1) (trodAll_cons_mk (shut_int Tryd.underlying3 w2) trodAll_mk0))), rfl, (show Below W.heap.size W W' from hb.out).frame _, fun h => by cases h⟩

theorem topRelativesOfBoth_row : Rows.TopRelativesOfBothSaid :=
  OpenClaim.holds_of_wide 8 Tryd.f8 rfl rfl rfl rfl rfl rfl rfl ⟨rfl, rfl, rfl, rfl, rfl⟩ rfl rfl rfl rfl rfl (by kernel_rfl) Tryd.func8 (by kernel_rfl)
    (of_decide_eq_true (by kernel_rfl)) (by unfold Func.isWrapper; first | (rw [if_pos (by decide +kernel)]; kernel_rfl) | (rw [if_neg (by decide +kernel)]; exact ⟨rfl, rfl⟩))
    (fun os started H enc _ => topRelativesOfBoth_lifted os started H enc)

theorem topRelativesOfBoth_holds : Rows.TopRelativesOfBothCardSaid :=
  Claim7.holds_tied_plain_at .later [] [.data, .data, .data, .sentinel, .sentinel, .widerDeep] true (true, "a0d9a2353728ea79b086a747090c81b9a0a74b7d21e1d1052255b4b7a5fadd21") true
    topRelativesOfBoth_row (fun _ h => by cases h) (by kernel_rfl) (fun _ h => by cases h) topRelativesOfBoth_row_tie rfl ⟨rfl, rfl⟩ (by kernel_rfl) rfl
    (fun f fn hf hfn => by
      obtain rfl : f = 8 := Option.some.inj ((show Tryd.prog.funcNamed "changeforge/changeforgetop.TopRelativesOfBoth" = some 8 by kernel_rfl).symm.trans hf) |>.symm
      obtain rfl : fn = Tryd.f8 := (Option.some.inj (Tryd.func8.symm.trans hfn)).symm
      exact ⟨by kernel_rfl, fun j t ht => by
        rw [Tryd.params8] at ht
        have hm : t ∈ [22, 25, 3] := by simpa using Array.mem_of_getElem? ht
        have hall : ([22, 25, 3].all fun u => !Tryd.prog.wantsStandIn u) = true := by kernel_rfl
        exact (show Tryd.prog.wantsStandIn t = false by simpa using List.all_eq_true.1 hall t hm)⟩)
    (by kernel_rfl)
#print axioms topRelativesOfBoth_holds
end Go.Proofs.YtijaoedlhmdpnaaDoor
