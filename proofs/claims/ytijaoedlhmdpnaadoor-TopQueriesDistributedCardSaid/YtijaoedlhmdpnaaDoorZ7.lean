/- The common part of the laws on queries, text 7 of 7: contracts of the functions that they reach, and the plain mathematics. -/
import Derived.Test.YtijaoedlhmdpnaaDoorZ6
import Derived.Test.YtijaoedlhmdpnaaDoorRows
import Derived.Test.YtijaoedlhmdpnaaDoorZ3
import Derived.ProofKit
import Derived.LaidMore
import Derived.OpenShut
import Derived.ShutString
import Derived.SizedLaws
import Derived.ChangeOld
import Derived.Below
import Derived.Carry
import Derived.Deep.Slices
import Derived.Deep.Fields
import Derived.ChangeSame
import Derived.ChangeSlices
import Derived.Stop.Joined
import Derived.MakeChecks
import Derived.LaidHandle
set_option linter.unusedVariables false
set_option linter.unusedSimpArgs false
/- The twelve changes on trees, and that each leaves what a tree selects: plain Lean. -/
namespace Go.Proofs.YtijaoedlhmdpnaaDoor
open Go.RowKit Go.Proofs.YtijaoedlhmdpnaaDoor.PTopQueriesKept Go.Proofs.YtijaoedlhmdpnaaDoorW.PrintWords

namespace RT
def kind : RT → Int
  | nil => 0
  | node k _ _ _ => k
def num : RT → Int
  | nil => 0
  | node _ n _ _ => n
def lft : RT → RT
  | nil => nil
  | node _ _ l _ => l
def rgt : RT → RT
  | nil => nil
  | node _ _ _ r => r
/-- A node as wRevOf makes it. -/
abbrev N (k : Int) (l r : RT) : RT := node k 0 l r
end RT
open RT

def keptF (how : Int) (t : RT) : Option RT :=
  if pick how 7 = 0 then some (N 7 (N 7 t nil) nil) else if pick how 7 = 1 then some (N 14 t t) else if pick how 7 = 2 then some (N 15 t t) else if pick how 7 = 3 then some (N 14 (N 2 nil nil) t)
  else if pick how 7 = 4 then some (N 16 t (N 2 nil nil)) else if pick how 7 = 5 then some (N 15 t (N 1 nil nil)) else some (N 16 t (N 16 t t))
def deniedF (other : Bool) (t : RT) : Option RT :=
  if t.kind = 7 then some (N 16 (N 1 nil nil) t.lft)
  else if t.kind = 16 then some (N 15 t.lft (N 7 t.rgt nil))
  else if t.kind = 15 ∧ other = true then some (N 16 t.lft (N 7 t.rgt nil))
  else if t.kind = 15 ∨ t.kind = 14 then some (N 7 (N (29 - t.kind) (N 7 t.lft nil) (N 7 t.rgt nil)) nil)
  else none
def turnedF (group : Bool) (t : RT) : Option RT :=
  if t.kind = 16 ∧ t.lft.kind = 16 then some (N 16 t.lft.lft (N 14 t.lft.rgt t.rgt))
  else if t.kind = 16 ∧ t.rgt.kind = 14 then some (N 16 (N 16 t.lft t.rgt.lft) t.rgt.rgt)
  else if t.kind ≠ 14 ∧ t.kind ≠ 15 then none
  else if group = true ∧ t.lft.kind = t.kind then some (N t.kind t.lft.lft (N t.kind t.lft.rgt t.rgt))
  else if group = true ∧ t.rgt.kind = t.kind then some (N t.kind (N t.kind t.lft t.rgt.lft) t.rgt.rgt)
  else some (N t.kind t.rgt t.lft)
def absorbedF (how : Int) (d t : RT) : Option RT :=
  if pick how 3 = 0 then some (N 15 t (N 14 t d)) else if pick how 3 = 1 then some (N 14 (N 15 d t) t) else some (N 14 (N 15 t d) (N 16 t d))
def distF (t : RT) : Option RT :=
  if t.kind = 16 ∧ t.lft.kind = 14 then some (N 14 (N 16 t.lft.lft t.rgt) (N 16 t.lft.rgt t.rgt))
  else if t.kind = 16 ∧ t.lft.kind = 15 then some (N 15 t.lft.lft (N 16 t.lft.rgt t.rgt))
  else if t.kind ≠ 14 ∧ t.kind ≠ 15 then none
  else if t.rgt.kind = 29 - t.kind then some (N (29 - t.kind) (N t.kind t.lft t.rgt.lft) (N t.kind t.lft t.rgt.rgt))
  else if t.lft.kind = 29 - t.kind then some (N (29 - t.kind) (N t.kind t.rgt t.lft.lft) (N t.kind t.rgt t.lft.rgt))
  else none
def relF (t : RT) : Option RT :=
  if t.kind < 8 ∨ 11 < t.kind ∨ t.lft.kind ≠ 14 then none else some (N 14 (N t.kind t.lft.lft nil) (N t.kind t.lft.rgt nil))
def stepK (k : Int) : Int := if k = 8 ∨ k = 12 then 10 else 11
def unrolledF (behind : Bool) (t : RT) : Option RT :=
  if t.kind ≠ 8 ∧ t.kind ≠ 9 then none
  else if behind = true then some (N 14 (N (stepK t.kind) t nil) t.lft)
  else some (N 14 t.lft (N t.kind (N (stepK t.kind) t.lft nil) nil))
def twiceF (how : Int) (t : RT) : Option RT :=
  if t.kind ≠ 8 ∧ t.kind ≠ 9 then none
  else if pick how 3 = 0 then some (N t.kind t nil) else if pick how 3 = 1 then some (N t.kind (N 14 t.lft (N (stepK t.kind) t.lft nil)) nil) else some (N t.kind (N (if t.kind = 8 then 12 else 13) t.lft nil) nil)
def writtenF (t : RT) : Option RT :=
  if t.kind ≠ 12 ∧ t.kind ≠ 13 then none
  else some (N 16 t.lft (N (if t.kind = 12 then 8 else 9) (N (stepK t.kind) t.lft nil) nil))
def headsF (other : Bool) (t : RT) : Option RT :=
  if t.kind ≠ 12 ∧ t.kind ≠ 13 then none
  else if t.lft.kind = 14 ∧ other = true then some (N t.kind (N 14 (N t.kind t.lft.lft nil) (N t.kind t.lft.rgt nil)) nil)
  else if other = true then some (N t.kind (N (if t.kind = 12 then 8 else 9) t.lft nil) nil)
  else some (N t.kind t nil)
def timesF (later : Int) (earlier : Bool) (t : RT) : Option RT :=
  if t.kind ≠ 5 then none
  else if earlier = true then some (N 14 (node 5 (pick later (t.num + 1)) t.lft t.rgt) (N 16 t (node 5 (pick later (t.num + 1)) t.lft t.rgt)))
  else some (N 15 (node 5 (t.num + pick later 9) t.lft t.rgt) t)
def othersF (other : Int) (t : RT) : Option RT :=
  if t.kind = 6 then some (N 16 t (N 13 (N 1 nil nil) nil))
  else if t.kind ≠ 4 ∧ t.kind ≠ 3 then none
  else if pick other 8 = t.num then none
  else some (N 16 t (node t.kind (pick other 8) t.lft t.rgt))

/-- A change that serves: a right tree again, not much greater, that selects the same. -/
def Good (f : RT → Option RT) : Prop := ∀ t u, Sh t → NN t → f t = some u → Sh u ∧ u.size ≤ 3 * t.size + 200 ∧ ∀ cs, VH cs → ev cs u = ev cs t

theorem sh_all : Sh (N 1 nil nil) := .leaf (by decide) (by decide)
theorem sh_none : Sh (N 2 nil nil) := .leaf (by decide) (by decide)
section
variable {t l r : RT} {k : Int}
theorem Sh.u (hl : Sh l) (h7 : 7 ≤ k) (h13 : k ≤ 13) : Sh (N k l nil) := .un h7 h13 hl
theorem Sh.b (hl : Sh l) (hr : Sh r) (h14 : 14 ≤ k) (h16 : k ≤ 16) : Sh (N k l r) := .bin h14 h16 hl hr
theorem Sh.asUn (h : Sh t) (h7 : 7 ≤ t.kind) (h13 : t.kind ≤ 13) : t = RT.node t.kind t.num t.lft RT.nil ∧ Sh t.lft ∧ t.size = t.lft.size + 1 := by
  cases h with
  | leaf h1 h6 => simp only [RT.kind] at h7; omega
  | un _ _ hl => exact ⟨rfl, hl, by simp [RT.size, RT.lft]⟩
  | bin h14 _ _ _ => simp only [RT.kind] at h13; omega
theorem Sh.asBin (h : Sh t) (h14 : 14 ≤ t.kind) : t = RT.node t.kind t.num t.lft t.rgt ∧ Sh t.lft ∧ Sh t.rgt ∧ t.size = t.lft.size + t.rgt.size + 1 ∧ t.kind ≤ 16 := by
  cases h with
  | leaf h1 h6 => simp only [RT.kind] at h14; omega
  | un _ h13 hl => simp only [RT.kind] at h14; omega
  | bin _ h16 hl hr => exact ⟨rfl, hl, hr, rfl, h16⟩
theorem Sh.asLeaf (h : Sh t) (h6 : t.kind ≤ 6) : t = RT.node t.kind t.num RT.nil RT.nil ∧ t.size = 1 ∧ t.lft = nil ∧ t.rgt = nil ∧ 1 ≤ t.kind := by
  cases h with
  | leaf h1 _ => exact ⟨rfl, rfl, rfl, rfl, h1⟩
  | un h7 _ _ => simp only [RT.kind] at h6; omega
  | bin h14 _ _ _ => simp only [RT.kind] at h6; omega
theorem M_asBin {cs : List S51} (h : Sh t) (h14 : 14 ≤ t.kind) : M cs t = B t.kind (M cs t.lft) (M cs t.rgt) := by
  obtain ⟨e, hl, hr, _, h16⟩ := h.asBin h14
  have := M_B (cs := cs) (n := t.num) hl hr h14 h16
  rwa [← e] at this
theorem M_asUn {cs : List S51} (hv : VH cs) (h : Sh t) (h7 : 7 ≤ t.kind) (h13 : t.kind ≤ 13) : M cs t = U cs t.kind (M cs t.lft) := by
  obtain ⟨e, hl, _⟩ := h.asUn h7 h13
  have := M_U (cs := cs) (n := t.num) (r := nil) hv hl h7 h13
  rwa [← e] at this
end

theorem kept_good (how : Int) : Good (keptF how) := by
  intro t u hs hn h
  unfold keptF at h
  repeat' (split at h)
  all_goals (injection h with h; subst h)
  · have h1 := hs.u (k := 7) (by decide) (by decide)
    refine ⟨h1.u (by decide) (by decide), by simp [RT.size]; omega, fun cs hv => ev_of_M (h1.u (by decide) (by decide)) hs ?_⟩
    rw [M_not h1, M_not hs, M_sub (fun j h => M_lt hs h)]
  · have h1 := hs.b hs (k := 14) (by decide) (by decide)
    refine ⟨h1, by simp [RT.size]; omega, fun cs hv => ev_of_M h1 hs ?_⟩
    rw [M_or hs hs, or_self']
  · have h1 := hs.b hs (k := 15) (by decide) (by decide)
    refine ⟨h1, by simp [RT.size]; omega, fun cs hv => ev_of_M h1 hs ?_⟩
    rw [M_and hs hs, and_self'']
  · have h1 := sh_none.b hs (k := 14) (by decide) (by decide)
    refine ⟨h1, by simp [RT.size]; omega, fun cs hv => ev_of_M h1 hs ?_⟩
    rw [M_or sh_none hs, M_none, no_or]
  · have h1 := hs.b sh_none (k := 16) (by decide) (by decide)
    refine ⟨h1, by simp [RT.size]; omega, fun cs hv => ev_of_M h1 hs ?_⟩
    rw [M_mi hs sh_none, M_none, mi_no]
  · have h1 := hs.b sh_all (k := 15) (by decide) (by decide)
    refine ⟨h1, by simp [RT.size]; omega, fun cs hv => ev_of_M h1 hs ?_⟩
    rw [M_and hs sh_all, M_all, and_al (fun j h => M_lt hs h)]
  · have h0 := hs.b hs (k := 16) (by decide) (by decide)
    have h1 := hs.b h0 (k := 16) (by decide) (by decide)
    refine ⟨h1, by simp [RT.size]; omega, fun cs hv => ev_of_M h1 hs ?_⟩
    rw [M_mi hs h0, M_mi hs hs, mi_self, mi_no]

theorem denied_good (other : Bool) : Good (deniedF other) := by
  intro t u hs hn h
  unfold deniedF at h
  by_cases c1 : t.kind = 7
  · rw [if_pos c1] at h
    injection h with h; subst h
    obtain ⟨e, hl, hz⟩ := hs.asUn (by omega) (by omega)
    have h1 := sh_all.b hl (k := 16) (by decide) (by decide)
    refine ⟨h1, by simp [RT.size]; omega, fun cs hv => ev_of_M h1 hs ?_⟩
    rw [M_mi sh_all hl, M_all, M_asUn hv hs (by omega) (by omega), c1]
    rfl
  rw [if_neg c1] at h
  by_cases c2 : t.kind = 16
  · rw [if_pos c2] at h
    injection h with h; subst h
    obtain ⟨e, hl, hr, hz, _⟩ := hs.asBin (by omega)
    have h0 := hr.u (k := 7) (by decide) (by decide)
    have h1 := hl.b h0 (k := 15) (by decide) (by decide)
    refine ⟨h1, by simp [RT.size]; omega, fun cs hv => ev_of_M h1 hs ?_⟩
    rw [M_and hl h0, M_not hr, M_asBin hs (by omega), c2]
    exact set_ext fun j => ⟨fun h => ⟨h.1, h.2.2⟩, fun h => ⟨h.1, M_lt hl h.1, h.2⟩⟩
  rw [if_neg c2] at h
  by_cases c3 : t.kind = 15 ∧ other = true
  · rw [if_pos c3] at h
    injection h with h; subst h
    obtain ⟨e, hl, hr, hz, _⟩ := hs.asBin (by omega)
    have h0 := hr.u (k := 7) (by decide) (by decide)
    have h1 := hl.b h0 (k := 16) (by decide) (by decide)
    refine ⟨h1, by simp [RT.size]; omega, fun cs hv => ev_of_M h1 hs ?_⟩
    rw [M_mi hl h0, M_not hr, M_asBin hs (by omega), c3.1]
    exact set_ext fun j => ⟨fun h => ⟨h.1, Classical.byContradiction fun hn => h.2 ⟨M_lt hl h.1, hn⟩⟩, fun h => ⟨h.1, fun hm => hm.2 h.2⟩⟩
  rw [if_neg c3] at h
  by_cases c4 : t.kind = 15 ∨ t.kind = 14
  · rw [if_pos c4] at h
    injection h with h; subst h
    obtain ⟨e, hl, hr, hz, _⟩ := hs.asBin (by omega)
    have hl0 := hl.u (k := 7) (by decide) (by decide)
    have hr0 := hr.u (k := 7) (by decide) (by decide)
    have h0 := hl0.b hr0 (k := 29 - t.kind) (by omega) (by omega)
    have h1 := h0.u (k := 7) (by decide) (by decide)
    refine ⟨h1, by simp [RT.size]; omega, fun cs hv => ev_of_M h1 hs ?_⟩
    rw [M_not h0, M_asBin hs (by omega)]
    rcases c4 with c4 | c4
    · rw [c4]
      have : (29 : Int) - 15 = 14 := by decide
      rw [this, M_or hl0 hr0, M_not hl, M_not hr]
      refine set_ext fun j => ⟨fun h => ?_, fun h => ⟨M_lt hl h.1, fun hm => hm.elim (fun hm => hm.2 h.1) (fun hm => hm.2 h.2)⟩⟩
      exact ⟨Classical.byContradiction fun hn => h.2 (.inl ⟨h.1, hn⟩), Classical.byContradiction fun hn => h.2 (.inr ⟨h.1, hn⟩)⟩
    · rw [c4]
      have : (29 : Int) - 14 = 15 := by decide
      rw [this, M_and hl0 hr0, M_not hl, M_not hr]
      refine set_ext fun j => ⟨fun h => ?_, fun h => ⟨h.elim (M_lt hl) (M_lt hr), fun hm => h.elim hm.1.2 hm.2.2⟩⟩
      by_cases hj : M cs t.lft j
      · exact .inl hj
      · exact .inr (Classical.byContradiction fun hn => h.2 ⟨⟨h.1, hj⟩, ⟨h.1, hn⟩⟩)
  rw [if_neg c4] at h
  cases h

theorem turned_good (group : Bool) : Good (turnedF group) := by
  intro t u hs hn h
  unfold turnedF at h
  by_cases c1 : t.kind = 16 ∧ t.lft.kind = 16
  · rw [if_pos c1] at h
    injection h with h; subst h
    obtain ⟨e, hl, hr, hz, _⟩ := hs.asBin (by omega)
    obtain ⟨e', hll, hlr, hz', _⟩ := hl.asBin (by omega)
    have h0 := hlr.b hr (k := 14) (by decide) (by decide)
    have h1 := hll.b h0 (k := 16) (by decide) (by decide)
    refine ⟨h1, by simp [RT.size]; omega, fun cs hv => ev_of_M h1 hs ?_⟩
    rw [M_mi hll h0, M_or hlr hr, M_asBin hs (by omega), M_asBin hl (by omega), c1.1, c1.2]
    exact set_ext fun j => ⟨fun h => ⟨⟨h.1, fun h' => h.2 (.inl h')⟩, fun h' => h.2 (.inr h')⟩, fun h => ⟨h.1.1, fun h' => h'.elim h.1.2 h.2⟩⟩
  rw [if_neg c1] at h
  by_cases c2 : t.kind = 16 ∧ t.rgt.kind = 14
  · rw [if_pos c2] at h
    injection h with h; subst h
    obtain ⟨e, hl, hr, hz, _⟩ := hs.asBin (by omega)
    obtain ⟨e', hrl, hrr, hz', _⟩ := hr.asBin (by omega)
    have h0 := hl.b hrl (k := 16) (by decide) (by decide)
    have h1 := h0.b hrr (k := 16) (by decide) (by decide)
    refine ⟨h1, by simp [RT.size]; omega, fun cs hv => ev_of_M h1 hs ?_⟩
    rw [M_mi h0 hrr, M_mi hl hrl, M_asBin hs (by omega), M_asBin hr (by omega), c2.1, c2.2]
    exact set_ext fun j => ⟨fun h => ⟨h.1.1, fun h' => h'.elim h.1.2 h.2⟩, fun h => ⟨⟨h.1, fun h' => h.2 (.inl h')⟩, fun h' => h.2 (.inr h')⟩⟩
  rw [if_neg c2] at h
  by_cases c3 : t.kind ≠ 14 ∧ t.kind ≠ 15
  · rw [if_pos c3] at h; cases h
  rw [if_neg c3] at h
  have hk : t.kind = 14 ∨ t.kind = 15 := by omega
  obtain ⟨e, hl, hr, hz, _⟩ := hs.asBin (by omega)
  by_cases c4 : group = true ∧ t.lft.kind = t.kind
  · rw [if_pos c4] at h
    injection h with h; subst h
    obtain ⟨e', hll, hlr, hz', _⟩ := hl.asBin (by omega)
    have h0 := hlr.b hr (k := t.kind) (by omega) (by omega)
    have h1 := hll.b h0 (k := t.kind) (by omega) (by omega)
    refine ⟨h1, by simp [RT.size]; omega, fun cs hv => ev_of_M h1 hs ?_⟩
    rw [M_B hll h0 (by omega) (by omega), M_B hlr hr (by omega) (by omega), M_asBin hs (by omega), M_asBin hl (by omega), c4.2]
    rcases hk with hk | hk <;> rw [hk]
    · exact set_ext fun j => (or_assoc).symm
    · exact set_ext fun j => (and_assoc).symm
  rw [if_neg c4] at h
  by_cases c5 : group = true ∧ t.rgt.kind = t.kind
  · rw [if_pos c5] at h
    injection h with h; subst h
    obtain ⟨e', hrl, hrr, hz', _⟩ := hr.asBin (by omega)
    have h0 := hl.b hrl (k := t.kind) (by omega) (by omega)
    have h1 := h0.b hrr (k := t.kind) (by omega) (by omega)
    refine ⟨h1, by simp [RT.size]; omega, fun cs hv => ev_of_M h1 hs ?_⟩
    rw [M_B h0 hrr (by omega) (by omega), M_B hl hrl (by omega) (by omega), M_asBin hs (by omega), M_asBin hr (by omega), c5.2]
    rcases hk with hk | hk <;> rw [hk]
    · exact set_ext fun j => or_assoc
    · exact set_ext fun j => and_assoc
  rw [if_neg c5] at h
  injection h with h; subst h
  have h1 := hr.b hl (k := t.kind) (by omega) (by omega)
  refine ⟨h1, by simp [RT.size]; omega, fun cs hv => ev_of_M h1 hs ?_⟩
  rw [M_B hr hl (by omega) (by omega), M_asBin hs (by omega)]
  rcases hk with hk | hk <;> rw [hk]
  · exact set_ext fun j => or_comm
  · exact set_ext fun j => and_comm

theorem absorbed_good (how : Int) {d : RT} (hd : Sh d) (hz : d.size ≤ 40) : Good (absorbedF how d) := by
  intro t u hs hn h
  unfold absorbedF at h
  repeat' (split at h)
  all_goals (injection h with h; subst h)
  · have h0 := hs.b hd (k := 14) (by decide) (by decide)
    have h1 := hs.b h0 (k := 15) (by decide) (by decide)
    refine ⟨h1, by simp [RT.size]; omega, fun cs hv => ev_of_M h1 hs ?_⟩
    rw [M_and hs h0, M_or hs hd]
    exact set_ext fun j => ⟨fun h => h.1, fun h => ⟨h, .inl h⟩⟩
  · have h0 := hd.b hs (k := 15) (by decide) (by decide)
    have h1 := h0.b hs (k := 14) (by decide) (by decide)
    refine ⟨h1, by simp [RT.size]; omega, fun cs hv => ev_of_M h1 hs ?_⟩
    rw [M_or h0 hs, M_and hd hs]
    exact set_ext fun j => ⟨fun h => h.elim (fun h => h.2) id, .inr⟩
  · have h0 := hs.b hd (k := 15) (by decide) (by decide)
    have h0' := hs.b hd (k := 16) (by decide) (by decide)
    have h1 := h0.b h0' (k := 14) (by decide) (by decide)
    refine ⟨h1, by simp [RT.size]; omega, fun cs hv => ev_of_M h1 hs ?_⟩
    rw [M_or h0 h0', M_and hs hd, M_mi hs hd]
    refine set_ext fun j => ⟨fun h => h.elim (fun h => h.1) (fun h => h.1), fun h => ?_⟩
    by_cases hj : M cs d j
    · exact .inl ⟨h, hj⟩
    · exact .inr ⟨h, hj⟩

theorem dist_good : Good distF := by
  intro t u hs hn h
  unfold distF at h
  by_cases c1 : t.kind = 16 ∧ t.lft.kind = 14
  · rw [if_pos c1] at h
    injection h with h; subst h
    obtain ⟨e, hl, hr, hz, _⟩ := hs.asBin (by omega)
    obtain ⟨e', hll, hlr, hz', _⟩ := hl.asBin (by omega)
    have h0 := hll.b hr (k := 16) (by decide) (by decide)
    have h0' := hlr.b hr (k := 16) (by decide) (by decide)
    have h1 := h0.b h0' (k := 14) (by decide) (by decide)
    refine ⟨h1, by simp [RT.size]; omega, fun cs hv => ev_of_M h1 hs ?_⟩
    rw [M_or h0 h0', M_mi hll hr, M_mi hlr hr, M_asBin hs (by omega), M_asBin hl (by omega), c1.1, c1.2]
    exact set_ext fun j => ⟨fun h => h.elim (fun h => ⟨.inl h.1, h.2⟩) (fun h => ⟨.inr h.1, h.2⟩), fun h => h.1.elim (fun h' => .inl ⟨h', h.2⟩) (fun h' => .inr ⟨h', h.2⟩)⟩
  rw [if_neg c1] at h
  by_cases c2 : t.kind = 16 ∧ t.lft.kind = 15
  · rw [if_pos c2] at h
    injection h with h; subst h
    obtain ⟨e, hl, hr, hz, _⟩ := hs.asBin (by omega)
    obtain ⟨e', hll, hlr, hz', _⟩ := hl.asBin (by omega)
    have h0 := hlr.b hr (k := 16) (by decide) (by decide)
    have h1 := hll.b h0 (k := 15) (by decide) (by decide)
    refine ⟨h1, by simp [RT.size]; omega, fun cs hv => ev_of_M h1 hs ?_⟩
    rw [M_and hll h0, M_mi hlr hr, M_asBin hs (by omega), M_asBin hl (by omega), c2.1, c2.2]
    exact set_ext fun j => and_assoc.symm
  rw [if_neg c2] at h
  by_cases c3 : t.kind ≠ 14 ∧ t.kind ≠ 15
  · rw [if_pos c3] at h; cases h
  rw [if_neg c3] at h
  have hk : t.kind = 14 ∨ t.kind = 15 := by omega
  obtain ⟨e, hl, hr, hz, _⟩ := hs.asBin (by omega)
  by_cases c4 : t.rgt.kind = 29 - t.kind
  · rw [if_pos c4] at h
    injection h with h; subst h
    obtain ⟨e', hrl, hrr, hz', _⟩ := hr.asBin (by omega)
    have h0 := hl.b hrl (k := t.kind) (by omega) (by omega)
    have h0' := hl.b hrr (k := t.kind) (by omega) (by omega)
    have h1 := h0.b h0' (k := 29 - t.kind) (by omega) (by omega)
    refine ⟨h1, by simp [RT.size]; omega, fun cs hv => ev_of_M h1 hs ?_⟩
    rw [M_B h0 h0' (by omega) (by omega), M_B hl hrl (by omega) (by omega), M_B hl hrr (by omega) (by omega), M_asBin hs (by omega), M_asBin hr (by omega), c4]
    rcases hk with hk | hk <;> rw [hk]
    · exact set_ext fun j => or_and_left.symm
    · exact set_ext fun j => and_or_left.symm
  rw [if_neg c4] at h
  by_cases c5 : t.lft.kind = 29 - t.kind
  · rw [if_pos c5] at h
    injection h with h; subst h
    obtain ⟨e', hll, hlr, hz', _⟩ := hl.asBin (by omega)
    have h0 := hr.b hll (k := t.kind) (by omega) (by omega)
    have h0' := hr.b hlr (k := t.kind) (by omega) (by omega)
    have h1 := h0.b h0' (k := 29 - t.kind) (by omega) (by omega)
    refine ⟨h1, by simp [RT.size]; omega, fun cs hv => ev_of_M h1 hs ?_⟩
    rw [M_B h0 h0' (by omega) (by omega), M_B hr hll (by omega) (by omega), M_B hr hlr (by omega) (by omega), M_asBin hs (by omega), M_asBin hl (by omega), c5]
    rcases hk with hk | hk <;> rw [hk]
    · exact set_ext fun j => or_and_left.symm.trans or_comm
    · exact set_ext fun j => and_or_left.symm.trans and_comm
  rw [if_neg c5] at h
  cases h

theorem rel_good : Good relF := by
  intro t u hs hn h
  unfold relF at h
  by_cases c1 : t.kind < 8 ∨ 11 < t.kind ∨ t.lft.kind ≠ 14
  · rw [if_pos c1] at h; cases h
  rw [if_neg c1] at h
  injection h with h; subst h
  have c2 : 8 ≤ t.kind ∧ t.kind ≤ 11 ∧ t.lft.kind = 14 := by omega
  obtain ⟨e, hl, hz⟩ := hs.asUn (by omega) (by omega)
  obtain ⟨e', hll, hlr, hz', _⟩ := hl.asBin (by omega)
  have h0 := hll.u (k := t.kind) (by omega) (by omega)
  have h0' := hlr.u (k := t.kind) (by omega) (by omega)
  have h1 := h0.b h0' (k := 14) (by omega) (by omega)
  refine ⟨h1, by simp [RT.size]; omega, fun cs hv => ev_of_M h1 hs ?_⟩
  rw [M_or h0 h0', M_U hv hll (by omega) (by omega), M_U hv hlr (by omega) (by omega), M_asUn hv hs (by omega) (by omega), M_asBin hl (by omega), c2.2.2]
  have hk : t.kind = 8 ∨ t.kind = 9 ∨ t.kind = 10 ∨ t.kind = 11 := by omega
  rcases hk with hk | hk | hk | hk <;> rw [hk]
  · exact an_or.symm
  · exact an_or.symm
  · exact st_or.symm
  · exact st_or.symm

/-- The two directions. -/
theorem an_cases {k : Int} (h : ¬ (k ≠ 8 ∧ k ≠ 9)) : ∃ up : Bool, k = (if up = true then 8 else 9) ∧ stepK k = (if up = true then 10 else 11) ∧ (if k = 8 then (12 : Int) else 13) = (if up = true then 12 else 13) ∧ ∀ cs S, U cs k S = An cs up S := by
  have hk : k = 8 ∨ k = 9 := by omega
  rcases hk with rfl | rfl
  · exact ⟨true, rfl, rfl, rfl, fun _ _ => rfl⟩
  · exact ⟨false, rfl, rfl, rfl, fun _ _ => rfl⟩
theorem hd_cases {k : Int} (h : ¬ (k ≠ 12 ∧ k ≠ 13)) : ∃ up : Bool, k = (if up = true then 12 else 13) ∧ stepK k = (if up = true then 10 else 11) ∧ (if k = 12 then (8 : Int) else 9) = (if up = true then 8 else 9) ∧ ∀ cs S, U cs k S = Hd cs up S := by
  have hk : k = 12 ∨ k = 13 := by omega
  rcases hk with rfl | rfl
  · exact ⟨true, rfl, rfl, rfl, fun _ _ => rfl⟩
  · exact ⟨false, rfl, rfl, rfl, fun _ _ => rfl⟩
theorem an_self_or {cs : List S51} {up : Bool} {S : Nat → Prop} : An cs up (Or S (St cs up S)) = An cs up S := by
  rw [an_or, ← st_an]
  refine set_ext fun j => ⟨fun h => h.elim id (fun h => ?_), .inl⟩
  rw [an_eq]
  exact .inr h

theorem unrolled_good (behind : Bool) : Good (unrolledF behind) := by
  intro t u hs hn h
  unfold unrolledF at h
  by_cases c1 : t.kind ≠ 8 ∧ t.kind ≠ 9
  · rw [if_pos c1] at h; cases h
  rw [if_neg c1] at h
  obtain ⟨up, hk, hst, _, hU⟩ := an_cases c1
  obtain ⟨e, hl, hz⟩ := hs.asUn (by omega) (by omega)
  have hsb : 7 ≤ stepK t.kind ∧ stepK t.kind ≤ 13 := by rw [hst]; cases up <;> decide
  by_cases c2 : behind = true
  · rw [if_pos c2] at h
    injection h with h; subst h
    have h0 := hs.u (k := stepK t.kind) hsb.1 hsb.2
    have h1 := h0.b hl (k := 14) (by omega) (by omega)
    refine ⟨h1, by simp [RT.size]; omega, fun cs hv => ev_of_M h1 hs ?_⟩
    rw [M_or h0 hl, hst, M_st hv up, M_asUn hv hs (by omega) (by omega), hU]
    conv => rhs; rw [an_eq]
    exact set_ext fun j => or_comm
  · rw [if_neg c2] at h
    injection h with h; subst h
    have h0 := hl.u (k := stepK t.kind) hsb.1 hsb.2
    have h0' := h0.u (k := t.kind) (by omega) (by omega)
    have h1 := hl.b h0' (k := 14) (by omega) (by omega)
    refine ⟨h1, by simp [RT.size]; omega, fun cs hv => ev_of_M h1 hs ?_⟩
    rw [M_or hl h0', M_U hv h0 (by omega) (by omega), hU, hst, M_st hv up, M_asUn hv hs (by omega) (by omega), hU]
    exact an_unroll.symm

theorem twice_good (how : Int) : Good (twiceF how) := by
  intro t u hs hn h
  unfold twiceF at h
  by_cases c1 : t.kind ≠ 8 ∧ t.kind ≠ 9
  · rw [if_pos c1] at h; cases h
  rw [if_neg c1] at h
  obtain ⟨up, hk, hst, hen, hU⟩ := an_cases c1
  obtain ⟨e, hl, hz⟩ := hs.asUn (by omega) (by omega)
  have hsb : 7 ≤ stepK t.kind ∧ stepK t.kind ≤ 13 := by rw [hst]; cases up <;> decide
  rw [hen] at h
  have heb : 7 ≤ (if up = true then (12 : Int) else 13) ∧ (if up = true then (12 : Int) else 13) ≤ 13 := by cases up <;> decide
  by_cases c2 : pick how 3 = 0
  · rw [if_pos c2] at h
    injection h with h; subst h
    have h1 := hs.u (k := t.kind) (by omega) (by omega)
    refine ⟨h1, by simp [RT.size]; omega, fun cs hv => ev_of_M h1 hs ?_⟩
    rw [M_U hv hs (by omega) (by omega), M_asUn hv hs (by omega) (by omega), hU, hU, an_an]
  rw [if_neg c2] at h
  by_cases c3 : pick how 3 = 1
  · rw [if_pos c3] at h
    injection h with h; subst h
    have h0 := hl.u (k := stepK t.kind) hsb.1 hsb.2
    have h0' := hl.b h0 (k := 14) (by omega) (by omega)
    have h1 := h0'.u (k := t.kind) (by omega) (by omega)
    refine ⟨h1, by simp [RT.size]; omega, fun cs hv => ev_of_M h1 hs ?_⟩
    rw [M_U hv h0' (by omega) (by omega), hU, M_or hl h0, hst, M_st hv up, M_asUn hv hs (by omega) (by omega), hU, an_self_or]
  · rw [if_neg c3] at h
    injection h with h; subst h
    have h0 := hl.u heb.1 heb.2
    have h1 := h0.u (k := t.kind) (by omega) (by omega)
    refine ⟨h1, by simp [RT.size]; omega, fun cs hv => ev_of_M h1 hs ?_⟩
    rw [M_U hv h0 (by omega) (by omega), hU, M_hd hv hl up, M_asUn hv hs (by omega) (by omega), hU, an_hd hv]

theorem written_good : Good writtenF := by
  intro t u hs hn h
  unfold writtenF at h
  by_cases c1 : t.kind ≠ 12 ∧ t.kind ≠ 13
  · rw [if_pos c1] at h; cases h
  rw [if_neg c1] at h
  obtain ⟨up, hk, hst, hen, hU⟩ := hd_cases c1
  obtain ⟨e, hl, hz⟩ := hs.asUn (by omega) (by omega)
  have hsb : 7 ≤ stepK t.kind ∧ stepK t.kind ≤ 13 := by rw [hst]; cases up <;> decide
  rw [hen] at h
  have heb : 7 ≤ (if up = true then (8 : Int) else 9) ∧ (if up = true then (8 : Int) else 9) ≤ 13 := by cases up <;> decide
  injection h with h; subst h
  have h0 := hl.u (k := stepK t.kind) hsb.1 hsb.2
  have h0' := h0.u heb.1 heb.2
  have h1 := hl.b h0' (k := 16) (by omega) (by omega)
  refine ⟨h1, by simp [RT.size]; omega, fun cs hv => ev_of_M h1 hs ?_⟩
  rw [M_mi hl h0', M_an hv h0 up, hst, M_st hv up, M_asUn hv hs (by omega) (by omega), hU]
  exact hd_mi.symm

theorem heads_good (other : Bool) : Good (headsF other) := by
  intro t u hs hn h
  unfold headsF at h
  by_cases c1 : t.kind ≠ 12 ∧ t.kind ≠ 13
  · rw [if_pos c1] at h; cases h
  rw [if_neg c1] at h
  obtain ⟨up, hk, hst, hen, hU⟩ := hd_cases c1
  obtain ⟨e, hl, hz⟩ := hs.asUn (by omega) (by omega)
  rw [hen] at h
  have heb : 7 ≤ (if up = true then (8 : Int) else 9) ∧ (if up = true then (8 : Int) else 9) ≤ 13 := by cases up <;> decide
  by_cases c2 : t.lft.kind = 14 ∧ other = true
  · rw [if_pos c2] at h
    injection h with h; subst h
    obtain ⟨e', hll, hlr, hz', _⟩ := hl.asBin (by omega)
    have h0 := hll.u (k := t.kind) (by omega) (by omega)
    have h0' := hlr.u (k := t.kind) (by omega) (by omega)
    have h2 := h0.b h0' (k := 14) (by omega) (by omega)
    have h1 := h2.u (k := t.kind) (by omega) (by omega)
    refine ⟨h1, by simp [RT.size]; omega, fun cs hv => ev_of_M h1 hs ?_⟩
    rw [M_U hv h2 (by omega) (by omega), hU, M_or h0 h0', M_U hv hll (by omega) (by omega), M_U hv hlr (by omega) (by omega), hU, hU, M_asUn hv hs (by omega) (by omega), hU, M_asBin hl (by omega), c2.1]
    exact hd_or hv
  rw [if_neg c2] at h
  by_cases c3 : other = true
  · rw [if_pos c3] at h
    injection h with h; subst h
    have h0 := hl.u heb.1 heb.2
    have h1 := h0.u (k := t.kind) (by omega) (by omega)
    refine ⟨h1, by simp [RT.size]; omega, fun cs hv => ev_of_M h1 hs ?_⟩
    rw [M_U hv h0 (by omega) (by omega), hU, M_an hv hl up, M_asUn hv hs (by omega) (by omega), hU, hd_an]
  · rw [if_neg c3] at h
    injection h with h; subst h
    have h1 := hs.u (k := t.kind) (by omega) (by omega)
    refine ⟨h1, by simp [RT.size]; omega, fun cs hv => ev_of_M h1 hs ?_⟩
    rw [M_U hv hs (by omega) (by omega), M_asUn hv hs (by omega) (by omega), hU, hU, hd_hd hv]

theorem NN.num {t : RT} (h : NN t) : 0 ≤ t.num ∧ t.num ≤ 100000 := by
  cases t with
  | nil => exact ⟨by decide, by decide⟩
  | node k n l r => exact ⟨h.1, h.2.1⟩
theorem times_good (later : Int) (earlier : Bool) : Good (timesF later earlier) := by
  intro t u hs hn h
  unfold timesF at h
  by_cases c1 : t.kind ≠ 5
  · rw [if_pos c1] at h; cases h
  rw [if_neg c1] at h
  have hk : t.kind = 5 := by omega
  obtain ⟨e, hz, hl, hr, _⟩ := hs.asLeaf (by omega)
  obtain ⟨hn0, hn1⟩ := hn.num
  have hM : ∀ cs, M cs t = fun j => j < cs.length ∧ (cs.getD j z51).f2 < t.num := fun cs => by
    have := M_before (cs := cs) (n := t.num) (l := nil) (r := nil)
    rw [← hk, ← e] at this
    exact this
  rw [hl, hr] at h
  by_cases c2 : earlier = true
  · rw [if_pos c2] at h
    injection h with h; subst h
    obtain ⟨hp0, hp1⟩ := pick_range later (t.num + 1) (by omega)
    have ho : Sh (node 5 (pick later (t.num + 1)) nil nil) := .leaf (by decide) (by decide)
    have h0 := hs.b ho (k := 16) (by decide) (by decide)
    have h1 := ho.b h0 (k := 14) (by decide) (by decide)
    refine ⟨h1, by simp [RT.size]; omega, fun cs hv => ev_of_M h1 hs ?_⟩
    rw [M_or ho h0, M_mi hs ho, M_before, hM cs]
    refine set_ext fun j => ⟨fun h => h.elim (fun h => ⟨h.1, by omega⟩) (fun h => h.1), fun h => ?_⟩
    by_cases hj : (cs.getD j z51).f2 < pick later (t.num + 1)
    · exact .inl ⟨h.1, hj⟩
    · exact .inr ⟨h, fun h' => hj h'.2⟩
  · rw [if_neg c2] at h
    injection h with h; subst h
    obtain ⟨hp0, hp1⟩ := pick_range later 9 (by decide)
    have ho : Sh (node 5 (t.num + pick later 9) nil nil) := .leaf (by decide) (by decide)
    have h1 := ho.b hs (k := 15) (by decide) (by decide)
    refine ⟨h1, by simp [RT.size]; omega, fun cs hv => ev_of_M h1 hs ?_⟩
    rw [M_and ho hs, M_before, hM cs]
    exact set_ext fun j => ⟨fun h => h.2, fun h => ⟨⟨h.1, by have := h.2; omega⟩, h⟩⟩

theorem others_good (other : Int) : Good (othersF other) := by
  intro t u hs hn h
  unfold othersF at h
  by_cases c1 : t.kind = 6
  · rw [if_pos c1] at h
    injection h with h; subst h
    obtain ⟨e, hz, hl, hr, _⟩ := hs.asLeaf (by omega)
    have h0 := sh_all.u (k := 13) (by decide) (by decide)
    have h1 := hs.b h0 (k := 16) (by decide) (by decide)
    refine ⟨h1, by simp [RT.size]; omega, fun cs hv => ev_of_M h1 hs ?_⟩
    have hM : M cs t = fun j => j < cs.length ∧ 1 < (pars cs j).length := by
      have := M_merges (cs := cs) (n := t.num) (l := nil) (r := nil)
      rw [← c1, ← e] at this
      exact this
    have hH : M cs (N 13 (N 1 nil nil) nil) = Hd cs false (M cs (N 1 nil nil)) := M_hd (n := 0) (r := nil) hv sh_all false
    rw [M_mi hs h0, hH, M_all, hM]
    refine set_ext fun j => ⟨fun h => h.1, fun h => ⟨h, fun h' => h'.2 ?_⟩⟩
    rw [an_al]
    obtain ⟨p, hp⟩ : ∃ p, p ∈ pars cs j := ⟨(pars cs j)[0]'(by have := h.2; omega), List.getElem_mem _⟩
    obtain ⟨hp0, hp1⟩ := (hv.2 j h.1).2 p hp
    refine ⟨p.toNat, ?_, ?_, h.1, ?_⟩
    · show p.toNat < cs.length
      have := h.1
      omega
    · have := h.1
      omega
    · simp only [Bool.false_eq_true, if_false]
      rw [Int.toNat_of_nonneg hp0]
      exact hp
  rw [if_neg c1] at h
  by_cases c2 : t.kind ≠ 4 ∧ t.kind ≠ 3
  · rw [if_pos c2] at h; cases h
  rw [if_neg c2] at h
  by_cases c3 : pick other 8 = t.num
  · rw [if_pos c3] at h; cases h
  rw [if_neg c3] at h
  injection h with h; subst h
  obtain ⟨e, hz, hl, hr, _⟩ := hs.asLeaf (by omega)
  rw [hl, hr]
  have ho : Sh (node t.kind (pick other 8) nil nil) := .leaf (by omega) (by omega)
  have h1 := hs.b ho (k := 16) (by decide) (by decide)
  refine ⟨h1, by simp [RT.size]; omega, fun cs hv => ev_of_M h1 hs ?_⟩
  rw [M_mi hs ho]
  have hk : t.kind = 4 ∨ t.kind = 3 := by omega
  refine set_ext fun j => ⟨fun h => h.1, fun h => ⟨h, fun h' => c3 ?_⟩⟩
  rcases hk with hk | hk
  · rw [e, hk, M_author] at h
    rw [hk, M_author] at h'
    exact h'.2.symm.trans h.2
  · rw [e, hk, M_commit] at h
    rw [hk, M_commit] at h'
    exact h'.2.symm.trans h.2

/-! ### in a place of the tree -/
theorem ev_put {cs : List S51} {u : RT} : ∀ {t : RT} (i : Nat) (s : RT), t.subs[i]? = some s → ev cs u = ev cs s → ev cs (t.put u i) = ev cs t
  | nil, i, s, h, _ => by simp [RT.subs] at h
  | node k n l r, i, s, h, he => by
    cases i with
    | zero =>
      simp [RT.subs] at h
      subst h
      exact he
    | succ i =>
      simp only [RT.subs, List.getElem?_cons_succ] at h
      simp only [RT.put]
      by_cases hi : i < l.size
      · rw [if_pos hi]
        rw [List.getElem?_append_left (by rw [RT.subs_length]; exact hi)] at h
        simp only [ev, ev_put i s h he]
      · rw [if_neg hi]
        rw [List.getElem?_append_right (by rw [RT.subs_length]; omega), RT.subs_length] at h
        simp only [ev, ev_put _ s h he]
theorem size_put {u : RT} : ∀ (t : RT) (i : Nat), (t.put u i).size ≤ t.size + u.size
  | nil, i => by simp [RT.put, RT.size]
  | node k n l r, i => by
    cases i with
    | zero => simp [RT.put, RT.size]
    | succ i =>
      have h1 := size_put (u := u) l i
      have h2 := size_put (u := u) r (i - l.size)
      simp only [RT.put]
      split <;> simp only [RT.size] <;> omega
theorem sub_size : ∀ {t s : RT} {i : Nat}, t.subs[i]? = some s → s.size ≤ t.size
  | nil, s, i, h => by simp [RT.subs] at h
  | node k n l r, s, i, h => by
    cases i with
    | zero => simp [RT.subs] at h; subst h; exact Nat.le_refl _
    | succ i =>
      simp only [RT.subs, List.getElem?_cons_succ] at h
      by_cases hi : i < l.size
      · rw [List.getElem?_append_left (by rw [RT.subs_length]; exact hi)] at h
        have := sub_size h
        simp only [RT.size]; omega
      · rw [List.getElem?_append_right (by rw [RT.subs_length]; omega), RT.subs_length] at h
        have := sub_size h
        simp only [RT.size]; omega
theorem putAt_parts {which : Int} {f : RT → Option RT} {t u : RT} (h : putAt which f t = some u) : ∃ i s v, t.subs[i]? = some s ∧ f s = some v ∧ u = t.put v i := by
  unfold putAt at h
  by_cases he : hits f t.subs t.size = []
  · simp [he] at h
  · simp only [he, if_false] at h
    obtain ⟨v, hv, hu⟩ := Option.map_eq_some_iff.1 h
    have hlen : 0 < (hits f t.subs t.size).length := List.length_pos_iff.2 he
    obtain ⟨hp0, hp1⟩ := pick_range which (hits f t.subs t.size).length (by omega)
    have hi : (pick which (hits f t.subs t.size).length).toNat < (hits f t.subs t.size).length := by omega
    have hmem : (hits f t.subs t.size).getD (pick which (hits f t.subs t.size).length).toNat 0 ∈ hits f t.subs t.size := by
      rw [List.getD_eq_getElem?_getD, List.getElem?_eq_getElem hi]
      exact List.getElem_mem hi
    obtain ⟨h1, _⟩ := hits_mem hmem
    refine ⟨_, _, v, ?_, hv, hu.symm⟩
    rw [List.getD_eq_getElem?_getD (l := t.subs), List.getElem?_eq_getElem (by rw [RT.subs_length]; exact h1)]
    simp
/-- wPut's change serves where the tree's does. -/
theorem Good.put {f : RT → Option RT} (h : Good f) (which : Int) {t u : RT} (hs : Sh t) (hn : NN t) (hz : t.size ≤ 40) (hu : putAt which f t = some u) : u.size ≤ 100000 ∧ ∀ cs, VH cs → ev cs u = ev cs t := by
  obtain ⟨i, s, v, h1, h2, rfl⟩ := putAt_parts hu
  have hm := List.mem_of_getElem? h1
  obtain ⟨_, h4, h5⟩ := h s v (hs.sub s hm) (hn.sub s hm) h2
  have h6 := sub_size h1
  have h7 := size_put (u := v) t i
  exact ⟨by omega, fun cs hv => ev_put i s h1 (h5 cs hv)⟩

end Go.Proofs.YtijaoedlhmdpnaaDoor
/- The laws' common frame: wPut; a law's question to wQuery. -/
namespace Go.Proofs.YtijaoedlhmdpnaaDoor
open Go.RowKit Go.Proofs.YtijaoedlhmdpnaaDoor.PTopQueriesKept Go.Proofs.YtijaoedlhmdpnaaDoorW.PrintWords

/-- wPut hands back its change. -/
def RetPut (which : Int) (F : FuncId) (caps : Array Value) (w : World) (e : Ending) (w' : World) : Prop :=
  ∃ c1 c2, e = .returned (.func (.func 44) #[] #[.pointer (some ⟨c1, 0, none⟩), .pointer (some ⟨c2, 0, none⟩)]) ∧ Bel w w' ∧ w'.cell? ⟨c1, 0, none⟩ = some (.func (.func F) #[] caps) ∧ w'.cell? ⟨c2, 0, none⟩ = some (.int .i64 which)
set_option maxHeartbeats 1000000 in
theorem wPut_any (which : Int) (F : FuncId) (caps : Array Value) (w : World) : Calls Tryd.prog 16 #[.int .i64 which, .func (.func F) #[] caps] w (RetPut which F caps w) := by
  go_enter Tryd.func16, Tryd.ntmps16
  go_wp2_with fail
  go_ret
  exact ⟨w.heap.size + 1, w.heap.size, rfl, (Bel.alloc _ _).thenAlloc _, by simp, by simp⟩

/-- Cells that nothing has turned. -/
theorem keep1 {w w1 w2 : World} {a0 : Addr} {u0 : Value} (h : Bel w w1 ∧ w1.cell? a0 = some u0) (hw : Bel w1 w2) : Bel w w2 ∧ w2.cell? a0 = some u0 := ⟨h.1.trans hw, hw.cell h.2⟩
theorem keep2 {w w1 w2 : World} {a0 a1 : Addr} {u0 u1 : Value} (h : Bel w w1 ∧ w1.cell? a0 = some u0 ∧ w1.cell? a1 = some u1) (hw : Bel w1 w2) : Bel w w2 ∧ w2.cell? a0 = some u0 ∧ w2.cell? a1 = some u1 := ⟨h.1.trans hw, hw.cell h.2.1, hw.cell h.2.2⟩
theorem keep3 {w w1 w2 : World} {a0 a1 a2 : Addr} {u0 u1 u2 : Value} (h : Bel w w1 ∧ w1.cell? a0 = some u0 ∧ w1.cell? a1 = some u1 ∧ w1.cell? a2 = some u2) (hw : Bel w1 w2) : Bel w w2 ∧ w2.cell? a0 = some u0 ∧ w2.cell? a1 = some u1 ∧ w2.cell? a2 = some u2 := ⟨h.1.trans hw, hw.cell h.2.1, hw.cell h.2.2.1, hw.cell h.2.2.2⟩
theorem keep4 {w w1 w2 : World} {a0 a1 a2 a3 : Addr} {u0 u1 u2 u3 : Value} (h : Bel w w1 ∧ w1.cell? a0 = some u0 ∧ w1.cell? a1 = some u1 ∧ w1.cell? a2 = some u2 ∧ w1.cell? a3 = some u3) (hw : Bel w1 w2) : Bel w w2 ∧ w2.cell? a0 = some u0 ∧ w2.cell? a1 = some u1 ∧ w2.cell? a2 = some u2 ∧ w2.cell? a3 = some u3 := ⟨h.1.trans hw, hw.cell h.2.1, hw.cell h.2.2.1, hw.cell h.2.2.2.1, hw.cell h.2.2.2.2⟩
theorem keep5 {w w1 w2 : World} {a0 a1 a2 a3 a4 : Addr} {u0 u1 u2 u3 u4 : Value} (h : Bel w w1 ∧ w1.cell? a0 = some u0 ∧ w1.cell? a1 = some u1 ∧ w1.cell? a2 = some u2 ∧ w1.cell? a3 = some u3 ∧ w1.cell? a4 = some u4) (hw : Bel w1 w2) : Bel w w2 ∧ w2.cell? a0 = some u0 ∧ w2.cell? a1 = some u1 ∧ w2.cell? a2 = some u2 ∧ w2.cell? a3 = some u3 ∧ w2.cell? a4 = some u4 := ⟨h.1.trans hw, hw.cell h.2.1, hw.cell h.2.2.1, hw.cell h.2.2.2.1, hw.cell h.2.2.2.2.1, hw.cell h.2.2.2.2.2⟩
theorem keep6 {w w1 w2 : World} {a0 a1 a2 a3 a4 a5 : Addr} {u0 u1 u2 u3 u4 u5 : Value} (h : Bel w w1 ∧ w1.cell? a0 = some u0 ∧ w1.cell? a1 = some u1 ∧ w1.cell? a2 = some u2 ∧ w1.cell? a3 = some u3 ∧ w1.cell? a4 = some u4 ∧ w1.cell? a5 = some u5) (hw : Bel w1 w2) : Bel w w2 ∧ w2.cell? a0 = some u0 ∧ w2.cell? a1 = some u1 ∧ w2.cell? a2 = some u2 ∧ w2.cell? a3 = some u3 ∧ w2.cell? a4 = some u4 ∧ w2.cell? a5 = some u5 := ⟨h.1.trans hw, hw.cell h.2.1, hw.cell h.2.2.1, hw.cell h.2.2.2.1, hw.cell h.2.2.2.2.1, hw.cell h.2.2.2.2.2.1, hw.cell h.2.2.2.2.2.2⟩
theorem keep7 {w w1 w2 : World} {a0 a1 a2 a3 a4 a5 a6 : Addr} {u0 u1 u2 u3 u4 u5 u6 : Value} (h : Bel w w1 ∧ w1.cell? a0 = some u0 ∧ w1.cell? a1 = some u1 ∧ w1.cell? a2 = some u2 ∧ w1.cell? a3 = some u3 ∧ w1.cell? a4 = some u4 ∧ w1.cell? a5 = some u5 ∧ w1.cell? a6 = some u6) (hw : Bel w1 w2) : Bel w w2 ∧ w2.cell? a0 = some u0 ∧ w2.cell? a1 = some u1 ∧ w2.cell? a2 = some u2 ∧ w2.cell? a3 = some u3 ∧ w2.cell? a4 = some u4 ∧ w2.cell? a5 = some u5 ∧ w2.cell? a6 = some u6 := ⟨h.1.trans hw, hw.cell h.2.1, hw.cell h.2.2.1, hw.cell h.2.2.2.1, hw.cell h.2.2.2.2.1, hw.cell h.2.2.2.2.2.1, hw.cell h.2.2.2.2.2.2.1, hw.cell h.2.2.2.2.2.2.2⟩

/-- What a law on trees asks: its closure F does f. -/
theorem law_query {cs : List S51} {A : Option Addr} {c : Nat} {xs : List S53} {A1 : Option Addr} {c1 : Nat} {F : FuncId} (hF : EntersAt F) {caps : Array Value} {f : RT → Option RT} {which : Int} {p1 p2 : Nat} {w2 : World} (hby : ByC w2 F caps f) (hgood : Good f)
    (hp1 : w2.cell? ⟨p1, 0, none⟩ = some (.func (.func F) #[] caps)) (hp2 : w2.cell? ⟨p2, 0, none⟩ = some (.int .i64 which)) {w : World} (hw : Bel w2 w) (he : Env w) (hC : Kd.C k51 w A cs.length cs) (hc : cs.length ≤ c) (hC1 : Kd.C k53 w A1 xs.length xs) (hc1 : xs.length ≤ c1) :
    Calls Tryd.prog 15 #[.slice A cs.length c, .agg #[.slice A1 xs.length c1], .func (.func 44) #[] #[.pointer (some ⟨p1, 0, none⟩), .pointer (some ⟨p2, 0, none⟩)]] w (RetTrue w) :=
  wQuery_any cs A c xs A1 c1 w2 44 enters44 _ (putAt which f) (wPut1_any w2 F hF caps f hby (fun t u hs hn h => (hgood t u hs hn h).1) which p1 p2 hp1 hp2)
    (fun t u hs hn hz h => ⟨(hgood.put which hs hn hz h).1, fun hv _ => (hgood.put which hs hn hz h).2 cs hv⟩) w hw he hC hc hC1 hc1

end Go.Proofs.YtijaoedlhmdpnaaDoor
/- Two words on what a change answers. -/
namespace Go.Proofs.YtijaoedlhmdpnaaDoor
open Go.RowKit Go.Proofs.YtijaoedlhmdpnaaDoor.PTopQueriesKept Go.Proofs.YtijaoedlhmdpnaaDoorW.PrintWords

theorem by_none {w w' : World} {base : Nat} {e : Ending} {f : RT → Option RT} {t : RT} (hf : f t = none) (h : e = .returned (.pointer none) ∧ w = w') : ByPost w base (f t) e w' := by
  rw [hf]
  obtain ⟨rfl, rfl⟩ := h
  exact ⟨none, rfl, Bel.refl _, rfl⟩
theorem by_some {w w' : World} {base : Nat} {e : Ending} {f : RT → Option RT} {t u : RT} (hf : f t = some u) (h : Ret 36 w base u e w') : ByPost w base (f t) e w' := by
  rw [hf]
  obtain ⟨p, he, ht, hb⟩ := h
  exact ⟨p, he, hb, ht⟩
theorem by_none2 {w w' : World} {base : Nat} {e : Ending} {f : RT → Option RT} {t : RT} (hf : f t = none) (h : e = .returned (.pointer none) ∧ Bel w w') : ByPost w base (f t) e w' := by
  rw [hf]
  exact ⟨none, h.1, h.2, rfl⟩
set_option maxHeartbeats 1000000 in
theorem wStep_any (k s : Int) (hs : stepK k = s) (w : World) : Calls Tryd.prog 30 #[.int .i64 k] w fun e w' => e = .returned (.int .i64 s) ∧ w = w' := by
  subst hs
  by_cases h8 : k = 8
  · subst h8
    go_enter Tryd.func30, Tryd.ntmps30
    go_wp2_with fail
    go_ret
    exact ⟨rfl, rfl⟩
  · by_cases h12 : k = 12
    · subst h12
      go_enter Tryd.func30, Tryd.ntmps30
      go_wp2_with fail
      go_ret
      exact ⟨rfl, rfl⟩
    · have e1 : (k == 8) = false := by simpa using h8
      have e2 : (k == 12) = false := by simpa using h12
      have e3 : stepK k = 11 := by unfold stepK; rw [if_neg (by omega)]
      go_enter Tryd.func30, Tryd.ntmps30
      go_wp2_with fail
      go_ret
      exact ⟨by rw [e3]; rfl, rfl⟩

end Go.Proofs.YtijaoedlhmdpnaaDoor
/- The rows' arguments and listed variables, opened to what the walks ask. -/
namespace Go.Proofs.YtijaoedlhmdpnaaDoor
open Go.ChangeShapes Go.WideShapes Go.ChangeAt Go.RowKit Go.Deep Go.Proofs.YtijaoedlhmdpnaaDoor.PTopQueriesKept Go.Proofs.YtijaoedlhmdpnaaDoorW.PrintWords
open Go.ChangeMaps (open_string shut_string)
set_option maxRecDepth 100000

theorem own : ownKnob Tryd.prog.godebug = none := by kernel_rfl
theorem laidOut : laidOutB Tryd.prog = true := by kernel_rfl

/-- Elements one by one make a list. -/
theorem list_of {α : Type} (P : Nat → α → Prop) : ∀ n : Nat, (∀ i, i < n → ∃ x, P i x) → ∃ xs : List α, xs.length = n ∧ ∀ i x, xs[i]? = some x → P i x
  | 0, _ => ⟨[], rfl, fun i x h => by simp at h⟩
  | n + 1, h => by
    obtain ⟨xs, hl, hx⟩ := list_of P n (fun i hi => h i (by omega))
    obtain ⟨x, hp⟩ := h n (by omega)
    refine ⟨xs ++ [x], by simp [hl], fun i y hy => ?_⟩
    by_cases hi : i < n
    · rw [List.getElem?_append_left (by omega)] at hy
      exact hx i y hy
    · rw [List.getElem?_append_right (by omega)] at hy
      have h0 : i - xs.length = 0 := by
        have := (List.getElem?_eq_some_iff.1 hy).1
        simp at this
        omega
      rw [h0] at hy
      simp at hy
      subst hy
      have : i = n := by omega
      rw [this]
      exact hp

section
variable {H : Type} {enc : TypeId × Value → H} {w : World} {base : Nat} {spare : Nat → Bool} {held : Bool}

/-- A slice whose elements are told one by one. -/
theorem rows_of {α : Type} {d : Kd α} {a : Addr} {n : Nat} (hn : n ≤ 9223372036854775807) (h : ∀ i, i < n → ∃ x c, c.length = d.sz ∧ d.K w x c ∧ ∀ j u, c[j]? = some u → w.cell? (a.add (i * d.sz + j)) = some u) : ∃ xs : List α, xs.length = n ∧ Kd.C d w (some a) xs.length xs := by
  obtain ⟨xs, hl, hx⟩ := list_of (fun i x => ∃ c, c.length = d.sz ∧ d.K w x c ∧ ∀ j u, c[j]? = some u → w.cell? (a.add (i * d.sz + j)) = some u) n h
  exact ⟨xs, hl, rfl, by omega, fun _ => ⟨a, rfl, fun j p hj => hx j p hj⟩⟩

theorem int_cell {n : Nat} {c : Value} {y : DataW H × List MemPlace} {t : TypeId} (ht : Tryd.prog.underlying t = some (.int .i64)) (h : DataW.trod enc Tryd.prog w base spare held n t [c] = some y) : ∃ k : Int, c = .int .i64 k := by
  obtain ⟨k, e, _⟩ := DataW.trod_int ht h
  injection e with e
  exact ⟨k, e⟩

theorem field_cells {t : TypeId} {fs : Array Field} {fuel : Nat} {cs : List Value} {x : DataW H × List MemPlace} (ht : Tryd.prog.underlying t = some (.struct fs)) (hone : oneCellFields Tryd.prog fs = true) (hC : Tryd.prog.cellsOf t = fs.size) (h : DataW.trod enc Tryd.prog w base spare held fuel t cs = some x) :
    cs.length = fs.size ∧ ∀ (i : Nat) (f : Field), fs[i]? = some f → ∃ c y n, cs[i]? = some c ∧ DataW.trod enc Tryd.prog w base spare held n f.type [c] = some y := by
  obtain ⟨ys, n, -, -, hlen, hyl, hf⟩ := DataW.trod_struct ht h
  rw [hC] at hlen
  refine ⟨hlen, fun i f hi => ?_⟩
  have hil : i < fs.size := (Array.getElem?_eq_some_iff.1 hi).1
  obtain ⟨ho, hk⟩ := hone_of hone i f hi
  have h1 := hf i f hi
  rw [ho, hk, List.drop_eq_getElem_cons (by omega)] at h1
  rw [List.getElem?_eq_getElem (show i < ys.length by omega)] at h1
  exact ⟨_, _, n, List.getElem?_eq_getElem (by omega), h1⟩

theorem hone53 : oneCellFields Tryd.prog #[{ name := "Kind", type := 3, offset := 0, embedded := false, tag := "", pkgPath := "", byteOffset := 0 }, { name := "Number", type := 3, offset := 1, embedded := false, tag := "", pkgPath := "", byteOffset := 8 }, { name := "Left", type := 3, offset := 2, embedded := false, tag := "", pkgPath := "", byteOffset := 16 }, { name := "Right", type := 3, offset := 3, embedded := false, tag := "", pkgPath := "", byteOffset := 24 }] = true := by kernel_rfl
theorem hone51 : oneCellFields Tryd.prog #[{ name := "Parents", type := 49, offset := 0, embedded := false, tag := "", pkgPath := "", byteOffset := 0 }, { name := "Author", type := 3, offset := 1, embedded := false, tag := "", pkgPath := "", byteOffset := 24 }, { name := "Time", type := 3, offset := 2, embedded := false, tag := "", pkgPath := "", byteOffset := 32 }, { name := "Tree", type := 3, offset := 3, embedded := false, tag := "", pkgPath := "", byteOffset := 40 }, { name := "Message", type := 9, offset := 4, embedded := false, tag := "", pkgPath := "", byteOffset := 48 }] = true := by kernel_rfl

/-- The value v is a slice that reads xs. -/
def Sl {α : Type} (d : Kd α) (w : World) (v : Value) (xs : List α) : Prop := ∃ A c, v = .slice A xs.length c ∧ xs.length ≤ c ∧ Kd.C d w A xs.length xs

theorem node_cells {fuel : Nat} {cs : List Value} {x : DataW H × List MemPlace} (h : DataW.trod enc Tryd.prog w base spare held fuel 53 cs = some x) : ∃ n : S53, k53.K w n cs ∧ cs.length = 4 := by
  obtain ⟨hl, hf⟩ := field_cells Tryd.underlying53 hone53 (by kernel_rfl) h
  obtain ⟨c0, y0, n0, g0, t0⟩ := hf 0 _ rfl
  obtain ⟨c1, y1, n1, g1, t1⟩ := hf 1 _ rfl
  obtain ⟨c2, y2, n2, g2, t2⟩ := hf 2 _ rfl
  obtain ⟨c3, y3, n3, g3, t3⟩ := hf 3 _ rfl
  obtain ⟨k0, rfl⟩ := int_cell Tryd.underlying3 t0
  obtain ⟨k1, rfl⟩ := int_cell Tryd.underlying3 t1
  obtain ⟨k2, rfl⟩ := int_cell Tryd.underlying3 t2
  obtain ⟨k3, rfl⟩ := int_cell Tryd.underlying3 t3
  match cs, hl with
  | [a0, a1, a2, a3], _ =>
    simp only [List.getElem?_cons_zero, List.getElem?_cons_succ, Option.some.injEq] at g0 g1 g2 g3
    subst g0 g1 g2 g3
    exact ⟨⟨k0, k1, k2, k3⟩, k53_mk w ⟨k0, k1, k2, k3⟩, rfl⟩

theorem ints_cell {fuel : Nat} {c : Value} {x : DataW H × List MemPlace} (h : DataW.trod enc Tryd.prog w base (fun _ => true) held fuel 49 [c] = some x) : ∃ (A : Option Addr) (l : List Int) (cap : Nat), c = .slice A l.length cap ∧ l.length ≤ cap ∧ (Kd.int .i64).C w A l.length l := by
  rcases open_ints Tryd.underlying49 Tryd.underlying3 (by kernel_rfl) h with ⟨hc, _⟩ | ⟨a, len, cap, zs, hc, _, hl, hm, hz, _, hcell, _⟩
  · injection hc with hc
    exact ⟨none, [], 0, hc, Nat.le_refl _, rfl, by decide, fun h => absurd h (by decide)⟩
  · injection hc with hc
    have hz' : zs.length = cap := by simpa using hz
    have hml : cap ≤ 9223372036854775807 := by unfold maxLen at hm; omega
    refine ⟨some a, zs.take len, cap, ?_, ?_, rfl, ?_, fun _ => ⟨a, rfl, fun j p hj => ?_⟩⟩
    · rw [hc, List.length_take, Nat.min_eq_left (by omega)]
    · rw [List.length_take]; omega
    · rw [List.length_take]; omega
    · have hj' : j < len ∧ zs[j]? = some p := by
        have h1 := (List.getElem?_eq_some_iff.1 hj).1
        rw [List.length_take] at h1
        have h2 : j < len := by omega
        rw [List.getElem?_take, if_pos h2] at hj
        exact ⟨h2, hj⟩
      refine ⟨[.int .i64 p], rfl, rfl, fun i u hi => ?_⟩
      have h0 : i = 0 := by
        have := (List.getElem?_eq_some_iff.1 hi).1
        simp at this
        exact this
      subst h0
      simp only [List.getElem?_cons_zero, Option.some.injEq] at hi
      subst hi
      have := hcell j (by omega)
      rw [List.getD_eq_getElem?_getD, hj'.2] at this
      simpa [Kd.int, Kd.scalar] using this

theorem commit_cells {fuel : Nat} {cs : List Value} {x : DataW H × List MemPlace} (h : DataW.trod enc Tryd.prog w base (fun _ => true) held fuel 51 cs = some x) : ∃ n : S51, k51.K w n cs ∧ cs.length = 5 := by
  obtain ⟨hl, hf⟩ := field_cells Tryd.underlying51 hone51 (by kernel_rfl) h
  obtain ⟨c0, y0, n0, g0, t0⟩ := hf 0 _ rfl
  obtain ⟨c1, y1, n1, g1, t1⟩ := hf 1 _ rfl
  obtain ⟨c2, y2, n2, g2, t2⟩ := hf 2 _ rfl
  obtain ⟨c3, y3, n3, g3, t3⟩ := hf 3 _ rfl
  obtain ⟨c4, y4, n4, g4, t4⟩ := hf 4 _ rfl
  obtain ⟨A0, l0, cap0, rfl, hl0, hC0⟩ := ints_cell t0
  obtain ⟨k1, rfl⟩ := int_cell Tryd.underlying3 t1
  obtain ⟨k2, rfl⟩ := int_cell Tryd.underlying3 t2
  obtain ⟨k3, rfl⟩ := int_cell Tryd.underlying3 t3
  obtain ⟨s4, e4, _⟩ := DataW.trod_string Tryd.underlying9 t4
  injection e4 with e4
  subst e4
  match cs, hl with
  | [a0, a1, a2, a3, a4], _ =>
    simp only [List.getElem?_cons_zero, List.getElem?_cons_succ, Option.some.injEq] at g0 g1 g2 g3 g4
    subst g0 g1 g2 g3 g4
    exact ⟨⟨l0, k1, k2, k3, s4⟩, k51_mk w ⟨l0, k1, k2, k3, s4⟩ hl0 hC0, rfl⟩

theorem slice_opened {α : Type} {d : Kd α} {t e : TypeId} {fuel : Nat} {c : Value} {x : DataW H × List MemPlace} (ht : Tryd.prog.underlying t = some (.slice e)) (hsz : Tryd.prog.cellsOf e = d.sz)
    (hel : ∀ (n : Nat) (cs : List Value) (y : DataW H × List MemPlace), DataW.trod enc Tryd.prog w base (fun _ => true) held n e cs = some y → ∃ z : α, d.K w z cs ∧ cs.length = d.sz)
    (h : DataW.trod enc Tryd.prog w base (fun _ => true) held fuel t [c] = some x) : ∃ xs, Sl d w c xs := by
  rcases open_slice ht h with ⟨hc, _⟩ | ⟨a, len, cap, m, n, D, Pl, hc, _, hl, hm, hmm, _, hi⟩
  · injection hc with hc
    exact ⟨[], none, 0, hc, Nat.le_refl _, rfl, by simp, fun h => absurd h (by simp)⟩
  · injection hc with hc
    have hmm' : m = cap := by simpa using hmm
    have hml : cap ≤ 9223372036854775807 := by unfold maxLen at hm; omega
    obtain ⟨xs, hxl, hC⟩ := rows_of (w := w) (d := d) (a := a) (n := len) (by omega) (fun i hil => by
      obtain ⟨cs', hcs, htr⟩ := hi i (by omega)
      obtain ⟨_, hcl, hat⟩ := World.cells?_some hcs
      obtain ⟨z, hz, hzl⟩ := hel n cs' _ htr
      refine ⟨z, cs', hzl, hz, fun j u hj => ?_⟩
      have hjl := (List.getElem?_eq_some_iff.1 hj).1
      have := hat j (by omega)
      rw [Go.Deep.add_add, hsz] at this
      rw [this]
      exact hj)
    exact ⟨xs, some a, cap, by rw [hc, hxl], by omega, hC⟩

theorem c51 : Tryd.prog.cellsOf 51 = 5 := by kernel_rfl
theorem c53 : Tryd.prog.cellsOf 53 = 4 := by kernel_rfl
theorem sz51 : k51.sz = 5 := rfl
theorem sz53 : k53.sz = 4 := rfl
theorem commits_opened {r : Reach} {b0 : Nat} {v : Value} {d : DataW H} {p : List MemPlace} (hv : Value.okWide Tryd.prog w r b0 22 v) (h : DataW.Trod enc Tryd.prog w base (fun _ => true) held 22 v d p) : ∃ cs, Sl k51 w v cs := by
  obtain ⟨a, len, cap, rfl⟩ := okWide_slice Tryd.underlying22 hv
  obtain ⟨fuel, hf⟩ := h
  exact slice_opened (d := k51) Tryd.underlying22 (c51.trans sz51.symm) (fun n cs y hy => commit_cells hy) (by simpa [Value.cells] using hf)
/-- A query: a struct of one slice. -/
theorem query_opened {r : Reach} {b0 : Nat} {v : Value} {d : DataW H} {p : List MemPlace} (hv : Value.okWide Tryd.prog w r b0 25 v) (h : DataW.Trod enc Tryd.prog w base (fun _ => true) held 25 v d p) : ∃ u xs, v = .agg #[u] ∧ Sl k53 w u xs := by
  obtain ⟨cs, rfl, hsz⟩ := okWide_struct Tryd.underlying25 hv
  obtain ⟨fuel, hf⟩ := h
  obtain ⟨cs⟩ := cs
  have h1 : Tryd.prog.cellsOf 25 = 1 := by kernel_rfl
  rw [h1] at hsz
  match cs, hsz with
  | [u], _ =>
    obtain ⟨y0, n, _, _, h0⟩ := trod_struct1 Tryd.underlying25 hf
    have h23 : Tryd.prog.cellsOf 23 = 1 := by kernel_rfl
    rw [h23] at h0
    obtain ⟨xs, hx⟩ := slice_opened (d := k53) Tryd.underlying23 (c53.trans sz53.symm) (fun n cs y hy => node_cells hy) (show DataW.trod enc Tryd.prog w base (fun _ => true) held n 23 [u] = some y0 by simpa [Value.cells] using h0)
    exact ⟨u, xs, rfl, hx⟩
end

end Go.Proofs.YtijaoedlhmdpnaaDoor
/- What the rows' listed variables give the walks; a world that meets them. -/
namespace Go.Proofs.YtijaoedlhmdpnaaDoor
open Go.ChangeShapes Go.WideShapes Go.ChangeAt Go.RowKit
set_option maxRecDepth 100000

/-- What the rows list. -/
def laidL : List (String × DataW Unit) := [("math/bits.deBruijn32tab", Rows.laid_math_bits_deBruijn32tab), ("math/bits.deBruijn64tab", Rows.laid_math_bits_deBruijn64tab), ("internal/strconv.uint64pow10", Rows.laid_internal_strconv_uint64pow10), ("strconv.ErrRange", Rows.laid_strconv_ErrRange), ("strconv.ErrSyntax", Rows.laid_strconv_ErrSyntax), ("changeforge/revset.words", Rows.laid_changeforge_revset_words)]

theorem gWords : Tryd.prog.globalNamed "changeforge/revset.words" = some 0 := by kernel_rfl
theorem gPow : Tryd.prog.globalNamed "internal/strconv.uint64pow10" = some 1 := by kernel_rfl
theorem tWords : (Tryd.prog.globals[0]?).map (·.type) = some 83 := by kernel_rfl
theorem tPow : (Tryd.prog.globals[1]?).map (·.type) = some 125 := by kernel_rfl
theorem cells9 : Tryd.prog.cellsOf 9 = 1 := by kernel_rfl
theorem cells83 : Tryd.prog.cellsOf 83 = 14 := by kernel_rfl
theorem cells107 : Tryd.prog.cellsOf 107 = 1 := by kernel_rfl
theorem cells125 : Tryd.prog.cellsOf 125 = 20 := by kernel_rfl

/-- An array of strings that reads as zs. -/
theorem cells_of_strs {H : Type} {enc : TypeId × Value → H} {P : Program} {w : World} {base : Nat} {sp : Nat → Bool} {held : Bool} {fuel : Nat} {t e : TypeId} {n : Nat} {cs : List Value} {zs : List (List UInt8)} {p : List MemPlace}
    (ht : P.underlying t = some (.array n e)) (he : P.underlying e = some .string) (hce : P.cellsOf e = 1) (hct : P.cellsOf t = n)
    (h : DataW.trod enc P w base sp held fuel t cs = some (.agg (zs.map fun z => .lit (.string z)), p)) : cs = zs.map fun z => Value.string ⟨z.toArray⟩ := by
  obtain ⟨xs, m, _, hx, hl, hn, hel⟩ := DataW.trod_array ht h
  simp only [Prod.mk.injEq, DataW.agg.injEq] at hx
  have hzl : zs.length = n := by have := congrArg List.length hx.1; simp at this; omega
  rw [hct] at hl
  apply List.ext_getElem (by simp; omega)
  intro i h1 h2
  have h3 := hel i (by omega)
  rw [hce, Nat.mul_one, List.drop_eq_getElem_cons h1, List.getElem?_eq_getElem (show i < xs.length by omega)] at h3
  obtain ⟨s, e1, e2, _⟩ := DataW.trod_string he h3
  simp only [List.take_succ_cons, List.take_zero, List.cons.injEq, and_true] at e1
  have h4 := congrArg (·[i]?) hx.1
  simp only [List.getElem?_map, List.getElem?_eq_getElem (show i < zs.length by omega), List.getElem?_eq_getElem (show i < xs.length by omega), Option.map_some, Option.some.injEq] at h4
  rw [e2] at h4
  simp only [DataW.lit.injEq, Lit.string.injEq] at h4
  rw [e1, List.getElem_map, h4]

theorem var_heap {P : Program} {w : World} {name : String} {g : Nat} {cs : Array Value} (hg : P.globalNamed name = some g) (h : w.var? P name = some cs) : ∃ t fr, w.heap[g]? = some (.cells cs t fr) := by
  unfold World.var? at h
  rw [hg, Option.bind_some] at h
  split at h
  · rename_i c t fr hh
    injection h with h
    subst h
    exact ⟨t, fr, hh⟩
  · cases h

theorem env_of_laid {W : World} (h : laidMetH Tryd.prog laidL W) : Env W := by
  rw [MakeChecks.laidMetH_plain _ _ _ (by kernel_rfl)] at h
  obtain ⟨ps, ⟨g0, t0, cs0, f0, p0, q0, hg0, ht0, hv0, hd0, ⟨g1, t1, cs1, f1, p1, q1, hg1, ht1, hv1, hd1, ⟨g2, t2, cs2, f2, p2, q2, hg2, ht2, hv2, hd2, ⟨g3, t3, cs3, f3, p3, q3, hg3, ht3, hv3, hd3, ⟨g4, t4, cs4, f4, p4, q4, hg4, ht4, hv4, hd4, ⟨g5, t5, cs5, f5, p5, q5, hg5, ht5, hv5, hd5, _, _⟩, _⟩, _⟩, _⟩, _⟩, _⟩, _, _⟩ := h
  obtain rfl := Option.some.inj (gPow.symm.trans hg2)
  obtain rfl := Option.some.inj (gWords.symm.trans hg5)
  obtain rfl := Option.some.inj (tPow.symm.trans ht2)
  obtain rfl := Option.some.inj (tWords.symm.trans ht5)
  have e2 := Lib.cells_of_tab (zs := Lib.pow10Tab) Tryd.underlying125 Tryd.underlying107 cells107 cells125 hd2
  have e5 := cells_of_strs (zs := wdl) Tryd.underlying83 Tryd.underlying9 cells9 cells83 hd5
  obtain ⟨u2, r2, k2⟩ := var_heap gPow hv2
  obtain ⟨u5, r5, k5⟩ := var_heap gWords hv5
  refine ⟨⟨u5, r5, ?_⟩, ⟨u2, r2, ?_⟩⟩
  · rw [k5, ← e5]
  · rw [k2, ← e2]

/-- The door's own heap meets what is listed. -/
theorem door_met (os : Os) (args : Array Value) : laidMetH Tryd.prog laidL ((World.doorLaid Tryd.prog 67 os).forCall (fun _ _ => 0) ⟨#[], args, []⟩).memory :=
  laidMetH_of_parts3 (fuel := 8) (laidMet_of_run' 8 (by kernel_rfl) (by kernel_rfl)) (by kernel_rfl) (by kernel_rfl)

end Go.Proofs.YtijaoedlhmdpnaaDoor
