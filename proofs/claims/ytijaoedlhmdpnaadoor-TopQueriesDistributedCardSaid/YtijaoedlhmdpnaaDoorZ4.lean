/- The common part of the laws on queries, text 4 of 7: contracts of the functions that they reach, and the plain mathematics. -/
import Derived.Test.YtijaoedlhmdpnaaDoorZ3
import Derived.Test.YtijaoedlhmdpnaaDoorZ1
import Derived.Deep.RegionLaw
import Derived.Deep.LoopGhost
set_option linter.unusedVariables false
set_option linter.unusedSimpArgs false
/- The parser's struct in memory; token walked. -/
namespace Go.Proofs.YtijaoedlhmdpnaaDoor
open Go.RowKit Go.Proofs.YtijaoedlhmdpnaaDoor.PTopQueriesKept Go.Proofs.YtijaoedlhmdpnaaDoorW.PrintWords

/-- A parser under way: its block g holds the text s, of which R is not read yet, and the nodes ns; no fault. -/
structure PSt (w : World) (base g : Nat) (s R : List UInt8) (ns : List S53) (v : Value) : Prop where
  ge : base ≤ g
  suf : R <:+ s
  sl : s.length ≤ 300
  blk : w.heap[g]? = some (.cells #[.string ⟨s.toArray⟩, .int .i64 ((s.length - R.length : Nat) : Int), v, .int .i64 0, .int .i64 0] 73 (0, 0))
  row : Kd.R k53 53 w base (fun _ => True) v ns

theorem blk5 {w : World} {b : Nat} {ty : TypeId} {a0 a1 a2 a3 a4 : Value} (h : w.heap[b]? = some (.cells #[a0, a1, a2, a3, a4] ty (0, 0))) :
    (w.cell? ⟨b, 0, none⟩ = some a0 ∧ w.cell? ⟨b, 1, none⟩ = some a1 ∧ w.cell? ⟨b, 2, none⟩ = some a2 ∧ w.cell? ⟨b, 3, none⟩ = some a3 ∧ w.cell? ⟨b, 4, none⟩ = some a4) ∧ ∀ o, w.frozen? ⟨b, o, none⟩ = false := by
  refine ⟨by simp [World.cell?, h], fun o => ?_⟩
  simp [World.frozen?, h]

/-- The next token and its place. -/
def RetTok (w : World) (t : List UInt8) (at' : Nat) (e : Ending) (w' : World) : Prop := e = .returned (.tuple #[.string ⟨t.toArray⟩, .int .i64 (at' : Int)]) ∧ Bel w w'

theorem suf_get {s R : List UInt8} {c : UInt8} {r : List UInt8} (h : R <:+ s) (hR : R = c :: r) : s.length - R.length < s.length ∧ s[s.length - R.length]? = some c := by
  obtain ⟨l, rfl⟩ := h
  subst hR
  refine ⟨by simp, ?_⟩
  rw [List.getElem?_append_right (by simp)]
  simp

/-- How many bytes go on a token behind k of the two sets. -/
def exk (k : Nat) (c : UInt8) (r : List UInt8) : Nat := if 1 ≤ k ∧ inB lets c = true then (r.takeWhile (inB lets)).length else if 2 ≤ k ∧ inB digs c = true then (r.takeWhile (inB digs)).length else 0
theorem exk_two (c : UInt8) (r : List UInt8) : exk 2 c r = ext c r := by simp [exk, ext]
theorem takeWhile_at {P : UInt8 → Bool} : ∀ (r : List UInt8) (m : Nat), m < (r.takeWhile P).length → ∃ d, r[m]? = some d ∧ P d = true
  | [], m, h => by simp at h
  | a :: r, m, h => by
    rw [List.takeWhile_cons] at h
    split at h
    · rename_i ha
      cases m with
      | zero => exact ⟨a, rfl, ha⟩
      | succ m => exact takeWhile_at r m (by simpa using h)
    · simp at h
theorem takeWhile_end {P : UInt8 → Bool} : ∀ (r : List UInt8), (r.takeWhile P).length < r.length → ∃ d, r[(r.takeWhile P).length]? = some d ∧ P d = false
  | [], h => by simp at h
  | a :: r, h => by
    rw [List.takeWhile_cons] at h ⊢
    split
    · rename_i ha
      rw [if_pos ha] at h
      exact takeWhile_end r (by simpa using h)
    · rename_i ha
      exact ⟨a, rfl, by simpa using ha⟩
theorem contains_is {st : ByteArray} {c : UInt8} {b : Bool} (h : inB st.data.toList c = b) (w : World) : Calls Tryd.prog 72 #[.string st, .string ⟨#[c]⟩] w fun e w' => e = .returned (.bool b) ∧ w = w' :=
  (Tryd.strings_Contains_one st c w).mono fun e w' ⟨he, hw⟩ => ⟨by rw [he, ← h]; rfl, hw.symm⟩
theorem extract_one {s : List UInt8} {p : Nat} {c : UInt8} (h : s[p]? = some c) : (⟨s.toArray⟩ : ByteArray).extract p (p + 1) = ⟨#[c]⟩ := by
  apply ByteArray.ext
  rw [ByteArray.data_extract]
  have hlt : p < s.length := (List.getElem?_eq_some_iff.1 h).1
  have hc : s[p] = c := (List.getElem?_eq_some_iff.1 h).2
  simp only [List.extract_toArray]
  congr 1
  simp only [List.extract_eq_take_drop, Nat.add_sub_cancel_left]
  rw [List.drop_eq_getElem_cons hlt, hc]
  rfl

theorem suf_at {s r : List UInt8} {c : UInt8} (h : c :: r <:+ s) (i : Nat) (d : UInt8) (hd : r[i]? = some d) : s[s.length - (c :: r).length + 1 + i]? = some d := by
  obtain ⟨l, rfl⟩ := h
  have hl : (l ++ c :: r).length - (c :: r).length = l.length := by simp
  rw [hl, List.getElem?_append_right (by omega), show l.length + 1 + i - l.length = i + 1 by omega, List.getElem?_cons_succ]
  exact hd

theorem extract_tok {s r : List UInt8} {c : UInt8} {p : Nat} (h : c :: r <:+ s) (hp : s.length - (c :: r).length = p) : (⟨s.toArray⟩ : ByteArray).extract p (p + 1 + ext c r) = ⟨(tokF (c :: r)).toArray⟩ := by
  obtain ⟨l, rfl⟩ := h
  have hl : p = l.length := by rw [← hp]; simp
  subst hl
  apply ByteArray.ext
  rw [ByteArray.data_extract]
  simp only [List.extract_toArray]
  congr 1
  rw [List.extract_eq_take_drop, show l.length + 1 + ext c r - l.length = ext c r + 1 by omega, List.drop_left]
  simp [tokF]

set_option maxRecDepth 100000 in
set_option maxHeartbeats 4000000 in
theorem token_any {w : World} {base g : Nat} {s R : List UInt8} {ns : List S53} {v : Value} (h : PSt w base g s R ns v) :
    Calls Tryd.prog 62 #[.pointer (some ⟨g, 0, none⟩)] w (RetTok w (tokF (skip R)) (s.length - (skip R).length)) := by
  obtain ⟨⟨c0, c1, c2, c3, c4⟩, c5⟩ := blk5 h.blk
  have HP := Lib.hid h
  have hsl := h.sl
  have hgl : g < w.heap.size := World.block_lt_of_cell? _ _ c0
  clear h
  go_enter Tryd.func62, Tryd.ntmps62
  go_wp2_with fail
  go_loop [4] (fun t4 => ∃ R', R' <:+ s ∧ Hid (skip R' = skip R) ∧ t4 = .int .i64 ((s.length - R'.length : Nat) : Int)) (fun t4 => (s.length - (intOf t4).toNat))
  case atStart => exact ⟨R, HP.out.suf, Lib.hid rfl, rfl⟩
  case round =>
    obtain ⟨R', hsuf, hsk, rfl⟩ := hrel
    cases R' with
    | nil =>
      obtain ⟨p, hp⟩ : ∃ p, s.length - ([] : List UInt8).length = p := ⟨_, rfl⟩
      rw [hp]
      obtain rfl : p = s.length := by simp at hp; omega
      clear hp
      go_wp2_with fail
      go_ret2
      rw [← hsk.out]
      exact ⟨rfl, Bel.refl _⟩
    | cons c r =>
      obtain ⟨hlt, hget⟩ := suf_get hsuf rfl
      obtain ⟨p, hp⟩ : ∃ p, s.length - (c :: r).length = p := ⟨_, rfl⟩
      rw [hp] at hlt hget ⊢
      have HG : ∀ h, (⟨s.toArray⟩ : ByteArray)[p]'h = c := fun h => by
        rw [List.getElem?_eq_getElem hlt] at hget
        injection hget
      have HPP := Lib.hid hp
      have HGT := Lib.hid hget
      clear hp hget
      by_cases hc : c = 32
      · subst hc
        go_wp2_with fail
        go_round
        case rel => exact ⟨r, (List.suffix_cons _ _).trans hsuf, Lib.hid (by rw [← skip_space]; exact hsk.out), by have := HPP.out; simp at this; have := hsuf.length_le; simp at this; congr 1; omega⟩
        case measure => simp [intOf]; omega
      · have hc' : ((c.toNat : Int) == 32) = false := by
          have : c.toNat ≠ 32 := fun h => hc (by rw [← UInt8.toNat_inj]; exact h)
          simp; omega
        have hpl : (((p : Nat) : Int) == ((s.length : Nat) : Int)) = false := by simp; omega
        have HPP2 : Hid (skip (c :: r) = c :: r) := Lib.hid (skip_of hc)
        clear hc
        go_wp2_with fail
        have hgetp : s[p]? = some c := HGT.out
        have HX := extract_one hgetp
        clear hgetp
        have hr : p + 1 + r.length = s.length := by have := HPP.out; have := hsuf.length_le; simp at *; omega
        have HR := Lib.hid (fun i d (h : r[i]? = some d) => suf_at hsuf i d h)
        go_loop [5, 42] (fun t5 i => ∃ k : Nat, k ≤ 2 ∧ i = .int .i64 k ∧ t5 = .int .i64 ((p + 1 + exk k c r : Nat) : Int)) (fun _ i => 2 - (intOf i).toNat)
        case atStart => exact ⟨0, by omega, rfl, by simp [exk]⟩
        case round =>
          obtain ⟨k, hk, rfl, rfl⟩ := hrel
          have hk3 : k = 0 ∨ k = 1 ∨ k = 2 := by omega
          rcases hk3 with rfl | rfl | rfl
          · cases hl : inB lets c with
            | false =>
              have HL := Lib.hid hl
              obtain ⟨e, he⟩ : ∃ e, exk 0 c r = e := ⟨_, rfl⟩
              have he2 : exk (0 + 1) c r = e := by rw [← he]; simp [exk, hl]
              rw [he]
              have HE2 := Lib.hid he2
              clear hl he he2
              go_wp2_with (go_at_call 72; with_reducible refine (contains_is (b := false) HL.out _).mono ?_; rintro e w' ⟨rfl, rfl⟩)
              go_round
              case rel => exact ⟨0 + 1, by omega, by go_num, by rw [HE2.out]; go_num⟩
              case measure => simp [intOf] <;> omega
            | true =>
              have HL := Lib.hid hl
              have he : exk 0 c r = 0 := by simp [exk]
              have he2 : exk (0 + 1) c r = (r.takeWhile (inB lets)).length := by simp [exk, hl]
              rw [he]
              have HE2 := Lib.hid he2
              clear hl he he2
              go_wp2_with (go_at_call 72; with_reducible refine (contains_is (b := true) HL.out _).mono ?_; rintro e w' ⟨rfl, rfl⟩)
              go_loop [5] (fun t5 => ∃ m : Nat, m ≤ (r.takeWhile (inB lets)).length ∧ t5 = .int .i64 ((p + 1 + m : Nat) : Int)) (fun t5 => s.length - (intOf t5).toNat)
              case atStart => exact ⟨0, by omega, by go_num⟩
              case round =>
                obtain ⟨m, hm, rfl⟩ := hrel
                have hml : (r.takeWhile (inB lets)).length ≤ r.length := (List.takeWhile_sublist _).length_le
                have HM := Lib.hid hm
                by_cases hmr : m < (r.takeWhile (inB lets)).length
                · obtain ⟨d, hd, hp⟩ := takeWhile_at r m hmr
                  have HD := Lib.hid hp
                  have hgd := HR.out m d hd
                  rw [HPP.out] at hgd
                  have HX2 := extract_one hgd
                  have hlt2 : p + 1 + m < s.length := by omega
                  have HMR := Lib.hid hmr
                  clear hd hp hgd hm hml hmr
                  go_wp2_with (go_at_call 72; with_reducible refine (contains_is (b := true) HD.out _).mono ?_; rintro e w' ⟨rfl, rfl⟩)
                  go_round
                  case rel => exact ⟨m + 1, HMR.out, by go_num⟩
                  case measure => simp [intOf]; omega
                · have hme : m = (r.takeWhile (inB lets)).length := by omega
                  have HME := Lib.hid hme
                  by_cases hmr2 : m < r.length
                  · obtain ⟨d, hd, hp⟩ := takeWhile_end (P := inB lets) r (by omega)
                    rw [← hme] at hd
                    have HD := Lib.hid hp
                    have hgd := HR.out m d hd
                    rw [HPP.out] at hgd
                    have HX2 := extract_one hgd
                    have hlt2 : p + 1 + m < s.length := by omega
                    clear hd hp hgd hm hml hmr hme hmr2
                    go_wp2_with (go_at_call 72; with_reducible refine (contains_is (b := false) HD.out _).mono ?_; rintro e w' ⟨rfl, rfl⟩)
                    go_round
                    case rel => exact ⟨0 + 1, by omega, by go_num, by rw [HE2.out, ← HME.out]; go_num⟩
                    case measure => simp [intOf] <;> omega
                  · have hlt2 : ¬ p + 1 + m < s.length := by omega
                    clear hm hml hmr hme hmr2
                    go_wp2_with fail
                    go_round
                    case rel => exact ⟨0 + 1, by omega, by go_num, by rw [HE2.out, ← HME.out]; go_num⟩
                    case measure => simp [intOf] <;> omega
          · cases hl : inB digs c with
            | false =>
              have HL := Lib.hid hl
              obtain ⟨e, he⟩ : ∃ e, exk 1 c r = e := ⟨_, rfl⟩
              have he2 : exk (1 + 1) c r = e := by rw [← he]; simp [exk, hl]
              rw [he]
              have HE2 := Lib.hid he2
              clear hl he he2
              go_wp2_with (go_at_call 72; with_reducible refine (contains_is (b := false) HL.out _).mono ?_; rintro e w' ⟨rfl, rfl⟩)
              go_round
              case rel => exact ⟨1 + 1, by omega, by go_num, by rw [HE2.out]; go_num⟩
              case measure => simp [intOf] <;> omega
            | true =>
              have HL := Lib.hid hl
              have he : exk 1 c r = 0 := by simp [exk, lets_digs hl]
              have he2 : exk (1 + 1) c r = (r.takeWhile (inB digs)).length := by simp [exk, hl, lets_digs hl]
              rw [he]
              have HE2 := Lib.hid he2
              clear hl he he2
              go_wp2_with (go_at_call 72; with_reducible refine (contains_is (b := true) HL.out _).mono ?_; rintro e w' ⟨rfl, rfl⟩)
              go_loop [5] (fun t5 => ∃ m : Nat, m ≤ (r.takeWhile (inB digs)).length ∧ t5 = .int .i64 ((p + 1 + m : Nat) : Int)) (fun t5 => s.length - (intOf t5).toNat)
              case atStart => exact ⟨0, by omega, by go_num⟩
              case round =>
                obtain ⟨m, hm, rfl⟩ := hrel
                have hml : (r.takeWhile (inB digs)).length ≤ r.length := (List.takeWhile_sublist _).length_le
                have HM := Lib.hid hm
                by_cases hmr : m < (r.takeWhile (inB digs)).length
                · obtain ⟨d, hd, hp⟩ := takeWhile_at r m hmr
                  have HD := Lib.hid hp
                  have hgd := HR.out m d hd
                  rw [HPP.out] at hgd
                  have HX2 := extract_one hgd
                  have hlt2 : p + 1 + m < s.length := by omega
                  have HMR := Lib.hid hmr
                  clear hd hp hgd hm hml hmr
                  go_wp2_with (go_at_call 72; with_reducible refine (contains_is (b := true) HD.out _).mono ?_; rintro e w' ⟨rfl, rfl⟩)
                  go_round
                  case rel => exact ⟨m + 1, HMR.out, by go_num⟩
                  case measure => simp [intOf]; omega
                · have hme : m = (r.takeWhile (inB digs)).length := by omega
                  have HME := Lib.hid hme
                  by_cases hmr2 : m < r.length
                  · obtain ⟨d, hd, hp⟩ := takeWhile_end (P := inB digs) r (by omega)
                    rw [← hme] at hd
                    have HD := Lib.hid hp
                    have hgd := HR.out m d hd
                    rw [HPP.out] at hgd
                    have HX2 := extract_one hgd
                    have hlt2 : p + 1 + m < s.length := by omega
                    clear hd hp hgd hm hml hmr hme hmr2
                    go_wp2_with (go_at_call 72; with_reducible refine (contains_is (b := false) HD.out _).mono ?_; rintro e w' ⟨rfl, rfl⟩)
                    go_round
                    case rel => exact ⟨1 + 1, by omega, by go_num, by rw [HE2.out, ← HME.out]; go_num⟩
                    case measure => simp [intOf] <;> omega
                  · have hlt2 : ¬ p + 1 + m < s.length := by omega
                    clear hm hml hmr hme hmr2
                    go_wp2_with fail
                    go_round
                    case rel => exact ⟨1 + 1, by omega, by go_num, by rw [HE2.out, ← HME.out]; go_num⟩
                    case measure => simp [intOf] <;> omega
          · obtain ⟨e, he⟩ : ∃ e, exk 2 c r = e := ⟨_, rfl⟩
            have heb : p + 1 + e ≤ s.length := by rw [← he, exk_two]; have := ext_le c r; omega
            rw [he]
            have HE := Lib.hid he
            clear he
            go_wp2_with fail
            go_ret2
            rw [← hsk.out, HPP2.out]
            refine ⟨?_, Bel.alloc _ _⟩
            have hx : (⟨s.toArray⟩ : ByteArray).extract p (p + 1 + e) = ⟨(tokF (c :: r)).toArray⟩ := by
              rw [← HE.out, exk_two]
              exact extract_tok hsuf HPP.out
            rw [← hx, HPP.out]
            rfl

end Go.Proofs.YtijaoedlhmdpnaaDoor
/- accept, expect, number, add walked. -/
namespace Go.Proofs.YtijaoedlhmdpnaaDoor
open Go.RowKit Go.Proofs.YtijaoedlhmdpnaaDoor.PTopQueriesKept Go.Proofs.YtijaoedlhmdpnaaDoorW.PrintWords

section
variable {w w' : World} {base g : Nat} {s R : List UInt8} {ns : List S53} {v : Value}
theorem PSt.own_type (h : PSt w base g s R ns v) {k : Nat} (hk : v.ownBlock = some k) : ∃ cs, w.heap[k]? = some (.cells cs 53 (0, 0)) := by
  obtain ⟨inner, ho⟩ := Kd.R_own h.row
  exact own_typed ho k hk
theorem PSt.not_ty (h : PSt w base g s R ns v) {ty : TypeId} (h73 : ty ≠ 73) (h53 : ty ≠ 53) : ∀ k, QS g v k → ∀ cs, w.heap[k]? ≠ some (.cells cs ty (0, 0)) := by
  rintro k (rfl | hk) cs he
  · rw [h.blk] at he; injection he with he; injection he with _ e; exact h73 e.symm
  · obtain ⟨cs', h'⟩ := h.own_type hk
    rw [h'] at he; injection he with he; injection he with _ e; exact h53 e.symm
theorem PSt.g_ne (h : PSt w base g s R ns v) : ¬ v.ownBlock = some g := by
  intro hk
  obtain ⟨cs', h'⟩ := h.own_type hk
  rw [h.blk] at h'; injection h' with e; injection e with _ e; cases e
theorem PSt.lt (h : PSt w base g s R ns v) : ∀ k, QS g v k → k < w.heap.size := by
  rintro k (rfl | hk)
  · exact (Array.getElem?_eq_some_iff.1 h.blk).1
  · obtain ⟨cs', h'⟩ := h.own_type hk
    exact (Array.getElem?_eq_some_iff.1 h').1
theorem PSt.bel (h : PSt w base g s R ns v) (hw : Bel w w') : PSt w' base g s R ns v := ⟨h.ge, h.suf, h.sl, hw.heap h.blk, Kd.R_below h.row hw⟩
theorem PSt.ownge (h : PSt w base g s R ns v) : ∀ k, QS g v k → base ≤ k := by
  rintro k (rfl | hk)
  · exact h.ge
  · exact Kd.R_base h.row k hk
/-- The place is set. -/
theorem PSt.read (h : PSt w base g s R ns v) {R' : List UInt8} (hR : R' <:+ s) : PSt (w.setCell ⟨g, 1, none⟩ (.int .i64 ((s.length - R'.length : Nat) : Int))) base g s R' ns v :=
  ⟨h.ge, hR, h.sl, heap_setCell_at h.blk 1 _, Kd.R_mono (Kd.R_step (row_own h.row) (fun k hk _ => heap_setCell_far w _ _ (fun e => h.g_ne (by subst e; exact hk)))) (fun _ _ => trivial)⟩
end

/-- What a call on the parser g may turn: its struct, its nodes' row, and what is new; behind it the slice v' is the struct's or the call's own. -/
def PC (g : Nat) (w : World) (v : Value) (w' : World) (v' : Value) : Prop := Chg (QS g v) w w' ∧ ∀ k, QS g v' k → QS g v k ∨ w.heap.size ≤ k
theorem PC.trans {g : Nat} {w w1 w2 : World} {v v1 v2 : Value} (h : PC g w v w1 v1) (k : PC g w1 v1 w2 v2) : PC g w v w2 v2 :=
  ⟨h.1.trans k.1 h.2, fun i hi => (k.2 i hi).elim (h.2 i) (fun h' => .inr (Nat.le_trans h.1.size h'))⟩
theorem PC.of_bel {g : Nat} {w w1 : World} {v : Value} (h : Bel w w1) : PC g w v w1 v := ⟨Chg.of_bel h _, fun _ hk => .inl hk⟩
theorem PC.set {g : Nat} {w w1 : World} {v v1 : Value} (h : PC g w v w1 v1) (i : Nat) (u : Value) : PC g w v (w1.setCell ⟨g, i, none⟩ u) v1 := ⟨h.1.setCell (.inl (.inl rfl)) u, h.2⟩

/-- What a call on the parser leaves: r comes back, R is not read yet, ns are the nodes. -/
def PR (w : World) (base g : Nat) (s R : List UInt8) (ns : List S53) (v r : Value) (e : Ending) (w' : World) : Prop := e = .returned r ∧ ∃ v', PSt w' base g s R ns v' ∧ PC g w v w' v'
/-- A token that is not there. -/
def PN (w : World) (e : Ending) (w' : World) : Prop := e = .returned (.bool false) ∧ Bel w w'

set_option maxRecDepth 100000 in
set_option maxHeartbeats 4000000 in
theorem accept_yes {w : World} {base g : Nat} {s R : List UInt8} {ns : List S53} {v : Value} (want rest : List UInt8) (h : PSt w base g s R ns v) (hR : skip R = want ++ rest) (ht : tokF (skip R) = want) :
    Calls Tryd.prog 59 #[.pointer (some ⟨g, 0, none⟩), .string ⟨want.toArray⟩] w (PR w base g s rest ns v (.bool true)) := by
  have hsuf : skip R <:+ s := (skip_suf R).trans h.suf
  obtain ⟨⟨c0, c1, c2, c3, c4⟩, c5⟩ := blk5 h.blk
  have HP := Lib.hid h
  have hgl : g < w.heap.size := World.block_lt_of_cell? _ _ c0
  have HT : ∀ w', PSt w' base g s R ns v → Calls Tryd.prog 62 #[.pointer (some ⟨g, 0, none⟩)] w' (RetTok w' want (s.length - (skip R).length)) := fun w' h' => ht ▸ token_any h'
  obtain ⟨p, hp⟩ : ∃ p, s.length - (skip R).length = p := ⟨_, rfl⟩
  rw [hp] at HT
  have hle := hsuf.length_le
  have hsl := h.sl
  have hpl : p + want.length = s.length - rest.length := by
    rw [hR] at hp hle; simp at hp hle; omega
  have hps : p + want.length ≤ 300 := by omega
  have HPL := Lib.hid hpl
  have HSF : Hid (rest <:+ s) := Lib.hid ((List.suffix_append want rest).trans (hR ▸ hsuf))
  clear hpl hp ht hR hsuf hle hsl h
  go_enter Tryd.func59, Tryd.ntmps59
  go_wp2_with (go_at_call 62; (with_reducible refine (HT _ HP.out).mono ?_); rintro e w1 ⟨rfl, hb1⟩; have HB1 := Lib.hid hb1; have hgl1 := Nat.lt_of_lt_of_le hgl hb1.size; obtain ⟨⟨d0, d1, d2, d3, d4⟩, d5⟩ := blk5 (HP.out.bel hb1).blk; clear hb1)
  go_ret
  refine ⟨rfl, v, ?_, (PC.of_bel HB1.out).set 1 _⟩
  have hpw : wrap64 ((p : Int) + (want.length : Int)) = ((s.length - rest.length : Nat) : Int) := by rw [← HPL.out]; unfold wrap64; omega
  first | rw [hpw] | (rw [show ((p : Int) + (want.length : Int)) = ((s.length - rest.length : Nat) : Int) by rw [← HPL.out]; omega])
  exact (HP.out.bel HB1.out).read HSF.out


set_option maxRecDepth 100000 in
set_option maxHeartbeats 4000000 in
theorem accept_no {w : World} {base g : Nat} {s R : List UInt8} {ns : List S53} {v : Value} (want : List UInt8) (h : PSt w base g s R ns v) (ht : tokF (skip R) ≠ want) :
    Calls Tryd.prog 59 #[.pointer (some ⟨g, 0, none⟩), .string ⟨want.toArray⟩] w (PN w) := by
  obtain ⟨⟨c0, c1, c2, c3, c4⟩, c5⟩ := blk5 h.blk
  have HP := Lib.hid h
  have hgl : g < w.heap.size := World.block_lt_of_cell? _ _ c0
  have HT := fun w' (h' : PSt w' base g s R ns v) => token_any h'
  obtain ⟨p, hp⟩ : ∃ p, s.length - (skip R).length = p := ⟨_, rfl⟩
  obtain ⟨t, htt⟩ : ∃ t, tokF (skip R) = t := ⟨_, rfl⟩
  rw [htt] at HT ht
  rw [hp] at HT
  have h1 : (t == want) = false := by simpa using ht
  have h2 : (!t == want) = true := by rw [h1]; rfl
  clear hp htt h ht
  go_enter Tryd.func59, Tryd.ntmps59
  go_wp2_with (go_at_call 62; (with_reducible refine (HT _ HP.out).mono ?_); rintro e w1 ⟨rfl, hb1⟩; have HB1 := Lib.hid hb1; have hgl1 := Nat.lt_of_lt_of_le hgl hb1.size; obtain ⟨⟨d0, d1, d2, d3, d4⟩, d5⟩ := blk5 (HP.out.bel hb1).blk; clear hb1)
  go_ret
  exact ⟨rfl, HB1.out⟩


set_option maxRecDepth 100000 in
set_option maxHeartbeats 4000000 in
theorem expect_yes {w : World} {base g : Nat} {s R : List UInt8} {ns : List S53} {v : Value} (want rest : List UInt8) (h : PSt w base g s R ns v) (hR : skip R = want ++ rest) (ht : tokF (skip R) = want) :
    Calls Tryd.prog 50 #[.pointer (some ⟨g, 0, none⟩), .string ⟨want.toArray⟩] w (PR w base g s rest ns v (.tuple #[])) := by
  have HP := Lib.hid (accept_yes want rest h hR ht)
  clear h hR ht
  go_enter Tryd.func50, Tryd.ntmps50
  go_wp2_with (go_at_call 59; (with_reducible refine HP.out.mono ?_); rintro e w1 ⟨rfl, v1, p1, p2⟩; have HP1 := Lib.hid p1; have HP2 := Lib.hid p2; clear p1 p2)
  go_end0
  exact ⟨rfl, v1, HP1.out, HP2.out⟩

theorem PSt.appended {W w1 : World} {base g : Nat} {s R : List UInt8} {ns : List S53} {v v1 : Value} {x : S53} (h : PSt W base g s R ns v) (hr : Kd.R k53 53 w1 base (fun _ => True) v1 (ns ++ [x])) (hg : W.drew.grownBy w1 v.ownBlock)
    (hat : v1.ownBlock = v.ownBlock ∨ ∃ b, v1.ownBlock = some b ∧ W.drew.heap.size ≤ b) :
    PSt (w1.setCell ⟨g, 2, none⟩ v1) base g s R (ns ++ [x]) v1 ∧ PC g W v (w1.setCell ⟨g, 2, none⟩ v1) v1 := by
  have hgl : g < W.heap.size := (Array.getElem?_eq_some_iff.1 h.blk).1
  have hb1 := (hg.block g hgl (fun e => h.g_ne e.symm)).trans h.blk
  have hne : ¬ v1.ownBlock = some g := by
    rcases hat with e | ⟨b, e, hb⟩
    · rw [e]; exact h.g_ne
    · rw [e]; intro e'; injection e' with e'; subst e'; exact absurd hgl (by simpa using hb)
  refine ⟨⟨h.ge, h.suf, h.sl, heap_setCell_at hb1 2 _, Kd.R_mono (Kd.R_step (row_own hr) (fun k hk _ => heap_setCell_far w1 _ _ (fun e => hne (by subst e; exact hk)))) (fun _ _ => trivial)⟩, ?_, ?_⟩
  · exact (((Chg.refl (QS g v) W).drew).grown hg (fun k hk => .inl (.inr hk))).setCell (.inl (.inl rfl)) _
  · rintro k (rfl | hk)
    · exact .inl (.inl rfl)
    · rcases hat with e | ⟨b, e, hb⟩
      · exact .inl (.inr (e ▸ hk))
      · rw [e] at hk; injection hk with hk; subst hk; exact .inr hb

set_option maxRecDepth 100000 in
set_option maxHeartbeats 4000000 in
theorem add_any {w : World} {base g : Nat} {s R : List UInt8} {ns : List S53} {v : Value} (x : S53) (h : PSt w base g s R ns v) (hsz : ns.length ≤ 1000000) :
    Calls Tryd.prog 60 #[.pointer (some ⟨g, 0, none⟩), .agg #[.int .i64 x.f0, .int .i64 x.f1, .int .i64 x.f2, .int .i64 x.f3]] w (PR w base g s R (ns ++ [x]) v (.int .i64 (ns.length : Int))) := by
  obtain ⟨f0, f1, f2, f3⟩ := x
  show Calls Tryd.prog 60 #[.pointer (some ⟨g, 0, none⟩), .agg #[.int .i64 f0, .int .i64 f1, .int .i64 f2, .int .i64 f3]] w _
  obtain ⟨A, cap, rfl⟩ := Kd.R_slice h.row
  have HB := Lib.hid (Bel.alloc w (.cells #[.int .i64 f0, .int .i64 f1, .int .i64 f2, .int .i64 f3] 53))
  have HF := Lib.hid (h.bel HB.out)
  have hk0 := blk4 (heap_alloc_new w (.cells #[.int .i64 f0, .int .i64 f1, .int .i64 f2, .int .i64 f3] 53))
  have hbl : w.heap.size < (w.alloc (.cells #[.int .i64 f0, .int .i64 f1, .int .i64 f2, .int .i64 f3] 53)).heap.size := by simp
  clear h
  go_enter Tryd.func60, Tryd.ntmps60
  go_wp2_with fail
  generalize (w.alloc (Obj.cells #[.int .i64 f0, .int .i64 f1, .int .i64 f2, .int .i64 f3] 53)) = W at *
  obtain ⟨b0, hb0⟩ : ∃ b0, w.heap.size = b0 := ⟨_, rfl⟩
  rw [hb0] at hk0 hbl ⊢
  have HB0 := Lib.hid hb0
  clear hb0
  obtain ⟨⟨c0, c1, c2, c3⟩, c4⟩ := hk0
  obtain ⟨⟨e0, e1, e2, e3, e4⟩, e5⟩ := blk5 HF.out.blk
  have hgl : g < W.heap.size := (Array.getElem?_eq_some_iff.1 HF.out.blk).1
  have HL := Lib.hid (by omega : (ns.length + 1) * 32 ≤ 140737488355328)
  go_region_law (first | ((refine Kd.R_append_step (W := W.drew) k53 base rfl (.tmp 9) (.tmp 11) 23 53 _ 32 rfl Tryd.underlying23 info53 rfl (by decide) (by decide) (.slice _ _ _) ns ⟨f0, f1, f2, f3⟩ _ (fun _ => True) (fun _ => False) (by simp [Act.eval]) (by simp [Act.eval]) (k53_mkM _ _ _ _) (fun _ hk => hk.elim) (fun _ _ => trivial) HF.out.row (Below.refl _ _) (Nat.le_trans HF.out.ge (Nat.le_of_lt hgl)) HL.out ?_; intro vf wf hr1 hb1 hg1 hat1; obtain ⟨Af, capf, rfl⟩ := Kd.R_slice hr1; simp only [List.length_append, List.length_cons, List.length_nil, Nat.zero_add] at hr1 hat1; obtain ⟨⟨y2, y3, y4, y5, y6⟩, y7⟩ := blk5 ((hg1.block g hgl (fun e => HF.out.g_ne e.symm)).trans HF.out.blk); have hr2 := Lib.hid hr1; have hg2 := Lib.hid hg1; have ht2 := Lib.hid hat1; clear hr1 hg1 hat1 hb1)))
  all_goals
    go_wp2_with fail
    go_ret
    obtain ⟨q1, q2⟩ := HF.out.appended hr2.out hg2.out ht2.out
    refine ⟨?_, _, q1, (PC.of_bel HB.out).trans q2⟩
    first | rfl | (refine ret_int ?_; unfold wrap64; omega) | (refine ret_int ?_; omega)

end Go.Proofs.YtijaoedlhmdpnaaDoor
/- number walked. -/
namespace Go.Proofs.YtijaoedlhmdpnaaDoor
open Go.RowKit Go.Proofs.YtijaoedlhmdpnaaDoor.PTopQueriesKept Go.Proofs.YtijaoedlhmdpnaaDoorW.PrintWords

theorem bel_bytes (w : World) (e : TypeId) (s : ByteArray) : Bel w (Lib.bytesWorld w e s) := ⟨rfl, rfl, rfl, by rw [Lib.bytesWorld_size]; omega, fun k hk => Lib.bytesWorld_at_old w e s k hk⟩
def RetNum (w : World) (n : Int) (e : Ending) (w' : World) : Prop := e = .returned (.tuple #[.int .i64 n, .nilIface]) ∧ Bel w w'
theorem atoi_any (n : Int) (h0 : 0 ≤ n) (h1 : n ≤ 100000) (w : World) : Calls Tryd.prog 78 #[.string ⟨(Lib.itoa n).toArray⟩] w (RetNum w n) :=
  (Tryd.strconv_Atoi ⟨(Lib.itoa n).toArray⟩ n (by have := itoa_short h0 h1; simp [ByteArray.size]; omega) (by simpa using atoi_itoa h0) w).mono fun e w' ⟨he, t, hw⟩ => ⟨he, by subst hw; exact bel_bytes _ _ _⟩

set_option maxRecDepth 100000 in
set_option maxHeartbeats 4000000 in
theorem number_any {w : World} {base g : Nat} {s R : List UInt8} {ns : List S53} {v : Value} (n m : Int) (rest : List UInt8) (h : PSt w base g s R ns v) (he : Env w) (hR : skip R = Lib.itoa n ++ rest) (hf : ∀ c r', rest = c :: r' → inB digs c = false) (h0 : 0 ≤ n) (hm : n ≤ m) (h1 : m ≤ 100000) :
    Calls Tryd.prog 70 #[.pointer (some ⟨g, 0, none⟩), .int .i64 m] w (PR w base g s rest ns v (.int .i64 n)) := by
  have ht : tokF (skip R) = Lib.itoa n := by rw [hR]; exact tok_num (itoa_ne h0) (itoa_digs h0) hf
  have hsuf : skip R <:+ s := (skip_suf R).trans h.suf
  obtain ⟨⟨c0, c1, c2, c3, c4⟩, c5⟩ := blk5 h.blk
  have HP := Lib.hid h
  have HE := Lib.hid he
  have hgl : g < w.heap.size := World.block_lt_of_cell? _ _ c0
  have HT : ∀ w', PSt w' base g s R ns v → Calls Tryd.prog 62 #[.pointer (some ⟨g, 0, none⟩)] w' (RetTok w' (Lib.itoa n) (s.length - (skip R).length)) := fun w' h' => ht ▸ token_any h'
  have HA := Lib.hid (fun w => atoi_any n h0 (by omega) w)
  have HI := Lib.hid (fun w (hw : Env w) => itoa_any n h0 (by omega) w hw)
  have hsh := itoa_short h0 (by omega)
  have hle := hsuf.length_le
  have hsl := h.sl
  obtain ⟨p, hp⟩ : ∃ p, s.length - (skip R).length = p := ⟨_, rfl⟩
  rw [hp] at HT
  have HSF : Hid (rest <:+ s) := Lib.hid ((List.suffix_append _ rest).trans (hR ▸ hsuf))
  have hpl : p + (Lib.itoa n).length = s.length - rest.length := by
    rw [hR] at hp hle; simp at hp hle; omega
  generalize Lib.itoa n = t at *
  have hps : p + t.length ≤ 300 := by omega
  have HPL := Lib.hid hpl
  clear hpl hp ht hR hsuf hle hsl h he hf
  go_enter Tryd.func70, Tryd.ntmps70
  go_wp2_with (first | (go_at_call 62; (with_reducible refine (HT _ HP.out).mono ?_); rintro e w1 ⟨rfl, hb1⟩; have HB1 := Lib.hid hb1; clear hb1) | (go_at_call 78; (with_reducible refine (HA.out _).mono ?_); rintro e w2 ⟨rfl, hb2⟩; have HB2 := Lib.hid (HB1.out.trans hb2); clear hb2) | (go_at_call 58; (with_reducible refine (HI.out _ (HE.out.bel HB2.out)).mono ?_); rintro e w3 ⟨rfl, hb3⟩; have HB3 := Lib.hid (HB2.out.trans hb3); have hgl3 := Nat.lt_of_lt_of_le hgl (HB2.out.trans hb3).size; obtain ⟨⟨d0, d1, d2, d3, d4⟩, d5⟩ := blk5 (HP.out.bel HB3.out).blk; clear hb3))
  go_ret
  refine ⟨rfl, v, ?_, (PC.of_bel HB3.out).set 1 _⟩
  have hpw : wrap64 ((p : Int) + (t.length : Int)) = ((s.length - rest.length : Nat) : Int) := by rw [← HPL.out]; unfold wrap64; omega
  first | rw [hpw] | (rw [show ((p : Int) + (t.length : Int)) = ((s.length - rest.length : Nat) : Int) by rw [← HPL.out]; omega])
  exact (HP.out.bel HB3.out).read HSF.out

end Go.Proofs.YtijaoedlhmdpnaaDoor
/- The text of a tree as the parser meets it (plain); the parser with a node under way. -/
namespace Go.Proofs.YtijaoedlhmdpnaaDoor
open Go.RowKit Go.Proofs.YtijaoedlhmdpnaaDoor.PTopQueriesKept Go.Proofs.YtijaoedlhmdpnaaDoorW.PrintWords

/-! ### texts -/
theorem lets_32 {c : UInt8} (h : inB lets c = true) : c ≠ 32 := by intro e; subst e; revert h; decide
theorem wd_ne {k : Int} (h1 : 1 ≤ k) (h13 : k ≤ 13) (h3 : k ≠ 3) (h7 : k ≠ 7) : wd k ≠ [] ∧ (∀ c, c ∈ wd k → inB lets c = true) ∧ Lib.idxOfS (wdl.map fun s => (⟨s.toArray⟩ : ByteArray)) ⟨(wd k).toArray⟩ = k := by
  have hk : ((⟨k.toNat, by omega⟩ : Fin 14).val : Int) = k := by simp only; omega
  have := wd_fin ⟨k.toNat, by omega⟩ (by simp only; omega) (by simp only; omega) (by simp only; omega)
  rw [hk] at this
  exact this
theorem showT_head {t : RT} (hs : Sh t) : ∀ k : Int, ∃ c r, showT t k = c :: r ∧ c ≠ 32 := by
  have hpar : ∀ (kd k : Int) (s : List UInt8), (∃ c r, s = c :: r ∧ c ≠ 32) → ∃ c r, par kd k s = c :: r ∧ c ≠ 32 := by
    intro kd k s h
    unfold par
    split
    · exact ⟨40, s ++ [41], rfl, by decide⟩
    · exact h
  have happ : ∀ (s u : List UInt8), (∃ c r, s = c :: r ∧ c ≠ 32) → ∃ c r, s ++ u = c :: r ∧ c ≠ 32 := by
    rintro s u ⟨c, r, rfl, h⟩
    exact ⟨c, r ++ u, rfl, h⟩
  have hwd : ∀ kd : Int, 1 ≤ kd → kd ≤ 13 → kd ≠ 3 → kd ≠ 7 → ∃ c r, wd kd = c :: r ∧ c ≠ 32 := by
    intro kd h1 h13 h3 h7
    obtain ⟨hne, hl, _⟩ := wd_ne h1 h13 h3 h7
    cases hw : wd kd with
    | nil => exact absurd hw hne
    | cons c r => exact ⟨c, r, rfl, lets_32 (hl c (by rw [hw]; exact List.mem_cons_self))⟩
  induction hs with
  | @leaf kd n h1 h6 =>
    intro k
    refine hpar kd k _ ?_
    rw [if_neg (by omega), if_neg (by omega), if_neg (by omega), if_neg (by omega)]
    by_cases h3 : kd = 3
    · rw [if_pos h3]; exact ⟨35, _, rfl, by decide⟩
    rw [if_neg h3]
    by_cases h4 : kd = 4 ∨ kd = 5
    · rw [if_pos h4, List.append_assoc, List.append_assoc]; exact happ _ _ (hwd kd h1 (by omega) h3 (by omega))
    rw [if_neg h4, if_pos (by omega)]
    exact hwd kd h1 (by omega) h3 (by omega)
  | @un kd n l h7 h13 hl ih =>
    intro k
    refine hpar kd k _ ?_
    rw [if_neg (by omega), if_neg (by omega), if_neg (by omega)]
    by_cases h7 : kd = 7
    · rw [if_pos h7]; exact ⟨33, _, rfl, by decide⟩
    rw [if_neg h7, if_neg (by omega), if_neg (by omega), if_neg (by omega), List.append_assoc, List.append_assoc]
    exact happ _ _ (hwd kd (by omega) h13 (by omega) h7)
  | @bin kd n l r h14 h16 hl hr ihl ihr =>
    intro k
    refine hpar kd k _ ?_
    have hkd : kd = 14 ∨ kd = 15 ∨ kd = 16 := by omega
    rcases hkd with rfl | rfl | rfl
    · rw [if_pos rfl, List.append_assoc]; exact happ _ _ (ihl 0)
    · rw [if_neg (by decide), if_pos rfl, List.append_assoc]; exact happ _ _ (ihl 1)
    · rw [if_neg (by decide), if_neg (by decide), if_pos rfl, List.append_assoc]; exact happ _ _ (ihl 1)
theorem skip_showT {t : RT} (hs : Sh t) (k : Int) (rest : List UInt8) : skip (showT t k ++ rest) = showT t k ++ rest := by
  obtain ⟨c, r, h, hc⟩ := showT_head hs k
  rw [h, List.cons_append, skip_of hc]
theorem tok_ne {c d : UInt8} {r : List UInt8} (h : c ≠ d) (l : List UInt8) : tokF (c :: r) ≠ d :: l := by
  unfold tokF
  intro e
  injection e with e _
  exact h e

/-- How operators are written. -/
def opT (k : Int) : List UInt8 := if k = 14 then [32, 124, 32] else if k = 15 then [32, 38, 32] else [32, 45, 32]
/-- The level of an operator that level k reads in its loop. -/
def OpAt (k kind : Int) : Prop := (k = 0 ∧ kind = 14) ∨ (k = 1 ∧ (kind = 15 ∨ kind = 16))
theorem showT_op {k kind n : Int} {l r : RT} (h : OpAt k kind) : showT (.node kind n l r) k = showT l k ++ (opT kind ++ showT r (k + 1)) := by
  rcases h with ⟨rfl, rfl⟩ | ⟨rfl, rfl | rfl⟩
  · simp [showT, par, lv, opT]
  · simp [showT, par, lv, opT]
  · simp [showT, par, lv, opT]
theorem showT_down {k kind n : Int} {l r : RT} (hk : k = 0 ∨ k = 1) (h : ¬ OpAt k kind) : showT (.node kind n l r) k = showT (.node kind n l r) (k + 1) := by
  simp only [showT]
  have hp : ∀ s, par kind k s = par kind (k + 1) s := by
    intro s
    unfold par
    have : lv kind < k ↔ lv kind < k + 1 := by
      unfold OpAt at h
      unfold lv
      repeat' split
      all_goals omega
    by_cases h1 : lv kind < k
    · rw [if_pos h1, if_pos (this.1 h1)]
    · rw [if_neg h1, if_neg (fun h2 => h1 (this.2 h2))]
  exact hp _
theorem showT_paren {kind n : Int} {l r : RT} (h : 14 ≤ kind) (h' : kind ≤ 16) : showT (.node kind n l r) 2 = 40 :: (showT (.node kind n l r) 0 ++ [41]) := by
  have h2 : lv kind < 2 := by unfold lv; repeat' split
                              all_goals omega
  have h0 : ¬ lv kind < 0 := by unfold lv; repeat' split
                                all_goals omega
  simp only [showT, par]
  rw [if_pos h2, if_neg h0]
  rfl
theorem showT_not {n : Int} {l : RT} : showT (.node 7 n l .nil) 2 = 33 :: showT l 2 := by simp [showT, par, lv]
theorem showT_commit {n : Int} : showT (.node 3 n .nil .nil) 2 = 35 :: Lib.itoa n := by simp [showT, par, lv]
theorem showT_num {k n : Int} (h : k = 4 ∨ k = 5) : showT (.node k n .nil .nil) 2 = wd k ++ (40 :: (Lib.itoa n ++ [41])) := by
  rcases h with rfl | rfl <;> simp [showT, par, lv]
theorem showT_word {k n : Int} (h : k = 1 ∨ k = 2 ∨ k = 6) : showT (.node k n .nil .nil) 2 = wd k := by
  rcases h with rfl | rfl | rfl <;> simp [showT, par, lv]
theorem showT_un {k n : Int} {l : RT} (h8 : 8 ≤ k) (h13 : k ≤ 13) : showT (.node k n l .nil) 2 = wd k ++ (40 :: (showT l 0 ++ [41])) := by
  have hk : k = 8 ∨ k = 9 ∨ k = 10 ∨ k = 11 ∨ k = 12 ∨ k = 13 := by omega
  rcases hk with rfl | rfl | rfl | rfl | rfl | rfl <;> simp [showT, par, lv]

/-- s is t without m operators at its right end; suf is their text. -/
inductive Lf (k : Int) (t : RT) : RT → List UInt8 → Nat → Prop where
  | refl : Lf k t t [] 0
  | step {kind n : Int} {l r : RT} {suf : List UInt8} {m : Nat} (h : Lf k t (.node kind n l r) suf m) (ho : OpAt k kind) : Lf k t l (opT kind ++ (showT r (k + 1) ++ suf)) (m + 1)
theorem Lf.text {k : Int} {t s : RT} {suf : List UInt8} {m : Nat} (h : Lf k t s suf m) : showT t k = showT s k ++ suf := by
  induction h with
  | refl => simp
  | step h ho ih => rw [ih, showT_op ho]; simp
theorem Lf.sh {k : Int} {t s : RT} {suf : List UInt8} {m : Nat} (h : Lf k t s suf m) (ht : Sh t) (hn : NOk t) : Sh s ∧ NOk s := by
  induction h with
  | refl => exact ⟨ht, hn⟩
  | @step kind n l r suf m h ho ih =>
    obtain ⟨h1, h2⟩ := ih
    have hkd : 14 ≤ kind := by rcases ho with ⟨_, rfl⟩ | ⟨_, rfl | rfl⟩ <;> decide
    cases h1 with
    | leaf _ h6 => omega
    | un _ h13 _ => omega
    | bin _ _ hl hr => exact ⟨hl, h2.2.2.1⟩
theorem Lf.size {k : Int} {t s : RT} {suf : List UInt8} {m : Nat} (h : Lf k t s suf m) : s.size ≤ t.size := by
  induction h with
  | refl => exact Nat.le_refl _
  | step h ho ih => simp only [RT.size] at ih; omega
/-- What follows the text of the right side of the next operator. -/
theorem Lf.fol {k : Int} {t s : RT} {suf rest : List UInt8} {m : Nat} (h : Lf k t s suf m) (hf : Fol k rest) : Fol (k + 1) (suf ++ rest) := by
  cases h with
  | refl => exact hf.mono (by omega)
  | step h ho =>
    rcases ho with ⟨rfl, rfl⟩ | ⟨rfl, rfl | rfl⟩
    · exact .inr (.inr (.inl ⟨by decide, _, rfl⟩))
    · exact .inr (.inr (.inr (.inl ⟨by decide, _, rfl⟩)))
    · exact .inr (.inr (.inr (.inr ⟨by decide, _, rfl⟩)))
/-- The leftmost operand. -/
theorem Lf.leftm (k : Int) (t : RT) : Sh t → ∃ s suf m, Lf k t s suf m ∧ (∀ kind n l r, s = .node kind n l r → ¬ OpAt k kind) := by
  have key : ∀ (s : RT) (suf : List UInt8) (m : Nat), Lf k t s suf m → ∃ s suf m, Lf k t s suf m ∧ (∀ kind n l r, s = .node kind n l r → ¬ OpAt k kind) := by
    intro s
    induction s with
    | nil => intro suf m h; exact ⟨_, _, _, h, fun _ _ _ _ e => by cases e⟩
    | node kind n l r ihl _ =>
      intro suf m h
      by_cases ho : OpAt k kind
      · exact ihl _ _ (h.step ho)
      · exact ⟨_, _, _, h, fun kind' n' l' r' e => by injection e with e1; subst e1; exact ho⟩
  intro _
  exact key t [] 0 .refl

/-! ### the parser with a node under way -/
theorem PC.keep {g : Nat} {w w' : World} {v v' : Value} (h : PC g w v w' v') {b : Nat} {x : Obj} (hx : w.heap[b]? = some x) (hb : ¬ QS g v b) : w'.heap[b]? = some x ∧ ¬ QS g v' b :=
  ⟨h.1.heap hx hb, fun hq => (h.2 b hq).elim hb (fun hs => by have := (Array.getElem?_eq_some_iff.1 hx).1; omega)⟩
theorem PC.setNew {g : Nat} {w w1 : World} {v v1 : Value} (h : PC g w v w1 v1) {b : Nat} (hb : w.heap.size ≤ b) (i : Nat) (u : Value) : PC g w v (w1.setCell ⟨b, i, none⟩ u) v1 := ⟨h.1.setCell (.inr hb) u, h.2⟩
theorem PSt.set {w : World} {base g : Nat} {s R : List UInt8} {ns : List S53} {v : Value} (h : PSt w base g s R ns v) {b : Nat} (hb : ¬ QS g v b) (i : Nat) (u : Value) : PSt (w.setCell ⟨b, i, none⟩ u) base g s R ns v :=
  ⟨h.ge, h.suf, h.sl, (heap_setCell_far w _ _ (fun e => hb (.inl e.symm))).trans h.blk, Kd.R_mono (Kd.R_step (row_own h.row) (fun k hk _ => heap_setCell_far w _ _ (fun e => hb (.inr (by subst e; exact hk))))) (fun _ _ => trivial)⟩
theorem Env.chg {w w' : World} {S : Nat → Prop} (h : Env w) (hc : Chg S w w') (hS : ∀ k, S k → 2 ≤ k) : Env w' := by
  obtain ⟨⟨t, fr, h0⟩, ⟨t1, fr1, h1⟩⟩ := h
  exact ⟨⟨t, fr, hc.heap h0 (fun hk => absurd (hS 0 hk) (by omega))⟩, ⟨t1, fr1, hc.heap h1 (fun hk => absurd (hS 1 hk) (by omega))⟩⟩
theorem Env.pc {w w' : World} {base g : Nat} {s R : List UInt8} {ns : List S53} {v v' : Value} (h : Env w) (hp : PSt w base g s R ns v) (h2 : 2 ≤ base) (hc : PC g w v w' v') : Env w' := h.chg hc.1 (fun k hk => Nat.le_trans h2 (hp.ownge k hk))

/-- From w0 with v0 to W: the parser at R with ns and v; the node at b0, which is new, reads x. -/
structure PNd (w0 : World) (v0 : Value) (W : World) (base g : Nat) (s R : List UInt8) (ns : List S53) (v : Value) (b0 : Nat) (x : S53) : Prop where
  p : PSt W base g s R ns v
  c : PC g w0 v0 W v
  nq : ¬ QS g v b0
  bg : w0.heap.size ≤ b0
  cp : W.heap[b0]? = some (.cells #[.int .i64 x.f0, .int .i64 x.f1, .int .i64 x.f2, .int .i64 x.f3] 53 (0, 0))
  env : Env W
  b2 : 2 ≤ base
section
variable {w0 W : World} {v0 v : Value} {base g : Nat} {s R : List UInt8} {ns : List S53} {b0 : Nat} {x : S53}
theorem PNd.start (h : PSt w0 base g s R ns v0) (he : Env w0) (h2 : 2 ≤ base) (x : S53) : PNd w0 v0 (w0.alloc (.cells #[.int .i64 x.f0, .int .i64 x.f1, .int .i64 x.f2, .int .i64 x.f3] 53)) base g s R ns v0 w0.heap.size x :=
  ⟨h.bel (Bel.alloc _ _), PC.of_bel (Bel.alloc _ _), fun hq => Nat.lt_irrefl _ (h.lt _ hq), Nat.le_refl _, heap_alloc_new _ _, he.bel (Bel.alloc _ _), h2⟩
theorem PNd.facts (h : PNd w0 v0 W base g s R ns v b0 x) :
    b0 ≠ g ∧ g ≠ b0 ∧ g < W.heap.size ∧ b0 < W.heap.size ∧ W.cell? ⟨b0, 0, none⟩ = some (.int .i64 x.f0) ∧ W.cell? ⟨b0, 1, none⟩ = some (.int .i64 x.f1) ∧ W.cell? ⟨b0, 2, none⟩ = some (.int .i64 x.f2) ∧ W.cell? ⟨b0, 3, none⟩ = some (.int .i64 x.f3) ∧ (∀ o, W.frozen? ⟨b0, o, none⟩ = false) ∧
      W.cell? ⟨g, 3, none⟩ = some (.int .i64 0) ∧ W.cell? ⟨g, 1, none⟩ = some (.int .i64 ((s.length - R.length : Nat) : Int)) ∧ (∀ o, W.frozen? ⟨g, o, none⟩ = false) :=
  have h1 := blk4 h.cp
  have h2 := blk5 h.p.blk
  ⟨fun e => h.nq (.inl e), fun e => h.nq (.inl e.symm), (Array.getElem?_eq_some_iff.1 h.p.blk).1, (Array.getElem?_eq_some_iff.1 h.cp).1, h1.1.1, h1.1.2.1, h1.1.2.2.1, h1.1.2.2.2, h1.2, h2.1.2.2.2.1, h2.1.2.1, h2.2⟩
theorem PNd.call (h : PNd w0 v0 W base g s R ns v b0 x) {W' : World} {R' : List UInt8} {ns' : List S53} {v' : Value} (hp : PSt W' base g s R' ns' v') (hc : PC g W v W' v') : PNd w0 v0 W' base g s R' ns' v' b0 x :=
  ⟨hp, h.c.trans hc, (hc.keep h.cp h.nq).2, h.bg, (hc.keep h.cp h.nq).1, h.env.pc h.p h.b2 hc, h.b2⟩
theorem PNd.bel (h : PNd w0 v0 W base g s R ns v b0 x) {W' : World} (hb : Bel W W') : PNd w0 v0 W' base g s R ns v b0 x := h.call (h.p.bel hb) (PC.of_bel hb)
theorem Env.set {W : World} (h : Env W) {b : Nat} (hb : 2 ≤ b) (i : Nat) (u : Value) : Env (W.setCell ⟨b, i, none⟩ u) := h.chg ((Chg.refl (fun k => k = b) W).setCell (.inl rfl) u) (fun k hk => by omega)
theorem PNd.two (h : PNd w0 v0 W base g s R ns v b0 x) : 2 ≤ b0 := by
  by_cases hlt : b0 < 2
  · exfalso
    obtain ⟨⟨t, fr, h0⟩, ⟨t1, fr1, h1⟩⟩ := h.env
    have hc := h.cp
    have : b0 = 0 ∨ b0 = 1 := by omega
    rcases this with rfl | rfl
    · rw [h0] at hc; simp [wdl] at hc
    · rw [h1] at hc
      injection hc with hc
      injection hc with hc
      have := congrArg Array.size hc
      simp [Lib.pow10Tab] at this
  · omega
theorem PNd.set (h : PNd w0 v0 W base g s R ns v b0 x) (i : Nat) (u : Int) (x' : S53) (hx : (#[.int .i64 x.f0, .int .i64 x.f1, .int .i64 x.f2, .int .i64 x.f3] : Array Value).setIfInBounds i (.int .i64 u) = #[.int .i64 x'.f0, .int .i64 x'.f1, .int .i64 x'.f2, .int .i64 x'.f3]) :
    PNd w0 v0 (W.setCell ⟨b0, i, none⟩ (.int .i64 u)) base g s R ns v b0 x' :=
  ⟨h.p.set h.nq _ _, h.c.setNew h.bg _ _, h.nq, h.bg, by rw [← hx]; exact heap_setCell_at h.cp i _, h.env.set h.two _ _, h.b2⟩
theorem PNd.read (h : PNd w0 v0 W base g s R ns v b0 x) {R' : List UInt8} (hR : R' <:+ s) : PNd w0 v0 (W.setCell ⟨g, 1, none⟩ (.int .i64 ((s.length - R'.length : Nat) : Int))) base g s R' ns v b0 x :=
  h.call (h.p.read hR) ((PC.of_bel (Bel.refl W)).set 1 _)
end

/-- level k reads the tree t where its text is next. -/
def LevelC (t : RT) (k : Int) : Prop := ∀ (w : World) (base g : Nat) (s R : List UInt8) (ns : List S53) (v : Value) (rest : List UInt8), Env w → 2 ≤ base → PSt w base g s R ns v → skip R = showT t k ++ rest → Fol k rest → ns.length + t.size ≤ 1000 →
  Calls Tryd.prog 49 #[.pointer (some ⟨g, 0, none⟩), .int .i64 k] w (PR w base g s rest (ns ++ t.post ns.length) v (.int .i64 (t.root ns.length)))
/-- .. and primary does. -/
def PrimC (t : RT) : Prop := ∀ (w : World) (base g : Nat) (s R : List UInt8) (ns : List S53) (v : Value) (rest : List UInt8), Env w → 2 ≤ base → PSt w base g s R ns v → skip R = showT t 2 ++ rest → Fol 2 rest → ns.length + t.size ≤ 1000 →
  Calls Tryd.prog 61 #[.pointer (some ⟨g, 0, none⟩)] w (PR w base g s rest (ns ++ t.post ns.length) v (.int .i64 (t.root ns.length)))

end Go.Proofs.YtijaoedlhmdpnaaDoor
/- primary walked. -/
namespace Go.Proofs.YtijaoedlhmdpnaaDoor
open Go.RowKit Go.Proofs.YtijaoedlhmdpnaaDoor.PTopQueriesKept Go.Proofs.YtijaoedlhmdpnaaDoorW.PrintWords

theorem arity_is (k : Int) (a : Nat) (b : Int) (h1 : 1 ≤ k) (h16 : k ≤ 16) (ha : ar k = a) (hb : most k = b) (w : World) : Calls Tryd.prog 46 #[.int .i64 k] w fun e w' => e = .returned (.tuple #[.int .i64 (a : Int), .int .i64 b]) ∧ Bel w w' :=
  (arity_any k h1 h16 w).mono fun e w' ⟨he, n, hw⟩ => ⟨by rw [he, ha, hb], by rw [hw]; exact Bel.drewN w n⟩
theorem digs_skip {n : Int} (h : 0 ≤ n) (rest : List UInt8) : skip (Lib.itoa n ++ rest) = Lib.itoa n ++ rest := by
  cases hi : Lib.itoa n with
  | nil => exact absurd hi (itoa_ne h)
  | cons c r =>
    have := itoa_digs h c (by rw [hi]; exact List.mem_cons_self)
    rw [List.cons_append, skip_of (by intro e; subst e; revert this; decide)]
theorem index_any {k : Int} (h1 : 1 ≤ k) (h13 : k ≤ 13) (h3 : k ≠ 3) (h7 : k ≠ 7) {w : World} (he : Env w) : Calls Tryd.prog 71 #[.slice (some ⟨0, 0, none⟩) 14 14, .string ⟨(wd k).toArray⟩] w fun e w' => e = .returned (.int .i64 k) ∧ w = w' := by
  refine (Tryd.slices_Index_string 0 0 14 14 (wdl.map fun s => (⟨s.toArray⟩ : ByteArray)) ⟨(wd k).toArray⟩ w (by decide) (by decide) ?_).mono fun e w' ⟨h, hw⟩ => ⟨?_, hw.symm⟩
  · intro j hj
    have hj' : j < 14 := by simpa [wdl] using hj
    rw [show (0 + j : Nat) = j by omega, he.word j hj']
    congr 2
    have hw : wd (j : Int) = wdl.getD j [] := rfl
    rw [hw]
    have hl : j < wdl.length := hj'
    simp [hl]
  · have ht : (wdl.map fun s => (⟨s.toArray⟩ : ByteArray)).take 14 = wdl.map fun s => (⟨s.toArray⟩ : ByteArray) := rfl
    rw [h, ht, (wd_ne h1 h13 h3 h7).2.2]

set_option maxRecDepth 100000 in
set_option maxHeartbeats 4000000 in
theorem prim_paren {k n : Int} {l r : RT} (h14 : 14 ≤ k) (h16 : k ≤ 16) (hs : Sh (.node k n l r)) (ih : LevelC (.node k n l r) 0) : PrimC (.node k n l r) := by
  intro w base g s R ns v rest he h2 hp hR hf hsz
  rw [showT_paren h14 h16] at hR
  have HA := Lib.hid (accept_yes [40] (showT (.node k n l r) 0 ++ (41 :: rest)) hp (by rw [hR]; simp) (by rw [hR, List.cons_append]; exact tok_sym (by decide) (by decide)))
  have HP := Lib.hid hp
  have HE := Lib.hid he
  have HB := Lib.hid h2
  have HSZ := Lib.hid hsz
  have HI := Lib.hid ih
  have HS := Lib.hid (skip_showT hs 0 (41 :: rest))
  obtain ⟨t, ht⟩ : ∃ t, RT.node k n l r = t := ⟨_, rfl⟩
  rw [ht] at HI HA HS HSZ ⊢
  clear hp he h2 hsz ih hR hf ht h14 h16 hs
  go_enter Tryd.func61, Tryd.ntmps61
  go_wp2_with fail
  go_must (refine HA.out.mono ?_); rintro e w1 ⟨rfl, v1, p1, c1⟩
  have P1 := Lib.hid p1
  have C1 := Lib.hid c1
  have E1 := Lib.hid (HE.out.pc HP.out HB.out c1)
  clear p1 c1
  go_wp2_with fail
  go_must (refine (HI.out w1 base g s _ ns v1 (41 :: rest) E1.out HB.out P1.out HS.out (Fol.paren 0 rest) HSZ.out).mono ?_); rintro e w2 ⟨rfl, v2, p2, c2⟩
  have P2 := Lib.hid p2
  have C2 := Lib.hid (C1.out.trans c2)
  clear p2 c2
  go_wp2_with fail
  go_must (refine (expect_yes [41] rest P2.out (by simp [skip]) (by rw [skip_of (by decide)]; exact tok_sym (by decide) (by decide))).mono ?_); rintro e w3 ⟨rfl, v3, p3, c3⟩
  have P3 := Lib.hid p3
  have C3 := Lib.hid (C2.out.trans c3)
  clear p3 c3
  go_wp2_with fail
  go_ret
  exact ⟨rfl, v3, P3.out, C3.out⟩

set_option maxRecDepth 100000 in
set_option maxHeartbeats 4000000 in
theorem prim_commit {n : Int} (hn : 0 ≤ n) (hm : n ≤ 59) : PrimC (.node 3 n .nil .nil) := by
  intro w base g s R ns v rest he h2 hp hR hf hsz
  rw [showT_commit] at hR
  have HN := Lib.hid (accept_no [40] hp (by rw [hR]; exact tok_ne (by decide) []))
  have hst := fun (w1 : World) (hb : Bel w w1) => PNd.start (hp.bel hb) (he.bel hb) h2 ⟨0, 0, 0, 0⟩
  have HST := Lib.hid hst
  have HR := Lib.hid hR
  have HF := Lib.hid (fun c r' h => (hf.head c r' h).2)
  have HZ := Lib.hid (by omega : ns.length ≤ 1000000)
  have HNN := Lib.hid hn
  have HMM := Lib.hid hm
  have HSK := Lib.hid (digs_skip hn rest)
  clear hst hp he h2 hR hf hsz hn hm
  go_enter Tryd.func61, Tryd.ntmps61
  go_wp2_with fail
  go_must (refine HN.out.mono ?_); rintro e w1 ⟨rfl, hb1⟩
  have N0 := Lib.hid (HST.out w1 hb1)
  have HB1 := Lib.hid hb1
  clear hb1
  go_wp2_with fail
  obtain ⟨b0, hb0⟩ : ∃ b0, w1.heap.size = b0 := ⟨_, rfl⟩
  rw [hb0] at N0 ⊢
  clear hb0
  generalize (w1.alloc (Obj.cells #[.int .i64 0, .int .i64 0, .int .i64 0, .int .i64 0] 53)) = W1 at *
  go_must (refine (accept_yes [35] (Lib.itoa n ++ rest) N0.out.p (by rw [HR.out]; rfl) (by rw [HR.out]; exact tok_sym (by decide) (by decide))).mono ?_); rintro e w2 ⟨rfl, v2, p2, c2⟩
  have N1 := Lib.hid (N0.out.call p2 c2)
  clear p2 c2
  obtain ⟨a1, a2, a3, a4, a5, a6, a7, a8, a9, a10, a11, a12⟩ := N1.out.facts
  go_wp2_with fail
  have N2 := Lib.hid (N1.out.set 0 3 ⟨3, 0, 0, 0⟩ rfl)
  go_must (refine (arity_is 3 0 59 (by decide) (by decide) (by decide) (by decide) _).mono ?_); rintro e w3 ⟨rfl, hb3⟩
  have N3 := Lib.hid (N2.out.bel hb3)
  clear hb3
  go_wp2_with fail
  go_must (refine (number_any n 59 rest N3.out.p N3.out.env HSK.out HF.out HNN.out HMM.out (by decide)).mono ?_); rintro e w4 ⟨rfl, v4, p4, c4⟩
  have N4 := Lib.hid (N3.out.call p4 c4)
  clear p4 c4
  obtain ⟨z1, z2, z3, z4, z5, z6, z7, z8, z9, z10, z11, z12⟩ := N4.out.facts
  go_wp2_with fail
  have N5 := Lib.hid (N4.out.set 1 n ⟨3, n, 0, 0⟩ rfl)
  go_must (refine (add_any ⟨3, n, 0, 0⟩ N5.out.p HZ.out).mono ?_); rintro e w5 ⟨rfl, v5, p5, c5⟩
  have N6 := Lib.hid (N5.out.call p5 c5)
  clear p5 c5
  go_wp2_with fail
  go_ret
  exact ⟨by simp [RT.root, RT.size], v5, by simpa [RT.post, RT.root] using N6.out.p, (PC.of_bel HB1.out).trans N6.out.c⟩

set_option maxRecDepth 100000 in
set_option maxHeartbeats 4000000 in
theorem prim_word {k n : Int} (hk : k = 1 ∨ k = 2 ∨ k = 6) (hn : 0 ≤ n) (hm : n ≤ most k) : PrimC (.node k n .nil .nil) := by
  obtain rfl : n = 0 := by rcases hk with rfl | rfl | rfl <;> simp [most] at hm <;> omega
  intro w base g s R ns v rest he h2 hp hR hf hsz
  rw [showT_word hk] at hR
  have hh := fun c r' h => (hf.head c r' h).1
  clear hf
  have h13 : 1 ≤ k ∧ k ≤ 13 ∧ k ≠ 3 ∧ k ≠ 7 := by omega
  obtain ⟨g1, g2, g3, g7⟩ := h13
  obtain ⟨hwne, hwl, -⟩ := wd_ne g1 g2 g3 g7
  have htok : tokF (skip R) = wd k := by rw [hR]; exact tok_word hwne hwl hh
  have HN := Lib.hid (accept_no [40] hp (by rw [htok]; intro e; rw [e] at hwl; have := hwl 40 List.mem_cons_self; revert this; decide))
  have HN2 := Lib.hid (fun (w : World) (ns : List S53) (v : Value) (hp : PSt w base g s R ns v) => accept_no [35] hp (by rw [htok]; intro e; rw [e] at hwl; have := hwl 35 List.mem_cons_self; revert this; decide))
  have HST := Lib.hid (fun (w1 : World) (hb : Bel w w1) => PNd.start (hp.bel hb) (he.bel hb) h2 ⟨0, 0, 0, 0⟩)
  have HZ := Lib.hid (by omega : ns.length + 40 ≤ 1000000)
  have hsuf := (skip_suf R).trans hp.suf
  have hle := hsuf.length_le
  have hsl := hp.sl
  obtain ⟨p, hpp⟩ : ∃ p, s.length - (skip R).length = p := ⟨_, rfl⟩
  have HTK : Hid (∀ w v, PSt w base g s R ns v → Calls Tryd.prog 62 #[.pointer (some ⟨g, 0, none⟩)] w (RetTok w (wd k) p)) := Lib.hid (fun w v h => by rw [← htok, ← hpp]; exact token_any h)
  have HSF : Hid (rest <:+ s) := Lib.hid ((List.suffix_append _ rest).trans (hR ▸ hsuf))
  have hpl : p + (wd k).length = s.length - rest.length := by
    rw [hR] at hpp hle; simp at hpp hle; omega
  have HIX := Lib.hid (fun (w : World) (he : Env w) => index_any g1 g2 g3 g7 he)
  have HAR := Lib.hid (fun w => arity_is k 0 0 (by omega) (by omega) (by rcases hk with rfl | rfl | rfl <;> decide) (by rcases hk with rfl | rfl | rfl <;> decide) w)
  have hk1 : 1 ≤ k := by omega
  clear hk hm hn g1 g2 g3 g7
  obtain ⟨t, ht⟩ : ∃ t, wd k = t := ⟨_, rfl⟩
  rw [ht] at HTK hpl HIX hwne
  have hps : p + t.length ≤ 300 := by omega
  have HPL := Lib.hid hpl
  have ht0 : (t == []) = false := by simpa using hwne
  have ht1 : t.isEmpty = false := by simpa using hwne
  have ht2 : (t = []) = False := by simpa using hwne
  clear hp he h2 hR hh hsz htok hsuf hle hsl hpp hpl hwl ht hwne
  go_enter Tryd.func61, Tryd.ntmps61
  go_wp2_with fail
  go_must (refine HN.out.mono ?_); rintro e w1 ⟨rfl, hb1⟩
  have N0 := Lib.hid (HST.out w1 hb1)
  have HB1 := Lib.hid hb1
  clear hb1
  go_wp2_with fail
  obtain ⟨b0, hb0⟩ : ∃ b0, w1.heap.size = b0 := ⟨_, rfl⟩
  rw [hb0] at N0 ⊢
  clear hb0
  generalize (w1.alloc (Obj.cells #[.int .i64 0, .int .i64 0, .int .i64 0, .int .i64 0] 53)) = W1 at *
  go_must (refine (HN2.out _ _ _ N0.out.p).mono ?_); rintro e w2 ⟨rfl, hb2⟩
  have N1 := Lib.hid (N0.out.bel hb2)
  clear hb2
  go_wp2_with fail
  go_must (refine (HTK.out _ _ N1.out.p).mono ?_); rintro e w3 ⟨rfl, hb3⟩
  have N2 := Lib.hid (N1.out.bel hb3)
  clear hb3
  obtain ⟨a1, a2, a3, a4, a5, a6, a7, a8, a9, a10, a11, a12⟩ := N2.out.facts
  go_wp2_with fail
  go_must (refine (HIX.out _ N2.out.env).mono ?_); rintro e w4 ⟨rfl, rfl⟩
  have N3 := Lib.hid (N2.out.set 0 k ⟨k, 0, 0, 0⟩ rfl)
  have hpw : ((p : Int) + (t.length : Int)) = ((s.length - rest.length : Nat) : Int) := by rw [← HPL.out]; omega
  have N4 := Lib.hid (N3.out.read HSF.out)
  rw [← hpw] at N4
  clear hpw
  go_wp2_with fail
  go_must (refine (HAR.out _).mono ?_); rintro e w5 ⟨rfl, hb5⟩
  have N5 := Lib.hid (N4.out.bel hb5)
  clear hb5
  obtain ⟨z1, z2, z3, z4, z5, z6, z7, z8, z9, z10, z11, z12⟩ := N5.out.facts
  go_wp2_with fail
  go_must (refine (add_any ⟨k, 0, 0, 0⟩ N5.out.p (by have := HZ.out; omega)).mono ?_); rintro e w6 ⟨rfl, v6, p6, c6⟩
  have NEND := Lib.hid (N5.out.call p6 c6)
  clear p6 c6
  go_wp2_with fail
  go_ret
  exact ⟨by simp [RT.root, RT.size], _, by simpa [RT.post, RT.root] using NEND.out.p, (PC.of_bel HB1.out).trans NEND.out.c⟩

set_option maxRecDepth 100000 in
set_option maxHeartbeats 4000000 in
theorem prim_num {k n : Int} (hk : k = 4 ∨ k = 5) (hn : 0 ≤ n) (hm : n ≤ most k) : PrimC (.node k n .nil .nil) := by
  intro w base g s R ns v rest0 he h2 hp hR hf hsz
  rw [showT_num hk, List.append_assoc] at hR
  obtain ⟨rest, hrest⟩ : ∃ rest, (40 :: (Lib.itoa n ++ [41]) ++ rest0 : List UInt8) = rest := ⟨_, rfl⟩
  rw [hrest] at hR
  have hh : ∀ c r', rest = c :: r' → inB lets c = false := by
    intro c r' h
    rw [← hrest] at h
    injection h with h _
    subst h
    decide
  have HRE : Hid (rest = 40 :: (Lib.itoa n ++ (41 :: rest0))) := Lib.hid (by rw [← hrest]; simp)
  have HSK := Lib.hid (digs_skip hn (41 :: rest0))
  clear hf hrest
  have h13 : 1 ≤ k ∧ k ≤ 13 ∧ k ≠ 3 ∧ k ≠ 7 := by omega
  obtain ⟨g1, g2, g3, g7⟩ := h13
  obtain ⟨hwne, hwl, -⟩ := wd_ne g1 g2 g3 g7
  have htok : tokF (skip R) = wd k := by rw [hR]; exact tok_word hwne hwl hh
  have HN := Lib.hid (accept_no [40] hp (by rw [htok]; intro e; rw [e] at hwl; have := hwl 40 List.mem_cons_self; revert this; decide))
  have HN2 := Lib.hid (fun (w : World) (ns : List S53) (v : Value) (hp : PSt w base g s R ns v) => accept_no [35] hp (by rw [htok]; intro e; rw [e] at hwl; have := hwl 35 List.mem_cons_self; revert this; decide))
  have HST := Lib.hid (fun (w1 : World) (hb : Bel w w1) => PNd.start (hp.bel hb) (he.bel hb) h2 ⟨0, 0, 0, 0⟩)
  have HZ := Lib.hid (by omega : ns.length + 40 ≤ 1000000)
  have hsuf := (skip_suf R).trans hp.suf
  have hle := hsuf.length_le
  have hsl := hp.sl
  obtain ⟨p, hpp⟩ : ∃ p, s.length - (skip R).length = p := ⟨_, rfl⟩
  have HTK : Hid (∀ w v, PSt w base g s R ns v → Calls Tryd.prog 62 #[.pointer (some ⟨g, 0, none⟩)] w (RetTok w (wd k) p)) := Lib.hid (fun w v h => by rw [← htok, ← hpp]; exact token_any h)
  have HSF : Hid (rest <:+ s) := Lib.hid ((List.suffix_append _ rest).trans (hR ▸ hsuf))
  have hpl : p + (wd k).length = s.length - rest.length := by
    rw [hR] at hpp hle; simp at hpp hle; omega
  have HIX := Lib.hid (fun (w : World) (he : Env w) => index_any g1 g2 g3 g7 he)
  obtain ⟨m, hmm⟩ : ∃ m, most k = m := ⟨_, rfl⟩
  have HAR := Lib.hid (fun w => arity_is k 0 m (by omega) (by omega) (by rcases hk with rfl | rfl <;> decide) hmm w)
  have hk1 : 1 ≤ k := by omega
  have hm0 : 0 < m ∧ m ≤ 100000 := by rw [← hmm]; rcases hk with rfl | rfl <;> decide
  rw [hmm] at hm
  have HNM := Lib.hid (And.intro hn hm)
  obtain ⟨hm1, hm2⟩ := hm0
  have HM2 := Lib.hid hm2
  clear hk hm hn g1 g2 g3 g7 hmm
  obtain ⟨t, ht⟩ : ∃ t, wd k = t := ⟨_, rfl⟩
  rw [ht] at HTK hpl HIX hwne
  have hps : p + t.length ≤ 300 := by omega
  have HPL := Lib.hid hpl
  have ht0 : (t == []) = false := by simpa using hwne
  have ht1 : t.isEmpty = false := by simpa using hwne
  have ht2 : (t = []) = False := by simpa using hwne
  clear hp he h2 hR hh hsz htok hsuf hle hsl hpp hpl hwl ht hwne
  go_enter Tryd.func61, Tryd.ntmps61
  go_wp2_with fail
  go_must (refine HN.out.mono ?_); rintro e w1 ⟨rfl, hb1⟩
  have N0 := Lib.hid (HST.out w1 hb1)
  have HB1 := Lib.hid hb1
  clear hb1
  go_wp2_with fail
  obtain ⟨b0, hb0⟩ : ∃ b0, w1.heap.size = b0 := ⟨_, rfl⟩
  rw [hb0] at N0 ⊢
  clear hb0
  generalize (w1.alloc (Obj.cells #[.int .i64 0, .int .i64 0, .int .i64 0, .int .i64 0] 53)) = W1 at *
  go_must (refine (HN2.out _ _ _ N0.out.p).mono ?_); rintro e w2 ⟨rfl, hb2⟩
  have N1 := Lib.hid (N0.out.bel hb2)
  clear hb2
  go_wp2_with fail
  go_must (refine (HTK.out _ _ N1.out.p).mono ?_); rintro e w3 ⟨rfl, hb3⟩
  have N2 := Lib.hid (N1.out.bel hb3)
  clear hb3
  obtain ⟨a1, a2, a3, a4, a5, a6, a7, a8, a9, a10, a11, a12⟩ := N2.out.facts
  go_wp2_with fail
  go_must (refine (HIX.out _ N2.out.env).mono ?_); rintro e w4 ⟨rfl, rfl⟩
  have N3 := Lib.hid (N2.out.set 0 k ⟨k, 0, 0, 0⟩ rfl)
  have hpw : ((p : Int) + (t.length : Int)) = ((s.length - rest.length : Nat) : Int) := by rw [← HPL.out]; omega
  have N4 := Lib.hid (N3.out.read HSF.out)
  rw [← hpw] at N4
  clear hpw
  go_wp2_with fail
  go_must (refine (HAR.out _).mono ?_); rintro e w5 ⟨rfl, hb5⟩
  have N5 := Lib.hid (N4.out.bel hb5)
  clear hb5
  obtain ⟨z1, z2, z3, z4, z5, z6, z7, z8, z9, z10, z11, z12⟩ := N5.out.facts
  go_wp2_with fail
  go_must (refine (expect_yes [40] (Lib.itoa n ++ (41 :: rest0)) N5.out.p (by rw [HRE.out]; rfl) (by rw [HRE.out]; exact tok_sym (by decide) (by decide))).mono ?_); rintro e w6 ⟨rfl, v6, p6, c6⟩
  have N6 := Lib.hid (N5.out.call p6 c6)
  clear p6 c6
  go_wp2_with fail
  go_must (refine (number_any n m (41 :: rest0) N6.out.p N6.out.env HSK.out (fun c r' h => by injection h with h _; subst h; decide) HNM.out.1 HNM.out.2 HM2.out).mono ?_); rintro e w7 ⟨rfl, v7, p7, c7⟩
  have N7 := Lib.hid (N6.out.call p7 c7)
  clear p7 c7
  obtain ⟨y1, y2, y3, y4, y5, y6, y7, y8, y9, y10, y11, y12⟩ := N7.out.facts
  go_wp2_with fail
  have N8 := Lib.hid (N7.out.set 1 n ⟨k, n, 0, 0⟩ rfl)
  go_must (refine (expect_yes [41] rest0 N8.out.p (by rw [skip_of (by decide)]; rfl) (by rw [skip_of (by decide)]; exact tok_sym (by decide) (by decide))).mono ?_); rintro e w8 ⟨rfl, v8, p8, c8⟩
  have N9 := Lib.hid (N8.out.call p8 c8)
  clear p8 c8
  obtain ⟨x1, x2, x3, x4, x5, x6, x7, x8, x9, x10, x11, x12⟩ := N9.out.facts
  go_wp2_with fail
  go_must (refine (add_any ⟨k, n, 0, 0⟩ N9.out.p (by have := HZ.out; omega)).mono ?_); rintro e w9 ⟨rfl, v9, p9, c9⟩
  have NEND := Lib.hid (N9.out.call p9 c9)
  clear p9 c9
  go_wp2_with fail
  go_ret
  exact ⟨by simp [RT.root, RT.size], _, by simpa [RT.post, RT.root] using NEND.out.p, (PC.of_bel HB1.out).trans NEND.out.c⟩

set_option maxRecDepth 100000 in
set_option maxHeartbeats 4000000 in
theorem prim_un {k n : Int} {l : RT} (h8 : 8 ≤ k) (h13' : k ≤ 13) (hn : 0 ≤ n) (hm : n ≤ most k) (hs : Sh l) (ih : LevelC l 0) : PrimC (.node k n l .nil) := by
  have hkk : k = 8 ∨ k = 9 ∨ k = 10 ∨ k = 11 ∨ k = 12 ∨ k = 13 := by omega
  obtain rfl : n = 0 := by rcases hkk with rfl | rfl | rfl | rfl | rfl | rfl <;> simp [most] at hm <;> omega
  intro w base g s R ns v rest0 he h2 hp hR hf hsz
  simp only [RT.size] at hsz
  rw [showT_un h8 h13', List.append_assoc] at hR
  obtain ⟨rest, hrest⟩ : ∃ rest, (40 :: (showT l 0 ++ [41]) ++ rest0 : List UInt8) = rest := ⟨_, rfl⟩
  rw [hrest] at hR
  have hh : ∀ c r', rest = c :: r' → inB lets c = false := by
    intro c r' h
    rw [← hrest] at h
    injection h with h _
    subst h
    decide
  have HRE : Hid (rest = 40 :: (showT l 0 ++ (41 :: rest0))) := Lib.hid (by rw [← hrest]; simp)
  have HSK := Lib.hid (skip_showT hs 0 (41 :: rest0))
  have HSZ := Lib.hid hsz
  have HIH := Lib.hid ih
  have HB2 := Lib.hid h2
  clear hf hrest
  have h13 : 1 ≤ k ∧ k ≤ 13 ∧ k ≠ 3 ∧ k ≠ 7 := by omega
  obtain ⟨g1, g2, g3, g7⟩ := h13
  obtain ⟨hwne, hwl, -⟩ := wd_ne g1 g2 g3 g7
  have htok : tokF (skip R) = wd k := by rw [hR]; exact tok_word hwne hwl hh
  have HN := Lib.hid (accept_no [40] hp (by rw [htok]; intro e; rw [e] at hwl; have := hwl 40 List.mem_cons_self; revert this; decide))
  have HN2 := Lib.hid (fun (w : World) (ns : List S53) (v : Value) (hp : PSt w base g s R ns v) => accept_no [35] hp (by rw [htok]; intro e; rw [e] at hwl; have := hwl 35 List.mem_cons_self; revert this; decide))
  have HST := Lib.hid (fun (w1 : World) (hb : Bel w w1) => PNd.start (hp.bel hb) (he.bel hb) h2 ⟨0, 0, 0, 0⟩)
  have HZ := Lib.hid (by omega : ns.length + 40 ≤ 1000000)
  have hsuf := (skip_suf R).trans hp.suf
  have hle := hsuf.length_le
  have hsl := hp.sl
  obtain ⟨p, hpp⟩ : ∃ p, s.length - (skip R).length = p := ⟨_, rfl⟩
  have HTK : Hid (∀ w v, PSt w base g s R ns v → Calls Tryd.prog 62 #[.pointer (some ⟨g, 0, none⟩)] w (RetTok w (wd k) p)) := Lib.hid (fun w v h => by rw [← htok, ← hpp]; exact token_any h)
  have HSF : Hid (rest <:+ s) := Lib.hid ((List.suffix_append _ rest).trans (hR ▸ hsuf))
  have hpl : p + (wd k).length = s.length - rest.length := by
    rw [hR] at hpp hle; simp at hpp hle; omega
  have HIX := Lib.hid (fun (w : World) (he : Env w) => index_any g1 g2 g3 g7 he)
  have HAR := Lib.hid (fun w => arity_is k 1 0 (by omega) (by omega) (by rcases hkk with rfl | rfl | rfl | rfl | rfl | rfl <;> decide) (by rcases hkk with rfl | rfl | rfl | rfl | rfl | rfl <;> decide) w)
  have hk1 : 1 ≤ k := by omega
  clear hm hn g1 g2 g3 g7 hkk h8 h13' ih hs
  obtain ⟨t, ht⟩ : ∃ t, wd k = t := ⟨_, rfl⟩
  rw [ht] at HTK hpl HIX hwne
  have hps : p + t.length ≤ 300 := by omega
  have HPL := Lib.hid hpl
  have ht0 : (t == []) = false := by simpa using hwne
  have ht1 : t.isEmpty = false := by simpa using hwne
  have ht2 : (t = []) = False := by simpa using hwne
  clear hp he h2 hR hh hsz htok hsuf hle hsl hpp hpl hwl ht hwne
  go_enter Tryd.func61, Tryd.ntmps61
  go_wp2_with fail
  go_must (refine HN.out.mono ?_); rintro e w1 ⟨rfl, hb1⟩
  have N0 := Lib.hid (HST.out w1 hb1)
  have HB1 := Lib.hid hb1
  clear hb1
  go_wp2_with fail
  obtain ⟨b0, hb0⟩ : ∃ b0, w1.heap.size = b0 := ⟨_, rfl⟩
  rw [hb0] at N0 ⊢
  clear hb0
  generalize (w1.alloc (Obj.cells #[.int .i64 0, .int .i64 0, .int .i64 0, .int .i64 0] 53)) = W1 at *
  go_must (refine (HN2.out _ _ _ N0.out.p).mono ?_); rintro e w2 ⟨rfl, hb2⟩
  have N1 := Lib.hid (N0.out.bel hb2)
  clear hb2
  go_wp2_with fail
  go_must (refine (HTK.out _ _ N1.out.p).mono ?_); rintro e w3 ⟨rfl, hb3⟩
  have N2 := Lib.hid (N1.out.bel hb3)
  clear hb3
  obtain ⟨a1, a2, a3, a4, a5, a6, a7, a8, a9, a10, a11, a12⟩ := N2.out.facts
  go_wp2_with fail
  go_must (refine (HIX.out _ N2.out.env).mono ?_); rintro e w4 ⟨rfl, rfl⟩
  have N3 := Lib.hid (N2.out.set 0 k ⟨k, 0, 0, 0⟩ rfl)
  have hpw : ((p : Int) + (t.length : Int)) = ((s.length - rest.length : Nat) : Int) := by rw [← HPL.out]; omega
  have N4 := Lib.hid (N3.out.read HSF.out)
  rw [← hpw] at N4
  clear hpw
  go_wp2_with fail
  go_must (refine (HAR.out _).mono ?_); rintro e w5 ⟨rfl, hb5⟩
  have N5 := Lib.hid (N4.out.bel hb5)
  clear hb5
  obtain ⟨z1, z2, z3, z4, z5, z6, z7, z8, z9, z10, z11, z12⟩ := N5.out.facts
  go_wp2_with fail
  go_must (refine (expect_yes [40] (showT l 0 ++ (41 :: rest0)) N5.out.p (by rw [HRE.out]; rfl) (by rw [HRE.out]; exact tok_sym (by decide) (by decide))).mono ?_); rintro e w6 ⟨rfl, v6, p6, c6⟩
  have N6 := Lib.hid (N5.out.call p6 c6)
  clear p6 c6
  go_wp2_with fail
  go_must (refine (HIH.out w6 base g s _ ns v6 (41 :: rest0) N6.out.env HB2.out N6.out.p HSK.out (Fol.paren 0 rest0) (by have := HSZ.out; omega)).mono ?_); rintro e w7 ⟨rfl, v7, p7, c7⟩
  have N7 := Lib.hid (N6.out.call p7 c7)
  clear p7 c7
  obtain ⟨y1, y2, y3, y4, y5, y6, y7, y8, y9, y10, y11, y12⟩ := N7.out.facts
  obtain ⟨ro, hro⟩ : ∃ ro, l.root ns.length = ro := ⟨_, rfl⟩
  rw [hro]
  have HRO := Lib.hid hro
  clear hro
  go_wp2_with fail
  have N8 := Lib.hid (N7.out.set 2 ro ⟨k, 0, ro, 0⟩ rfl)
  go_must (refine (expect_yes [41] rest0 N8.out.p (by rw [skip_of (by decide)]; rfl) (by rw [skip_of (by decide)]; exact tok_sym (by decide) (by decide))).mono ?_); rintro e w8 ⟨rfl, v8, p8, c8⟩
  have N9 := Lib.hid (N8.out.call p8 c8)
  clear p8 c8
  obtain ⟨x1, x2, x3, x4, x5, x6, x7, x8, x9, x10, x11, x12⟩ := N9.out.facts
  go_wp2_with fail
  go_must (refine (add_any ⟨k, 0, ro, 0⟩ N9.out.p (by have := HSZ.out; simp only [List.length_append, RT.post_length]; omega)).mono ?_); rintro e w9 ⟨rfl, v9, p9, c9⟩
  have NEND := Lib.hid (N9.out.call p9 c9)
  clear p9 c9
  go_wp2_with fail
  go_ret
  refine ⟨?_, _, ?_, (PC.of_bel HB1.out).trans NEND.out.c⟩
  · simp [RT.root, RT.size, RT.post_length]
  · have := NEND.out.p
    rw [← HRO.out] at this
    simpa [RT.post, RT.root] using this

end Go.Proofs.YtijaoedlhmdpnaaDoor
/- level walked. -/
namespace Go.Proofs.YtijaoedlhmdpnaaDoor
open Go.RowKit Go.Proofs.YtijaoedlhmdpnaaDoor.PTopQueriesKept Go.Proofs.YtijaoedlhmdpnaaDoorW.PrintWords

set_option maxRecDepth 100000 in
set_option maxHeartbeats 4000000 in
theorem level_not {l : RT} (hs : Sh l) (ih : LevelC l 2) : LevelC (.node 7 0 l .nil) 2 := by
  intro w base g s R ns v rest he h2 hp hR hf hsz
  simp only [RT.size] at hsz
  rw [showT_not, List.cons_append] at hR
  have HA := Lib.hid (accept_yes [33] (showT l 2 ++ rest) hp (by rw [hR]; rfl) (by rw [hR]; exact tok_sym (by decide) (by decide)))
  have HP := Lib.hid hp
  have HE := Lib.hid he
  have HB := Lib.hid h2
  have HSZ := Lib.hid hsz
  have HI := Lib.hid ih
  have HF := Lib.hid hf
  have HS := Lib.hid (skip_showT hs 2 rest)
  clear hp he h2 hsz ih hR hf hs
  go_enter Tryd.func49, Tryd.ntmps49
  go_wp2_with fail
  go_must (refine HA.out.mono ?_); rintro e w1 ⟨rfl, v1, p1, c1⟩
  have P1 := Lib.hid p1
  have C1 := Lib.hid c1
  have E1 := Lib.hid (HE.out.pc HP.out HB.out c1)
  clear p1 c1
  go_wp2_with fail
  go_must (refine (HI.out w1 base g s _ ns v1 rest E1.out HB.out P1.out HS.out HF.out (by have := HSZ.out; omega)).mono ?_); rintro e w2 ⟨rfl, v2, p2, c2⟩
  have P2 := Lib.hid p2
  have C2 := Lib.hid (C1.out.trans c2)
  clear p2 c2
  go_wp2_with fail
  go_must (refine (add_any ⟨7, 0, l.root ns.length, 0⟩ P2.out (by have := HSZ.out; simp only [List.length_append, RT.post_length]; omega)).mono ?_); rintro e w3 ⟨rfl, v3, p3, c3⟩
  have P3 := Lib.hid p3
  have C3 := Lib.hid (C2.out.trans c3)
  clear p3 c3
  go_wp2_with fail
  go_ret
  refine ⟨?_, v3, ?_, C3.out⟩
  · simp [RT.root, RT.size, RT.post_length]
  · have := P3.out
    simpa [RT.post, RT.root] using this

set_option maxRecDepth 100000 in
set_option maxHeartbeats 4000000 in
theorem level_prim {t : RT} (hne : ∀ rest, tokF (showT t 2 ++ rest) ≠ [33]) (ih : PrimC t) : LevelC t 2 := by
  intro w base g s R ns v rest he h2 hp hR hf hsz
  have HN := Lib.hid (accept_no [33] hp (by rw [hR]; exact hne rest))
  have HI := Lib.hid (fun w1 (hb : Bel w w1) => ih w1 base g s R ns v rest (he.bel hb) h2 (hp.bel hb) hR hf hsz)
  clear hp he h2 hsz ih hR hf hne
  go_enter Tryd.func49, Tryd.ntmps49
  go_wp2_with fail
  go_must (refine HN.out.mono ?_); rintro e w1 ⟨rfl, hb1⟩
  have HB1 := Lib.hid hb1
  have HI1 := Lib.hid (HI.out w1 hb1)
  clear hb1
  go_wp2_with fail
  go_must (refine HI1.out.mono ?_); rintro e w2 ⟨rfl, v2, p2, c2⟩
  have P2 := Lib.hid p2
  have C2 := Lib.hid ((PC.of_bel HB1.out).trans c2)
  clear p2 c2
  go_wp2_with fail
  go_ret
  exact ⟨rfl, v2, P2.out, C2.out⟩

/-- The head of level's loop: s' is read, m operators are to come. -/
structure LvH (k : Int) (t : RT) (w : World) (base g : Nat) (s rest : List UInt8) (ns : List S53) (v : Value) (m : Nat) (s' : RT) (suf : List UInt8) (wr : World) (v' : Value) : Prop where
  lf : Lf k t s' suf m
  p : PSt wr base g s (suf ++ rest) (ns ++ s'.post ns.length) v'
  c : PC g w v wr v'
  e : Env wr
theorem Lf.parts {k : Int} {t s : RT} {suf : List UInt8} {m : Nat} (h : Lf k t s suf m) : (m = 0 ∧ s = t ∧ suf = []) ∨ ∃ kind n r suf' m', m = m' + 1 ∧ suf = opT kind ++ (showT r (k + 1) ++ suf') ∧ Lf k t (.node kind n s r) suf' m' ∧ OpAt k kind := by
  cases h with
  | refl => exact .inl ⟨rfl, rfl, rfl⟩
  | step h ho => exact .inr ⟨_, _, _, _, _, rfl, rfl, h, ho⟩
theorem Lf.zero {k kind n : Int} {t l r : RT} {suf : List UInt8} {m : Nat} (h : Lf k t (.node kind n l r) suf m) (ht : Sh t) (hn : NOk t) (ho : OpAt k kind) : n = 0 ∧ Sh r := by
  obtain ⟨h1, h2⟩ := h.sh ht hn
  have h3 : 0 ≤ n ∧ n ≤ most kind := ⟨h2.1, h2.2.1⟩
  have hm : most kind = 0 := by rcases ho with ⟨_, rfl⟩ | ⟨_, rfl | rfl⟩ <;> decide
  have hkd : 14 ≤ kind := by rcases ho with ⟨_, rfl⟩ | ⟨_, rfl | rfl⟩ <;> decide
  refine ⟨by omega, ?_⟩
  cases h1 with
  | leaf _ h6 => omega
  | un _ h13 _ => omega
  | bin _ _ hl hr => exact hr
theorem LvH.next {k kind : Int} {t l r : RT} {w W : World} {base g : Nat} {s rest : List UInt8} {ns : List S53} {v v' : Value} {m : Nat} {suf : List UInt8} (hl : Lf k t (.node kind 0 l r) suf m) 
    (hp : PSt W base g s (suf ++ rest) (ns ++ l.post ns.length ++ r.post (ns ++ l.post ns.length).length ++ [⟨kind, 0, l.root ns.length, r.root (ns ++ l.post ns.length).length⟩]) v') (hc : PC g w v W v') (he : Env W) : LvH k t w base g s rest ns v m (.node kind 0 l r) suf W v' := by
  refine ⟨hl, ?_, hc, he⟩
  have : ns ++ (RT.node kind 0 l r).post ns.length = ns ++ l.post ns.length ++ r.post (ns ++ l.post ns.length).length ++ [⟨kind, 0, l.root ns.length, r.root (ns ++ l.post ns.length).length⟩] := by
    simp [RT.post, RT.post_length]
  rw [this]
  exact hp
theorem no_tok0 {rest : List UInt8} (h : Fol 0 rest) : tokF (skip rest) ≠ [124] := by
  rcases h.tok with e | e | ⟨h1, e⟩ | ⟨h1, e⟩ | ⟨h1, e⟩
  all_goals rw [e]
  all_goals first | decide | omega
theorem no_tok1 {rest : List UInt8} (h : Fol 1 rest) : tokF (skip rest) ≠ [38] ∧ tokF (skip rest) ≠ [45] := by
  rcases h.tok with e | e | ⟨h1, e⟩ | ⟨h1, e⟩ | ⟨h1, e⟩
  all_goals rw [e]
  all_goals first | decide | omega
theorem opT_length (kind : Int) : (opT kind).length = 3 := by
  unfold opT
  repeat' split
  all_goals rfl
theorem op_skip (kind : Int) (u : List UInt8) (ho : kind = 14 ∨ kind = 15 ∨ kind = 16) : skip (opT kind ++ u) = [if kind = 14 then 124 else if kind = 15 then 38 else 45] ++ 32 :: u ∧ tokF (skip (opT kind ++ u)) = [if kind = 14 then 124 else if kind = 15 then 38 else 45] := by
  rcases ho with rfl | rfl | rfl
  · have h : skip (opT 14 ++ u) = 124 :: 32 :: u := by simp [opT, skip]
    rw [h]; exact ⟨rfl, tok_sym (by decide) (by decide)⟩
  · have h : skip (opT 15 ++ u) = 38 :: 32 :: u := by simp [opT, skip]
    rw [h]; exact ⟨rfl, tok_sym (by decide) (by decide)⟩
  · have h : skip (opT 16 ++ u) = 45 :: 32 :: u := by simp [opT, skip]
    rw [h]; exact ⟨rfl, tok_sym (by decide) (by decide)⟩

set_option maxRecDepth 100000 in
set_option maxHeartbeats 8000000 in
theorem level_loop0 {t : RT} (hs : Sh t) (hn : NOk t) (ih1 : ∀ s suf m, Lf 0 t s suf m → (∀ kind n l r, s = .node kind n l r → ¬ OpAt 0 kind) → LevelC s (0 + 1)) (ihr : ∀ kind n l r suf m, Lf 0 t (.node kind n l r) suf m → OpAt 0 kind → LevelC r (0 + 1)) : LevelC t 0 := by
  intro w base g s R ns v rest he h2 hp hR hf hsz
  obtain ⟨s0, suf0, m0, hlf0, hno⟩ := Lf.leftm 0 t hs
  have hI := ih1 s0 suf0 m0 hlf0 hno
  have hR0 : skip R = showT s0 (0 + 1) ++ (suf0 ++ rest) := by
    rw [hR, hlf0.text, List.append_assoc]
    congr 1
    obtain ⟨h1, _⟩ := hlf0.sh hs hn
    cases s0 with
    | nil => exact absurd rfl h1.ne_nil
    | node kind n l r => exact showT_down (by decide) (hno kind n l r rfl)
  have HI := Lib.hid (hI w base g s R ns v (suf0 ++ rest) he h2 hp hR0 (hlf0.fol hf) (by have := hlf0.size; omega))
  have HLF0 := Lib.hid hlf0
  have HPP := Lib.hid hp
  have HEE := Lib.hid he
  have HB := Lib.hid h2
  have HSZ := Lib.hid hsz
  have IHR := Lib.hid ihr
  have HF := Lib.hid hf
  have HT := Lib.hid (And.intro hs hn)
  clear hp he h2 hsz ih1 ihr hR hf hs hn hI hR0 hlf0 hno
  go_enter Tryd.func49, Tryd.ntmps49
  go_wp2_with fail
  go_must (refine HI.out.mono ?_); rintro e w1 ⟨rfl, v1, p1, c1⟩
  have H1 : Hid (LvH 0 t w base g s rest ns v m0 s0 suf0 w1 v1) := Lib.hid ⟨HLF0.out, p1, c1, HEE.out.pc HPP.out HB.out c1⟩
  clear p1 c1
  go_wp2_with fail
  go_loopg [5] m0 (fun m u5 wr => ∃ s' suf v', Hid (LvH 0 t w base g s rest ns v m s' suf wr v') ∧ u5 = .int .i64 (s'.root ns.length))
  case atStart => exact ⟨s0, suf0, v1, H1, rfl⟩
  case round =>
    obtain ⟨s', suf, v', hh, rfl⟩ := hrel
    rcases hh.out.lf.parts with ⟨hm, hst, hsu⟩ | ⟨kind, n, r, suf', m', rfl, hsu, hlf, ho⟩
    · subst hst
      subst hsu
      obtain ⟨⟨c0, c1, c2, c3, c4⟩, c5⟩ := blk5 hh.out.p.blk
      have hgl : g < wr.heap.size := World.block_lt_of_cell? _ _ c0
      obtain ⟨ro, hro⟩ : ∃ ro, s'.root ns.length = ro := ⟨_, rfl⟩
      rw [hro]
      have HST := Lib.hid (PNd.start hh.out.p hh.out.e HB.out ⟨0, 0, ro, 0⟩)
      have HRO := Lib.hid hro
      have HNT := Lib.hid (no_tok0 HF.out)
      clear hro hm
      go_wp2_with fail
      obtain ⟨b0, hb0⟩ : ∃ b0, wr.heap.size = b0 := ⟨_, rfl⟩
      rw [hb0] at HST hgl ⊢
      clear hb0
      generalize (wr.alloc (Obj.cells #[.int .i64 0, .int .i64 0, .int .i64 ro, .int .i64 0] 53)) = W1 at *
      go_must (refine (accept_no [124] HST.out.p (HNT.out)).mono ?_); rintro e w2 ⟨rfl, hb2⟩
      have N1 := Lib.hid (HST.out.bel hb2)
      clear hb2
      go_wp2_with fail
      go_ret
      exact ⟨by rw [← HRO.out]; rfl, _, N1.out.p, hh.out.c.trans N1.out.c⟩
    · subst hsu
      obtain rfl : kind = 14 := by rcases ho with ⟨_, h⟩ | ⟨h, _⟩; exact h; omega
      obtain ⟨hn0, hshr⟩ := hlf.zero HT.out.1 HT.out.2 ho
      subst hn0
      have HSZ1 := Lib.hid hlf.size
      have HOP := Lib.hid (op_skip 14 (showT r (0 + 1) ++ suf' ++ rest) (by decide))
      have HFO := Lib.hid (hlf.fol HF.out)
      have HIR := Lib.hid (IHR.out _ _ _ _ _ _ hlf ho)
      have HSR := Lib.hid (skip_showT hshr (0 + 1) (suf' ++ rest))
      have HLF := Lib.hid hlf
      have HP := Lib.hid hh.out.p
      have HSTART := Lib.hid (PNd.start hh.out.p hh.out.e HB.out ⟨0, 0, s'.root ns.length, 0⟩)
      obtain ⟨⟨c0, c1, c2, c3, c4⟩, c5⟩ := blk5 hh.out.p.blk
      have hgl : g < wr.heap.size := World.block_lt_of_cell? _ _ c0
      obtain ⟨ro, hro⟩ : ∃ ro, s'.root ns.length = ro := ⟨_, rfl⟩
      rw [hro] at HSTART ⊢
      have HRO := Lib.hid hro
      clear hlf ho hshr hro
      go_wp2_with fail
      obtain ⟨b0, hb0⟩ : ∃ b0, wr.heap.size = b0 := ⟨_, rfl⟩
      rw [hb0] at HSTART hgl ⊢
      clear hb0
      generalize (wr.alloc (Obj.cells #[.int .i64 0, .int .i64 0, .int .i64 ro, .int .i64 0] 53)) = W1 at *
      go_must (refine (accept_yes [124] (32 :: (showT r (0 + 1) ++ suf' ++ rest)) HSTART.out.p (by rw [List.append_assoc, List.append_assoc, ← List.append_assoc (showT r _)]; exact HOP.out.1) (by rw [List.append_assoc, List.append_assoc, ← List.append_assoc (showT r _)]; exact HOP.out.2)).mono ?_); rintro e w2 ⟨rfl, v2, p2, c2⟩
      have N1 := Lib.hid (HSTART.out.call p2 c2)
      clear p2 c2
      obtain ⟨a1, a2, a3, a4, a5, a6, a7, a8, a9, a10, a11, a12⟩ := N1.out.facts
      go_wp2_with fail
      have N2 := Lib.hid (N1.out.set 0 14 ⟨14, 0, ro, 0⟩ rfl)
      go_must (refine (HIR.out _ base g s _ _ v2 (suf' ++ rest) N2.out.env HB.out N2.out.p (by rw [skip_space, List.append_assoc]; exact HSR.out) HFO.out (by have := HSZ.out; have := HSZ1.out; simp only [RT.size, List.length_append, RT.post_length] at *; omega)).mono ?_); rintro e w3 ⟨rfl, v3, p3, c3⟩
      have N3 := Lib.hid (N2.out.call p3 c3)
      clear p3 c3
      obtain ⟨y1, y2, y3, y4, y5, y6, y7, y8, y9, y10, y11, y12⟩ := N3.out.facts
      obtain ⟨rr, hrr⟩ : ∃ rr, r.root (ns ++ s'.post ns.length).length = rr := ⟨_, rfl⟩
      rw [hrr]
      have HRR := Lib.hid hrr
      clear hrr
      go_wp2_with fail
      have N4 := Lib.hid (N3.out.set 3 rr ⟨14, 0, ro, rr⟩ rfl)
      go_must (refine (add_any ⟨14, 0, ro, rr⟩ N4.out.p (by have := HSZ.out; have := HSZ1.out; simp only [RT.size, List.length_append, RT.post_length] at *; omega)).mono ?_); rintro e w4 ⟨rfl, v4, p4, c4⟩
      have N5 := Lib.hid (N4.out.call p4 c4)
      clear p4 c4
      have HN : Hid (LvH 0 t w base g s rest ns v m' (.node 14 0 s' r) suf' w4 v4) := Lib.hid (LvH.next HLF.out (by have := N5.out.p; rw [← HRO.out, ← HRR.out] at this; exact this) (hh.out.c.trans N5.out.c) N5.out.env)
      go_wp2_with fail
      go_roundg m'
      case measure => omega
      case rel => exact ⟨_, _, _, HN, by simp only [RT.root, List.length_append, RT.post_length]; congr 1; omega⟩

set_option maxRecDepth 100000 in
set_option maxHeartbeats 8000000 in
theorem level_loop1 {t : RT} (hs : Sh t) (hn : NOk t) (ih1 : ∀ s suf m, Lf 1 t s suf m → (∀ kind n l r, s = .node kind n l r → ¬ OpAt 1 kind) → LevelC s (1 + 1)) (ihr : ∀ kind n l r suf m, Lf 1 t (.node kind n l r) suf m → OpAt 1 kind → LevelC r (1 + 1)) : LevelC t 1 := by
  intro w base g s R ns v rest he h2 hp hR hf hsz
  obtain ⟨s0, suf0, m0, hlf0, hno⟩ := Lf.leftm 1 t hs
  have hI := ih1 s0 suf0 m0 hlf0 hno
  have hR0 : skip R = showT s0 (1 + 1) ++ (suf0 ++ rest) := by
    rw [hR, hlf0.text, List.append_assoc]
    congr 1
    obtain ⟨h1, _⟩ := hlf0.sh hs hn
    cases s0 with
    | nil => exact absurd rfl h1.ne_nil
    | node kind n l r => exact showT_down (by decide) (hno kind n l r rfl)
  have HI := Lib.hid (hI w base g s R ns v (suf0 ++ rest) he h2 hp hR0 (hlf0.fol hf) (by have := hlf0.size; omega))
  have HLF0 := Lib.hid hlf0
  have HPP := Lib.hid hp
  have HEE := Lib.hid he
  have HB := Lib.hid h2
  have HSZ := Lib.hid hsz
  have IHR := Lib.hid ihr
  have HF := Lib.hid hf
  have HT := Lib.hid (And.intro hs hn)
  clear hp he h2 hsz ih1 ihr hR hf hs hn hI hR0 hlf0 hno
  go_enter Tryd.func49, Tryd.ntmps49
  go_wp2_with fail
  go_must (refine HI.out.mono ?_); rintro e w1 ⟨rfl, v1, p1, c1⟩
  have H1 : Hid (LvH 1 t w base g s rest ns v m0 s0 suf0 w1 v1) := Lib.hid ⟨HLF0.out, p1, c1, HEE.out.pc HPP.out HB.out c1⟩
  clear p1 c1
  go_wp2_with fail
  go_loopg [5] m0 (fun m u5 wr => ∃ s' suf v', Hid (LvH 1 t w base g s rest ns v m s' suf wr v') ∧ u5 = .int .i64 (s'.root ns.length))
  case atStart => exact ⟨s0, suf0, v1, H1, rfl⟩
  case round =>
    obtain ⟨s', suf, v', hh, rfl⟩ := hrel
    rcases hh.out.lf.parts with ⟨hm, hst, hsu⟩ | ⟨kind, n, r, suf', m', rfl, hsu, hlf, ho⟩
    · subst hst
      subst hsu
      obtain ⟨⟨c0, c1, c2, c3, c4⟩, c5⟩ := blk5 hh.out.p.blk
      have hgl : g < wr.heap.size := World.block_lt_of_cell? _ _ c0
      obtain ⟨ro, hro⟩ : ∃ ro, s'.root ns.length = ro := ⟨_, rfl⟩
      rw [hro]
      have HST := Lib.hid (PNd.start hh.out.p hh.out.e HB.out ⟨0, 0, ro, 0⟩)
      have HRO := Lib.hid hro
      have HNT := Lib.hid (no_tok1 HF.out)
      clear hro hm
      go_wp2_with fail
      obtain ⟨b0, hb0⟩ : ∃ b0, wr.heap.size = b0 := ⟨_, rfl⟩
      rw [hb0] at HST hgl ⊢
      clear hb0
      generalize (wr.alloc (Obj.cells #[.int .i64 0, .int .i64 0, .int .i64 ro, .int .i64 0] 53)) = W1 at *
      go_must (refine (accept_no [38] HST.out.p HNT.out.1).mono ?_); rintro e w2 ⟨rfl, hb2⟩
      have N0 := Lib.hid (HST.out.bel hb2)
      clear hb2
      go_wp2_with fail
      go_must (refine (accept_no [45] N0.out.p HNT.out.2).mono ?_); rintro e w3 ⟨rfl, hb3⟩
      have N1 := Lib.hid (N0.out.bel hb3)
      clear hb3
      go_wp2_with fail
      go_ret
      exact ⟨by rw [← HRO.out]; rfl, _, N1.out.p, hh.out.c.trans N1.out.c⟩
    · subst hsu
      have hkd : kind = 15 ∨ kind = 16 := by rcases ho with ⟨h, _⟩ | ⟨_, h⟩; omega; exact h
      rcases hkd with rfl | rfl
      · obtain ⟨hn0, hshr⟩ := hlf.zero HT.out.1 HT.out.2 ho
        subst hn0
        have HSZ1 := Lib.hid hlf.size
        have HOP := Lib.hid (op_skip 15 (showT r (1 + 1) ++ suf' ++ rest) (by decide))
        have HFO := Lib.hid (hlf.fol HF.out)
        have HIR := Lib.hid (IHR.out _ _ _ _ _ _ hlf ho)
        have HSR := Lib.hid (skip_showT hshr (1 + 1) (suf' ++ rest))
        have HLF := Lib.hid hlf
        have HP := Lib.hid hh.out.p
        have HSTART := Lib.hid (PNd.start hh.out.p hh.out.e HB.out ⟨0, 0, s'.root ns.length, 0⟩)
        obtain ⟨⟨c0, c1, c2, c3, c4⟩, c5⟩ := blk5 hh.out.p.blk
        have hgl : g < wr.heap.size := World.block_lt_of_cell? _ _ c0
        obtain ⟨ro, hro⟩ : ∃ ro, s'.root ns.length = ro := ⟨_, rfl⟩
        rw [hro] at HSTART ⊢
        have HRO := Lib.hid hro
        clear hlf ho hshr hro
        go_wp2_with fail
        obtain ⟨b0, hb0⟩ : ∃ b0, wr.heap.size = b0 := ⟨_, rfl⟩
        rw [hb0] at HSTART hgl ⊢
        clear hb0
        generalize (wr.alloc (Obj.cells #[.int .i64 0, .int .i64 0, .int .i64 ro, .int .i64 0] 53)) = W1 at *
        go_must (refine (accept_yes [38] (32 :: (showT r (1 + 1) ++ suf' ++ rest)) HSTART.out.p (by rw [List.append_assoc, List.append_assoc, ← List.append_assoc (showT r _)]; exact HOP.out.1) (by rw [List.append_assoc, List.append_assoc, ← List.append_assoc (showT r _)]; exact HOP.out.2)).mono ?_); rintro e w2 ⟨rfl, v2, p2, c2⟩
        have N1 := Lib.hid (HSTART.out.call p2 c2)
        clear p2 c2
        obtain ⟨a1, a2, a3, a4, a5, a6, a7, a8, a9, a10, a11, a12⟩ := N1.out.facts
        go_wp2_with fail
        have N2 := Lib.hid (N1.out.set 0 15 ⟨15, 0, ro, 0⟩ rfl)
        go_must (refine (HIR.out _ base g s _ _ v2 (suf' ++ rest) N2.out.env HB.out N2.out.p (by rw [skip_space, List.append_assoc]; exact HSR.out) HFO.out (by have := HSZ.out; have := HSZ1.out; simp only [RT.size, List.length_append, RT.post_length] at *; omega)).mono ?_); rintro e w3 ⟨rfl, v3, p3, c3⟩
        have N3 := Lib.hid (N2.out.call p3 c3)
        clear p3 c3
        obtain ⟨y1, y2, y3, y4, y5, y6, y7, y8, y9, y10, y11, y12⟩ := N3.out.facts
        obtain ⟨rr, hrr⟩ : ∃ rr, r.root (ns ++ s'.post ns.length).length = rr := ⟨_, rfl⟩
        rw [hrr]
        have HRR := Lib.hid hrr
        clear hrr
        go_wp2_with fail
        have N4 := Lib.hid (N3.out.set 3 rr ⟨15, 0, ro, rr⟩ rfl)
        go_must (refine (add_any ⟨15, 0, ro, rr⟩ N4.out.p (by have := HSZ.out; have := HSZ1.out; simp only [RT.size, List.length_append, RT.post_length] at *; omega)).mono ?_); rintro e w4 ⟨rfl, v4, p4, c4⟩
        have N5 := Lib.hid (N4.out.call p4 c4)
        clear p4 c4
        have HN : Hid (LvH 1 t w base g s rest ns v m' (.node 15 0 s' r) suf' w4 v4) := Lib.hid (LvH.next HLF.out (by have := N5.out.p; rw [← HRO.out, ← HRR.out] at this; exact this) (hh.out.c.trans N5.out.c) N5.out.env)
        go_wp2_with fail
        go_roundg m'
        case measure => omega
        case rel => exact ⟨_, _, _, HN, by simp only [RT.root, List.length_append, RT.post_length]; congr 1; omega⟩
      · obtain ⟨hn0, hshr⟩ := hlf.zero HT.out.1 HT.out.2 ho
        subst hn0
        have HSZ1 := Lib.hid hlf.size
        have HOP := Lib.hid (op_skip 16 (showT r (1 + 1) ++ suf' ++ rest) (by decide))
        have HFO := Lib.hid (hlf.fol HF.out)
        have HIR := Lib.hid (IHR.out _ _ _ _ _ _ hlf ho)
        have HSR := Lib.hid (skip_showT hshr (1 + 1) (suf' ++ rest))
        have HLF := Lib.hid hlf
        have HP := Lib.hid hh.out.p
        have HSTART := Lib.hid (PNd.start hh.out.p hh.out.e HB.out ⟨0, 0, s'.root ns.length, 0⟩)
        obtain ⟨⟨c0, c1, c2, c3, c4⟩, c5⟩ := blk5 hh.out.p.blk
        have hgl : g < wr.heap.size := World.block_lt_of_cell? _ _ c0
        obtain ⟨ro, hro⟩ : ∃ ro, s'.root ns.length = ro := ⟨_, rfl⟩
        rw [hro] at HSTART ⊢
        have HRO := Lib.hid hro
        clear hlf ho hshr hro
        go_wp2_with fail
        obtain ⟨b0, hb0⟩ : ∃ b0, wr.heap.size = b0 := ⟨_, rfl⟩
        rw [hb0] at HSTART hgl ⊢
        clear hb0
        generalize (wr.alloc (Obj.cells #[.int .i64 0, .int .i64 0, .int .i64 ro, .int .i64 0] 53)) = W1 at *
        go_must (refine (accept_no [38] HSTART.out.p (by rw [List.append_assoc, List.append_assoc, ← List.append_assoc (showT r _), HOP.out.2]; decide)).mono ?_); rintro e w1 ⟨rfl, hb1⟩
        have N0 := Lib.hid (HSTART.out.bel hb1)
        clear hb1
        go_wp2_with fail
        go_must (refine (accept_yes [45] (32 :: (showT r (1 + 1) ++ suf' ++ rest)) N0.out.p (by rw [List.append_assoc, List.append_assoc, ← List.append_assoc (showT r _)]; exact HOP.out.1) (by rw [List.append_assoc, List.append_assoc, ← List.append_assoc (showT r _)]; exact HOP.out.2)).mono ?_); rintro e w2 ⟨rfl, v2, p2, c2⟩
        have N1 := Lib.hid (N0.out.call p2 c2)
        clear p2 c2
        obtain ⟨a1, a2, a3, a4, a5, a6, a7, a8, a9, a10, a11, a12⟩ := N1.out.facts
        go_wp2_with fail
        have N2 := Lib.hid (N1.out.set 0 16 ⟨16, 0, ro, 0⟩ rfl)
        go_must (refine (HIR.out _ base g s _ _ v2 (suf' ++ rest) N2.out.env HB.out N2.out.p (by rw [skip_space, List.append_assoc]; exact HSR.out) HFO.out (by have := HSZ.out; have := HSZ1.out; simp only [RT.size, List.length_append, RT.post_length] at *; omega)).mono ?_); rintro e w3 ⟨rfl, v3, p3, c3⟩
        have N3 := Lib.hid (N2.out.call p3 c3)
        clear p3 c3
        obtain ⟨y1, y2, y3, y4, y5, y6, y7, y8, y9, y10, y11, y12⟩ := N3.out.facts
        obtain ⟨rr, hrr⟩ : ∃ rr, r.root (ns ++ s'.post ns.length).length = rr := ⟨_, rfl⟩
        rw [hrr]
        have HRR := Lib.hid hrr
        clear hrr
        go_wp2_with fail
        have N4 := Lib.hid (N3.out.set 3 rr ⟨16, 0, ro, rr⟩ rfl)
        go_must (refine (add_any ⟨16, 0, ro, rr⟩ N4.out.p (by have := HSZ.out; have := HSZ1.out; simp only [RT.size, List.length_append, RT.post_length] at *; omega)).mono ?_); rintro e w4 ⟨rfl, v4, p4, c4⟩
        have N5 := Lib.hid (N4.out.call p4 c4)
        clear p4 c4
        have HN : Hid (LvH 1 t w base g s rest ns v m' (.node 16 0 s' r) suf' w4 v4) := Lib.hid (LvH.next HLF.out (by have := N5.out.p; rw [← HRO.out, ← HRR.out] at this; exact this) (hh.out.c.trans N5.out.c) N5.out.env)
        go_wp2_with fail
        go_roundg m'
        case measure => omega
        case rel => exact ⟨_, _, _, HN, by simp only [RT.root, List.length_append, RT.post_length]; congr 1; omega⟩

theorem Sh.parts {kind n : Int} {l r : RT} (h : Sh (.node kind n l r)) : (1 ≤ kind ∧ kind ≤ 6 ∧ l = .nil ∧ r = .nil) ∨ (7 ≤ kind ∧ kind ≤ 13 ∧ Sh l ∧ r = .nil) ∨ (14 ≤ kind ∧ kind ≤ 16 ∧ Sh l ∧ Sh r) := by
  cases h with
  | leaf h1 h6 => exact .inl ⟨h1, h6, rfl, rfl⟩
  | un h7 h13 hl => exact .inr (.inl ⟨h7, h13, hl, rfl⟩)
  | bin h14 h16 hl hr => exact .inr (.inr ⟨h14, h16, hl, hr⟩)

theorem word_ne {k : Int} (h1 : 1 ≤ k) (h13 : k ≤ 13) (h3 : k ≠ 3) (h7 : k ≠ 7) (u : List UInt8) : tokF (wd k ++ u) ≠ [33] := by
  obtain ⟨hne, hl, -⟩ := wd_ne h1 h13 h3 h7
  cases hw : wd k with
  | nil => exact absurd hw hne
  | cons c r =>
    have := hl c (by rw [hw]; exact List.mem_cons_self)
    exact tok_ne (by intro e; subst e; revert this; decide) []

/-- level reads every right tree's text. -/
theorem level_all : ∀ (m : Nat) (t : RT) (k : Int), 3 * (showT t k).length + (2 - k).toNat < m → Sh t → NOk t → 0 ≤ k → k ≤ 2 → LevelC t k := by
  intro m
  induction m with
  | zero => intro t k hm; omega
  | succ m ih =>
    intro t k hm hs hn h0 h2
    by_cases hk2 : k = 2
    · subst hk2
      cases t with
      | nil => exact absurd rfl hs.ne_nil
      | node kind n l r =>
        obtain ⟨hn0, hnm, hnl, hnr⟩ := hn
        rcases hs.parts with ⟨h1, h6, rfl, rfl⟩ | ⟨h7, h13, hl, rfl⟩ | ⟨h14, h16, hl, hr⟩
        · have hkd : kind = 3 ∨ (kind = 4 ∨ kind = 5) ∨ (kind = 1 ∨ kind = 2 ∨ kind = 6) := by omega
          rcases hkd with rfl | hk | hk
          · exact level_prim (fun rest => by rw [showT_commit]; exact tok_ne (by decide) []) (prim_commit hn0 (by simpa [most] using hnm))
          · exact level_prim (fun rest => by rw [showT_num hk, List.append_assoc]; exact word_ne (by omega) (by omega) (by omega) (by omega) _) (prim_num hk hn0 hnm)
          · exact level_prim (fun rest => by rw [showT_word hk]; exact word_ne (by omega) (by omega) (by omega) (by omega) _) (prim_word hk hn0 hnm)
        · by_cases h8 : kind = 7
          · subst h8
            obtain rfl : n = 0 := by simp [most] at hnm; omega
            exact level_not hl (ih l 2 (by rw [showT_not] at hm; simp at hm; omega) hl hnl (by decide) (by decide))
          · have hm' : 3 * (showT l 0).length + (2 - (0 : Int)).toNat < m := by rw [showT_un (by omega) h13] at hm; simp at hm ⊢; omega
            exact level_prim (fun rest => by rw [showT_un (by omega) h13, List.append_assoc]; exact word_ne (by omega) (by omega) (by omega) h8 _) (prim_un (by omega) h13 hn0 hnm hl (ih l 0 hm' hl hnl (by decide) (by decide)))
        · have hm' : 3 * (showT (.node kind n l r) 0).length + (2 - (0 : Int)).toNat < m := by rw [showT_paren h14 h16] at hm; simp at hm ⊢; omega
          exact level_prim (fun rest => by rw [showT_paren h14 h16]; exact tok_ne (by decide) []) (prim_paren h14 h16 hs (ih _ 0 hm' hs ⟨hn0, hnm, hnl, hnr⟩ (by decide) (by decide)))
    · have hk01 : k = 0 ∨ k = 1 := by omega
      have key1 : ∀ s suf j, Lf k t s suf j → (∀ kind n l r, s = .node kind n l r → ¬ OpAt k kind) → LevelC s (k + 1) := by
        intro s suf j hlf hno
        obtain ⟨h1, h3⟩ := hlf.sh hs hn
        refine ih s (k + 1) ?_ h1 h3 (by omega) (by omega)
        have ht := congrArg List.length hlf.text
        rw [List.length_append] at ht
        cases s with
        | nil => exact absurd rfl h1.ne_nil
        | node kind n l r =>
          rw [← showT_down hk01 (hno kind n l r rfl)]
          omega
      have key2 : ∀ kind n l r suf j, Lf k t (.node kind n l r) suf j → OpAt k kind → LevelC r (k + 1) := by
        intro kind n l r suf j hlf ho
        obtain ⟨h1, h3⟩ := hlf.sh hs hn
        obtain ⟨_, hr⟩ := hlf.zero hs hn ho
        refine ih r (k + 1) ?_ hr h3.2.2.2 (by omega) (by omega)
        have ht := congrArg List.length hlf.text
        rw [showT_op ho] at ht
        have hop := opT_length kind
        simp only [List.length_append] at ht
        omega
      rcases hk01 with rfl | rfl
      · exact level_loop0 hs hn key1 key2
      · exact level_loop1 hs hn key1 key2
theorem level_any {t : RT} (hs : Sh t) (hn : NOk t) : LevelC t 0 := level_all _ t 0 (Nat.lt_succ_self _) hs hn (by decide) (by decide)

end Go.Proofs.YtijaoedlhmdpnaaDoor
/- revset.Parse walked, at the text of a right tree. -/
namespace Go.Proofs.YtijaoedlhmdpnaaDoor
open Go.RowKit Go.Proofs.YtijaoedlhmdpnaaDoor.PTopQueriesKept Go.Proofs.YtijaoedlhmdpnaaDoorW.PrintWords

/-- A query comes back, and no error. -/
def RetQ (w : World) (xs : List S53) (e : Ending) (w' : World) : Prop := ∃ v, e = .returned (.tuple #[.agg #[v], .agg #[.int .i64 0, .int .i64 0]]) ∧ Kd.R k53 53 w' w.heap.size (fun _ => True) v xs ∧ Bel w w'

/-- Two results, each a struct in a block. -/
theorem results_two_cells {P : Program} {fn : Func} {u p : Tmp} {ty1 ty : TypeId} (h : fn.results = #[.cell u ty1, .cell p ty]) (tmps : Array Value) (w : World) (g1 g : Nat) (t1 t : TypeId) (cs1 cs : Array Value) (fr1 fr : Nat × Nat) (d1 d : TypeDesc)
    (hp1 : tmps.getD u undef = .pointer (some ⟨g1, 0, none⟩)) (hg1 : w.heap[g1]? = some (.cells cs1 t1 fr1))
    (hu1 : P.underlying ty1 = some d1) (hd1 : (match d1 with | .struct _ | .array _ _ => true | _ => false) = true) (hi1 : (P.info? ty1).map (·.size) = some cs1.size)
    (hp : tmps.getD p undef = .pointer (some ⟨g, 0, none⟩)) (hg : w.heap[g]? = some (.cells cs t fr))
    (hu : P.underlying ty = some d) (hd : (match d with | .struct _ | .array _ _ => true | _ => false) = true) (hi : (P.info? ty).map (·.size) = some cs.size) :
    (results fn tmps).run P w = .ok (.tuple #[.agg cs1, .agg cs]) w := by
  have hp' : tmps[p]?.getD undef = .pointer (some ⟨g, 0, none⟩) := by simpa using hp
  have hp1' : tmps[u]?.getD undef = .pointer (some ⟨g1, 0, none⟩) := by simpa using hp1
  simp [results, h, hp', hp1', asAddr, run_loadVar_row w g t ty cs fr d hg hu hd hi, run_loadVar_row w g1 t1 ty1 cs1 fr1 d1 hg1 hu1 hd1 hi1]

set_option maxRecDepth 100000 in
set_option maxHeartbeats 4000000 in
theorem parse_any {t : RT} (hs : Sh t) (hn : NOk t) (hz : t.size ≤ 40) (hl : (showT t 0).length ≤ 300) (w : World) (he : Env w) :
    Calls Tryd.prog 41 #[.string ⟨(showT t 0).toArray⟩] w (RetQ w (t.post 0)) := by
  have hw2 : 2 ≤ w.heap.size := by
    obtain ⟨_, ⟨t1, fr1, h1⟩⟩ := he
    have := (Array.getElem?_eq_some_iff.1 h1).1
    omega
  have HLV := Lib.hid (level_any hs hn)
  obtain ⟨s, hss⟩ : ∃ s, showT t 0 = s := ⟨_, rfl⟩
  rw [hss] at hl ⊢
  have HSK : Hid (skip s = showT t 0 ++ []) := Lib.hid (by rw [← hss]; have := skip_showT hs 0 []; simpa using this)
  have HE := Lib.hid he
  have HZ := Lib.hid hz
  clear hss he hs hn hz
  go_enter Tryd.func41, Tryd.ntmps41
  go_wp2_with fail
  have HB2 := Lib.hid ((Bel.alloc w (Obj.cells #[Value.slice none 0 0] 25)).thenAlloc (Obj.cells #[Value.int IntKind.i64 0, Value.int IntKind.i64 0] 46))
  have hr2 : ((w.alloc (Obj.cells #[Value.slice none 0 0] 25)).alloc (Obj.cells #[Value.int IntKind.i64 0, Value.int IntKind.i64 0] 46)).heap[w.heap.size]? = some (Obj.cells #[Value.slice none 0 0] 25) := heap_alloc_old (heap_alloc_new _ _) _
  have hr3 : ((w.alloc (Obj.cells #[Value.slice none 0 0] 25)).alloc (Obj.cells #[Value.int IntKind.i64 0, Value.int IntKind.i64 0] 46)).heap[w.heap.size + 1]? = some (Obj.cells #[Value.int IntKind.i64 0, Value.int IntKind.i64 0] 46) := heap_alloc_at _ (by simp)
  have hsz2 : ((w.alloc (Obj.cells #[Value.slice none 0 0] 25)).alloc (Obj.cells #[Value.int IntKind.i64 0, Value.int IntKind.i64 0] 46)).heap.size = w.heap.size + 1 + 1 := by simp
  generalize ((w.alloc (Obj.cells #[Value.slice none 0 0] 25)).alloc (Obj.cells #[Value.int IntKind.i64 0, Value.int IntKind.i64 0] 46)) = W2 at *
  have HR2 := Lib.hid hr2
  have HR3 := Lib.hid hr3
  have HP0 : Hid (PSt (W2.alloc (Obj.cells #[Value.string { data := s.toArray }, Value.int IntKind.i64 0, Value.slice none 0 0, Value.int IntKind.i64 0, Value.int IntKind.i64 0] 73)) w.heap.size (w.heap.size + 1 + 1) s s [] (.slice none 0 0)) :=
    Lib.hid ⟨by omega, List.suffix_refl _, hl, by rw [heap_alloc_at _ hsz2.symm]; simp, Kd.R_nil _ _ _ _ _⟩
  have HE2 := Lib.hid ((HE.out.bel HB2.out).bel (Bel.alloc W2 (Obj.cells #[Value.string { data := s.toArray }, Value.int IntKind.i64 0, Value.slice none 0 0, Value.int IntKind.i64 0, Value.int IntKind.i64 0] 73)))
  have HSZ2 := Lib.hid hsz2
  clear hr2 hr3 hsz2
  go_must (refine (HLV.out _ w.heap.size (w.heap.size + 1 + 1) s s [] (.slice none 0 0) [] HE2.out (by omega) HP0.out HSK.out (.inl rfl) (by have := HZ.out; simp; omega)).mono ?_); rintro e w4 ⟨rfl, v4, p4, c4⟩
  have P4 := Lib.hid p4
  have C4 := Lib.hid c4
  clear p4 c4
  go_wp2_with fail
  go_must (refine (expect_yes [] [] P4.out rfl rfl).mono ?_); rintro e w5 ⟨rfl, v5, p5, c5⟩
  have HB5 : Hid (Bel W2 w5) := Lib.hid ((C4.out.trans c5).1.to_bel (Bel.alloc _ _) (by
    rintro k (rfl | hk)
    · exact Nat.le_of_eq HSZ2.out
    · cases hk))
  have P5 : Hid (PSt w5 w.heap.size (w.heap.size + 1 + 1) s [] (t.post 0) v5) := Lib.hid (by simpa using p5)
  clear p5 c5
  obtain ⟨A, cap, rfl⟩ := Kd.R_slice P5.out.row
  obtain ⟨⟨c0, c1, c2, c3, c4⟩, c5⟩ := blk5 P5.out.blk
  obtain ⟨d0, d1⟩ := blk1 (HB5.out.heap HR2.out)
  obtain ⟨⟨e0, e1⟩, e2⟩ := blk2 (HB5.out.heap HR3.out)
  have hgl : w.heap.size + 1 + 1 < w5.heap.size := World.block_lt_of_cell? _ _ c0
  have hpl : (t.post 0).length ≤ 40 := by rw [RT.post_length]; exact HZ.out
  go_wp2_with fail
  have hne : ∀ b, b < w.heap.size + 1 + 1 → W2.heap[b]? ≠ none → (∀ cells fr, W2.heap[b]? ≠ some (.cells cells 53 fr)) → ¬ QS (w.heap.size + 1 + 1) (.slice A (t.post 0).length cap) b := fun b hb hs hc hq => by
    rcases hq with rfl | hk
    · omega
    · obtain ⟨cs', h'⟩ := P5.out.own_type hk
      have hbl : b < W2.heap.size := by rw [HSZ2.out]; exact hb
      have := Below.block HB5.out b hbl
      rw [this] at h'
      exact hc _ _ h'
  have hne2 : ¬ QS (w.heap.size + 1 + 1) (.slice A (t.post 0).length cap) w.heap.size := hne _ (by omega) (by rw [HR2.out]; simp) (fun cells fr e => by rw [HR2.out] at e; injection e with e; injection e with _ e; cases e)
  have hne3 : ¬ QS (w.heap.size + 1 + 1) (.slice A (t.post 0).length cap) (w.heap.size + 1) := hne _ (by omega) (by rw [HR3.out]; simp) (fun cells fr e => by rw [HR3.out] at e; injection e with e; injection e with _ e; cases e)
  have PF := ((P5.out.set hne2 0 (.slice A (t.post 0).length cap)).set hne3 0 (.int .i64 0)).set hne3 1 (.int .i64 0)
  refine bodyPost_ret (results_two_cells rfl _ _ w.heap.size (w.heap.size + 1) 25 46 #[.slice A (t.post 0).length cap] #[.int .i64 0, .int .i64 0] (0, 0) (0, 0) _ _ rfl ?_ Tryd.underlying25 rfl (by kernel_rfl) rfl ?_ Tryd.underlying46 rfl (by kernel_rfl)) rfl ?_
  · exact (heap_setCell_far _ _ _ (by simp)).trans ((heap_setCell_far _ _ _ (by simp)).trans (heap_setCell_at (HB5.out.heap HR2.out) 0 _))
  · exact blk46 ((heap_setCell_far _ _ _ (by simp)).trans (HB5.out.heap HR3.out)) 0 0
  · exact ⟨_, rfl, PF.row, (((HB2.out.trans HB5.out).setCell (Nat.le_refl _) _).setCell (by simp) _).setCell (by simp) _⟩

end Go.Proofs.YtijaoedlhmdpnaaDoor
/- Package revopt: same walked. -/
namespace Go.Proofs.YtijaoedlhmdpnaaDoor
open Go.RowKit Go.Proofs.YtijaoedlhmdpnaaDoor.PTopQueriesKept Go.Proofs.YtijaoedlhmdpnaaDoorW.PrintWords

/-- Two trees are alike. -/
def RT.same : RT → RT → Bool
  | .nil, .nil => true
  | .nil, .node _ _ _ _ => false
  | .node _ _ _ _, .nil => false
  | .node k n l r, .node k' n' l' r' => k == k' && (n == n' && (same l l' && same r r'))
theorem RT.same_iff : ∀ a b : RT, a.same b = true ↔ a = b
  | .nil, .nil => by simp [RT.same]
  | .nil, .node _ _ _ _ => by simp [RT.same]
  | .node _ _ _ _, .nil => by simp [RT.same]
  | .node k n l r, .node k' n' l' r' => by
    simp only [RT.same, Bool.and_eq_true, beq_iff_eq, same_iff l l', same_iff r r', RT.node.injEq]

/-- A test's answer; some orders have been drawn. -/
def RetBool (w : World) (b : Bool) (e : Ending) (w' : World) : Prop := e = .returned (.bool b) ∧ ∃ n, w' = w.drewN n

theorem Tr.drewN {ty : TypeId} {w : World} {base : Nat} {t : RT} {v : Value} (h : Tr ty w base t v) (n : Nat) : Tr ty (w.drewN n) base t v := h.bel (Bel.drewN w n)

theorem eql75 (b : Nat) (w : World) : Sem.run Tryd.prog (binOp .eql 75 (.pointer none) (.pointer (some ⟨b, 0, none⟩))) w = .ok (.bool false) w := by kernel_rfl

set_option maxRecDepth 100000 in
set_option maxHeartbeats 4000000 in
theorem same_any (a : RT) : ∀ (b : RT) (u v : Value) (w : World), Tr 91 w 0 a u → Tr 91 w 0 b v → Calls Tryd.prog 73 #[u, v] w (RetBool w (a.same b)) := by
  induction a with
  | nil =>
    intro b u v w ha hb
    obtain rfl : u = .pointer none := ha
    cases b with
    | nil =>
      obtain rfl : v = .pointer none := hb
      go_enter Tryd.func73, Tryd.ntmps73
      go_wp2_with fail
      go_ret
      exact ⟨rfl, 0, rfl⟩
    | node k n l r =>
      obtain ⟨b, vl, vr, rfl, _⟩ := hb
      have he := eql75 b
      go_enter Tryd.func73, Tryd.ntmps73
      go_wp2_with fail
      go_ret
      exact ⟨rfl, 0, rfl⟩
  | node k n l r ihl ihr =>
    intro b u v w ha hb
    obtain ⟨ba, vl, vr, rfl, _, hca, hla, hra⟩ := ha
    cases b with
    | nil =>
      obtain rfl : v = .pointer none := hb
      go_enter Tryd.func73, Tryd.ntmps73
      go_wp2_with fail
      go_ret
      exact ⟨rfl, 0, rfl⟩
    | node k' n' l' r' =>
      obtain ⟨bb, vl', vr', rfl, _, hcb, hlb, hrb⟩ := hb
      obtain ⟨pl, rfl⟩ := hla.pointer
      obtain ⟨pr, rfl⟩ := hra.pointer
      obtain ⟨pl', rfl⟩ := hlb.pointer
      obtain ⟨pr', rfl⟩ := hrb.pointer
      obtain ⟨⟨c0, c1, c2, c3⟩, _⟩ := blk4 hca
      obtain ⟨⟨d0, d1, d2, d3⟩, _⟩ := blk4 hcb
      have L1 := Lib.hid hla
      have L2 := Lib.hid hlb
      have R1 := Lib.hid hra
      have R2 := Lib.hid hrb
      clear hca hcb hla hlb hra hrb
      by_cases hk : (k == k') = true
      · by_cases hn : (n == n') = true
        · cases hsl : l.same l' with
          | true =>
            have hs : (RT.node k n l r).same (.node k' n' l' r') = r.same r' := by simp [RT.same, hk, hn, hsl]
            rw [hs]
            have I1 : ∀ w, Tr 91 w 0 l (.pointer pl) → Tr 91 w 0 l' (.pointer pl') → Calls Tryd.prog 73 #[.pointer pl, .pointer pl'] w (RetBool w true) := fun w h1 h2 => hsl ▸ ihl l' _ _ w h1 h2
            clear hs hsl
            go_enter Tryd.func73, Tryd.ntmps73
            go_wp2_with fail
            go_quiet ((first | (go_at_call_of 73 (Value.pointer pl); exact Calls.quiet_of (I1 _ (L1.out.drewN _) (L2.out.drewN _))) | (go_at_call_of 73 (Value.pointer pr); exact Calls.quiet_of (ihr _ _ _ _ (R1.out.drewN _) (R2.out.drewN _)))))
            go_wp2_with fail
            go_ret
            exact ⟨rfl, _, rfl⟩
          | false =>
            have hs : (RT.node k n l r).same (.node k' n' l' r') = false := by simp [RT.same, hsl]
            rw [hs]
            have I1 : ∀ w, Tr 91 w 0 l (.pointer pl) → Tr 91 w 0 l' (.pointer pl') → Calls Tryd.prog 73 #[.pointer pl, .pointer pl'] w (RetBool w false) := fun w h1 h2 => hsl ▸ ihl l' _ _ w h1 h2
            clear hs hsl
            go_enter Tryd.func73, Tryd.ntmps73
            go_wp2_with fail
            go_quiet ((go_at_call_of 73 (Value.pointer pl); exact Calls.quiet_of (I1 _ (L1.out.drewN _) (L2.out.drewN _))))
            go_wp2_with fail
            go_ret
            exact ⟨rfl, _, rfl⟩
        · have hn' : (n == n') = false := by simpa using hn
          have hs : (RT.node k n l r).same (.node k' n' l' r') = false := by simp [RT.same, hn']
          rw [hs]
          clear hn hs
          go_enter Tryd.func73, Tryd.ntmps73
          go_wp2_with fail
          go_quiet (fail)
          go_wp2_with fail
          go_ret
          exact ⟨rfl, _, rfl⟩
      · have hk' : (k == k') = false := by simpa using hk
        have hs : (RT.node k n l r).same (.node k' n' l' r') = false := by simp [RT.same, hk']
        rw [hs]
        clear hk hs
        go_enter Tryd.func73, Tryd.ntmps73
        go_wp2_with fail
        go_quiet (fail)
        go_wp2_with fail
        go_ret
        exact ⟨rfl, _, rfl⟩

end Go.Proofs.YtijaoedlhmdpnaaDoor
