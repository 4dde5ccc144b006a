/- The law FnExactValueRead, but for its marks: what its functions come to. -/
import Derived.Test.YtdgmlakgnbmbbaaOFnExactValueReadx1
import Derived.Test.YtdgmlakgnbmbbaaOFnExactValueReadx2
import Derived.Test.YtdgmlakgnbmbbaaOFnExactValueReadx3
import Derived.Test.YtdgmlakgnbmbbaaOFnExactValueReadx4
import Derived.Lib.ItoaNum
import Derived.Lib.Join
import Derived.Test.YtdgmlakgnbmbbaaBase
namespace Go.Proofs.Ytdgmlakgnbmbbaa.Pure
open Go.RowKit Go.Proofs.Ytdgmlakgnbmbbaa.OFnExactValueRead Go.Proofs.YtdgmlakgnbmbbaaW.PrintWords Go.Proofs.YtdgmlakgnbmbbaaW.PrintLast Go.Proofs.YtdgmlakgnbmbbaaW.PrintMore Go.Proofs.Ytdgmlakgnbmbbaa.Base
set_option linter.unusedVariables false
set_option linter.unusedSimpArgs false

theorem take_step {α β : Type} {c : α → β} {xs : List α} {out : List β} {i : Nat} (hi : i < xs.length) (hl : out.length = xs.length) (h : out.take i = (xs.take i).map c) : (out.set i (c xs[i])).take (i + 1) = (xs.take (i + 1)).map c := by
  rw [take_set_succ (by omega), h, List.take_succ_eq_append_getElem hi, List.map_append]
  rfl


def gRecord (x : S124) : Prop := gInt x.f0 ∧ (gL gStr) x.f1

def wRecord (x : S124) : Nat := wl ByteArray.size x.f1

def cRecord (x : S124) : S113 := ⟨x.f0, x.f1⟩

theorem ev_laws_szStringS_l0 (xs : List ByteArray) (hx : gL gStr xs) : ∀ i, i ≤ xs.length → ∀ a : Int, 0 ≤ a → a ≤ 1048576 → EvP (fun k => laws_szStringS.l0 k xs a i) (fun r => 0 ≤ r → r = a - ((((xs.drop i).map ByteArray.size).sum : Nat) : Int)) := by
  refine upInd ?_ ?_
  · intro a h0 h1
    refine EvP.succ ?_
    simp only [laws_szStringS.l0]
    exact EvP.neg (by omega) (EvP.ret _ (fun _ => by simp))
  · intro i hi ih a h0 h1
    refine EvP.succ ?_
    simp only [laws_szStringS.l0]
    have e : rdOf ByteArray.empty xs (i : Int) = xs[i] := getDn hi
    have hb := hx.2 _ (List.getElem_mem hi)
    unfold gStr at hb
    rw [e, w64s hi hx.1, w64 (n := a - (xs[i].size : Int)) (by omega) (by omega)]
    refine EvP.pos (by omega) (EvP.pos (by omega) (EvP.ite (fun hc => EvP.ret _ (fun h => absurd h (by omega))) (fun hc => ?_)))
    refine (ih _ (by omega) (by omega)).mono (fun r hr h => ?_)
    rw [hr h, List.drop_eq_getElem_cons hi]
    simp only [List.map_cons, List.sum_cons]
    omega
theorem ev_laws_szStringS (xs : List ByteArray) (hx : gL gStr xs) (a : Int) (h0 : 0 ≤ a) (h1 : a ≤ 1048576) : EvP (fun k => laws_szStringS.f k xs a) (fun r => 0 ≤ r → r = a - ((wl ByteArray.size xs : Nat) : Int)) := by
  have h2 := hx.1
  unfold laws_szStringS.f
  rw [w64 (by omega) (by omega)]
  refine EvP.ite (fun hc => EvP.ret _ (fun h => absurd h (by omega))) (fun hc => ?_)
  refine (ev_laws_szStringS_l0 xs hx 0 (by omega) _ (by omega) (by omega)).mono (fun r hr h => ?_)
  rw [hr h]
  simp only [List.drop_zero]
  unfold wl
  omega

theorem ev_laws_szRecord (a0 : Int) (l1 : List ByteArray) (hl1 : (gL gStr) l1) (a : Int) (h0 : 0 ≤ a) (h1 : a ≤ 1048576) : EvP (fun k => laws_szRecord.f k a0 l1 a) (fun r => 0 ≤ r → r = a - ((wl ByteArray.size l1 : Nat) : Int)) := by
  unfold laws_szRecord.f
  refine EvP.bind (ev_laws_szStringS l1 hl1 a (by omega) (by omega)) (fun tl1 htl1 => EvP.ite (fun hc => EvP.ret _ (fun h => absurd h (by omega))) (fun hc => ?_))
  have htl1 := htl1 (by omega)
  exact EvP.ret _ (fun _ => by omega)

theorem ev_laws_toStringS_l0 (xs : List ByteArray) (hx : wl ByteArray.size xs ≤ 1048576) : ∀ i, i ≤ xs.length → ∀ out : List ByteArray, out.length = xs.length → out.take i = (xs.take i).map id → EvP (fun k => laws_toStringS.l0 k xs out i) (· = xs.map id) := by
  have hn := Nat.le_trans len_wl hx
  refine upInd ?_ ?_
  · intro out hl ht
    refine EvP.succ ?_
    simp only [laws_toStringS.l0]
    refine EvP.neg (by omega) (EvP.ret _ ?_)
    rw [List.take_of_length_le (by omega), List.take_of_length_le (by omega)] at ht
    exact ht
  · intro i hi ih out hl ht
    refine EvP.succ ?_
    simp only [laws_toStringS.l0]
    have e : rdOf ByteArray.empty xs (i : Int) = xs[i] := getDn hi
    rw [e, w64s hi (by omega), Int.toNat_natCast]
    exact EvP.pos (by omega) (EvP.pos (by omega) (EvP.pos (by omega) (ih _ (by simpa using hl) (take_step (c := id) hi hl ht))))
theorem ev_laws_toStringS (xs : List ByteArray) (hx : wl ByteArray.size xs ≤ 1048576) : EvP (fun k => laws_toStringS.f k xs) (· = xs) := by
  have hn := Nat.le_trans len_wl hx
  unfold laws_toStringS.f
  refine EvP.pos (by omega) (EvP.pos (by rw [Int.toNat_natCast]; omega) ?_)
  refine (ev_laws_toStringS_l0 xs hx 0 (by omega) _ (by simp) rfl).mono (fun r hr => ?_)
  rw [hr]
  first | rfl | simp

theorem ev_laws_toRecord (a0 : Int) (l1 : List ByteArray) (hl1 : wl ByteArray.size l1 ≤ 1048576) : EvP (fun k => laws_toRecord.f k a0 l1) (· = (a0, l1)) := by
  unfold laws_toRecord.f
  refine EvP.bind (ev_laws_toStringS l1 hl1) (fun tl1 htl1 => ?_)
  subst htl1
  exact EvP.ret _ rfl

def qStringS (xs : List ByteArray) : Prop := xs.length ≤ 9223372036854775807

def qRecord (x : S113) : Prop := qStringS x.f1

theorem ev_laws_eqStringS_l0 (xs : List ByteArray) (hx : qStringS xs) : ∀ i, i ≤ xs.length → EvP (fun k => laws_eqStringS.l0 k xs xs i) (· = true) := by
  refine upInd ?_ ?_
  · refine EvP.succ ?_
    simp only [laws_eqStringS.l0]
    exact EvP.neg (by omega) (EvP.ret _ rfl)
  · intro i hi ih
    refine EvP.succ ?_
    simp only [laws_eqStringS.l0]
    rw [w64s hi hx]
    exact EvP.pos (by omega) (EvP.pos (by omega) (EvP.pos (by omega) (EvP.pos (by trivial) ih)))
theorem ev_laws_eqStringS (xs : List ByteArray) (hx : qStringS xs) : EvP (fun k => laws_eqStringS.f k xs xs) (· = true) := by
  unfold laws_eqStringS.f
  exact EvP.pos (by trivial) (ev_laws_eqStringS_l0 xs hx 0 (by omega))

theorem ev_laws_eqRecord (a0 : Int) (l1 : List ByteArray) (hl1 : qStringS l1) : EvP (fun k => laws_eqRecord.f k a0 l1 a0 l1) (· = true) := by
  unfold laws_eqRecord.f
  refine EvP.pos (by trivial) ?_
  refine EvP.bind (ev_laws_eqStringS l1 hl1) (fun tl1 htl1 => ?_)
  subst htl1
  refine EvP.pos (by trivial) ?_
  exact EvP.ret _ rfl

def qIntS (xs : List Int) : Prop := xs.length ≤ 9223372036854775807

theorem ev_laws_eqIntS_l0 (xs : List Int) (hx : qIntS xs) : ∀ i, i ≤ xs.length → EvP (fun k => laws_eqIntS.l0 k xs xs i) (· = true) := by
  refine upInd ?_ ?_
  · refine EvP.succ ?_
    simp only [laws_eqIntS.l0]
    exact EvP.neg (by omega) (EvP.ret _ rfl)
  · intro i hi ih
    refine EvP.succ ?_
    simp only [laws_eqIntS.l0]
    rw [w64s hi hx]
    exact EvP.pos (by omega) (EvP.pos (by omega) (EvP.pos (by omega) (EvP.pos (by trivial) ih)))
theorem ev_laws_eqIntS (xs : List Int) (hx : qIntS xs) : EvP (fun k => laws_eqIntS.f k xs xs) (· = true) := by
  unfold laws_eqIntS.f
  exact EvP.pos (by trivial) (ev_laws_eqIntS_l0 xs hx 0 (by omega))

theorem ev_laws_szRecordS_l0 (xs : List (S124)) (hx : gL gRecord xs) : ∀ i, i ≤ xs.length → ∀ a : Int, 0 ≤ a → a ≤ 1048576 → EvP (fun k => laws_szRecordS.l0 k xs a i) (fun r => 0 ≤ r → r = a - ((((xs.drop i).map wRecord).sum : Nat) : Int)) := by
  refine upInd ?_ ?_
  · intro a h0 h1
    refine EvP.succ ?_
    simp only [laws_szRecordS.l0]
    exact EvP.neg (by omega) (EvP.ret _ (fun _ => by simp))
  · intro i hi ih a h0 h1
    refine EvP.succ ?_
    simp only [laws_szRecordS.l0]
    have e : rd_T124 xs (i : Int) = xs[i] := getDn hi
    have hb := hx.2 _ (List.getElem_mem hi)
    rw [e, w64s hi hx.1]
    refine EvP.pos (by omega) (EvP.pos (by omega) (EvP.bind (ev_laws_szRecord xs[i].f0 xs[i].f1 hb.2 a h0 h1) (fun t ht => EvP.ite (fun hc => EvP.ret _ (fun h => absurd h (by omega))) (fun hc => ?_))))
    have ht := ht (by omega)
    refine (ih _ (by omega) (by omega)).mono (fun r hr h => ?_)
    have hw : wRecord xs[i] = wl ByteArray.size xs[i].f1 := rfl
    rw [hr h, List.drop_eq_getElem_cons hi]
    simp only [List.map_cons, List.sum_cons]
    omega
theorem ev_laws_szRecordS (xs : List (S124)) (hx : gL gRecord xs) (a : Int) (h0 : 0 ≤ a) (h1 : a ≤ 1048576) : EvP (fun k => laws_szRecordS.f k xs a) (fun r => 0 ≤ r → r = a - ((wl wRecord xs : Nat) : Int)) := by
  have h2 := hx.1
  unfold laws_szRecordS.f
  rw [w64 (by omega) (by omega)]
  refine EvP.ite (fun hc => EvP.ret _ (fun h => absurd h (by omega))) (fun hc => ?_)
  refine (ev_laws_szRecordS_l0 xs hx 0 (by omega) _ (by omega) (by omega)).mono (fun r hr h => ?_)
  rw [hr h]
  simp only [List.drop_zero]
  unfold wl
  omega

theorem ev_laws_toRecordS_l0 (xs : List (S124)) (hx : wl wRecord xs ≤ 1048576) : ∀ i, i ≤ xs.length → ∀ out : List (S113), out.length = xs.length → out.take i = (xs.take i).map cRecord → EvP (fun k => laws_toRecordS.l0 k xs out i) (· = xs.map cRecord) := by
  have hn := Nat.le_trans len_wl hx
  refine upInd ?_ ?_
  · intro out hl ht
    refine EvP.succ ?_
    simp only [laws_toRecordS.l0]
    refine EvP.neg (by omega) (EvP.ret _ ?_)
    rw [List.take_of_length_le (by omega), List.take_of_length_le (by omega)] at ht
    exact ht
  · intro i hi ih out hl ht
    refine EvP.succ ?_
    simp only [laws_toRecordS.l0]
    have e : rd_T124 xs (i : Int) = xs[i] := getDn hi
    rw [e, w64s hi (by omega), Int.toNat_natCast]
    have hm := mem_wl (f := wRecord) (List.getElem_mem hi)
    have hw : wRecord xs[i] = wl ByteArray.size xs[i].f1 := rfl
    refine EvP.pos (by omega) (EvP.pos (by omega) (EvP.bind (ev_laws_toRecord xs[i].f0 xs[i].f1 (by omega)) (fun t ht2 => ?_)))
    subst ht2
    exact EvP.pos (by omega) (ih _ (by simpa using hl) (take_step (c := cRecord) hi hl ht))
theorem ev_laws_toRecordS (xs : List (S124)) (hx : wl wRecord xs ≤ 1048576) : EvP (fun k => laws_toRecordS.f k xs) (· = (xs.map cRecord)) := by
  have hn := Nat.le_trans len_wl hx
  unfold laws_toRecordS.f
  refine EvP.pos (by omega) (EvP.pos (by rw [Int.toNat_natCast]; omega) ?_)
  refine (ev_laws_toRecordS_l0 xs hx 0 (by omega) _ (by simp) rfl).mono (fun r hr => ?_)
  rw [hr]

def qRecordS (xs : List (S113)) : Prop := xs.length ≤ 9223372036854775807 ∧ ∀ x ∈ xs, qRecord x

theorem ev_laws_eqRecordS_l0 (xs : List (S113)) (hx : qRecordS xs) : ∀ i, i ≤ xs.length → EvP (fun k => laws_eqRecordS.l0 k xs xs i) (· = true) := by
  refine upInd ?_ ?_
  · refine EvP.succ ?_
    simp only [laws_eqRecordS.l0]
    exact EvP.neg (by omega) (EvP.ret _ rfl)
  · intro i hi ih
    refine EvP.succ ?_
    simp only [laws_eqRecordS.l0]
    rw [w64s hi hx.1]
    have e : rd_T113 xs (i : Int) = xs[i] := getDn hi
    have hb := hx.2 _ (List.getElem_mem hi)
    rw [e]
    refine EvP.pos (by omega) (EvP.pos (by omega) (EvP.pos (by omega) (EvP.bind (ev_laws_eqRecord xs[i].f0 xs[i].f1 hb) (fun t ht => ?_))))
    subst ht
    exact EvP.pos (by trivial) ih
theorem ev_laws_eqRecordS (xs : List (S113)) (hx : qRecordS xs) : EvP (fun k => laws_eqRecordS.f k xs xs) (· = true) := by
  unfold laws_eqRecordS.f
  exact EvP.pos (by trivial) (ev_laws_eqRecordS_l0 xs hx 0 (by omega))

theorem ev_laws_szRecordSS_l0 (xs : List (List S124)) (hx : gL (gL gRecord) xs) : ∀ i, i ≤ xs.length → ∀ a : Int, 0 ≤ a → a ≤ 1048576 → EvP (fun k => laws_szRecordSS.l0 k xs a i) (fun r => 0 ≤ r → r = a - ((((xs.drop i).map (wl wRecord)).sum : Nat) : Int)) := by
  refine upInd ?_ ?_
  · intro a h0 h1
    refine EvP.succ ?_
    simp only [laws_szRecordSS.l0]
    exact EvP.neg (by omega) (EvP.ret _ (fun _ => by simp))
  · intro i hi ih a h0 h1
    refine EvP.succ ?_
    simp only [laws_szRecordSS.l0]
    have e : rd_L4 xs (i : Int) = xs[i] := getDn hi
    rw [e, w64s hi hx.1]
    refine EvP.pos (by omega) (EvP.pos (by omega) (EvP.bind (ev_laws_szRecordS xs[i] (hx.2 _ (List.getElem_mem hi)) a h0 h1) (fun t ht => EvP.ite (fun hc => EvP.ret _ (fun h => absurd h (by omega))) (fun hc => ?_))))
    have ht := ht (by omega)
    refine (ih _ (by omega) (by omega)).mono (fun r hr h => ?_)
    rw [hr h, List.drop_eq_getElem_cons hi]
    simp only [List.map_cons, List.sum_cons]
    omega
theorem ev_laws_szRecordSS (xs : List (List S124)) (hx : gL (gL gRecord) xs) (a : Int) (h0 : 0 ≤ a) (h1 : a ≤ 1048576) : EvP (fun k => laws_szRecordSS.f k xs a) (fun r => 0 ≤ r → r = a - ((wl (wl wRecord) xs : Nat) : Int)) := by
  have h2 := hx.1
  unfold laws_szRecordSS.f
  rw [w64 (by omega) (by omega)]
  refine EvP.ite (fun hc => EvP.ret _ (fun h => absurd h (by omega))) (fun hc => ?_)
  refine (ev_laws_szRecordSS_l0 xs hx 0 (by omega) _ (by omega) (by omega)).mono (fun r hr h => ?_)
  rw [hr h]
  simp only [List.drop_zero]
  unfold wl
  omega

theorem ev_laws_toRecordSS_l0 (xs : List (List S124)) (hx : wl (wl wRecord) xs ≤ 1048576) : ∀ i, i ≤ xs.length → ∀ out : List (List S113), out.length = xs.length → out.take i = (xs.take i).map (List.map cRecord) → EvP (fun k => laws_toRecordSS.l0 k xs out i) (· = xs.map (List.map cRecord)) := by
  have hn := Nat.le_trans len_wl hx
  refine upInd ?_ ?_
  · intro out hl ht
    refine EvP.succ ?_
    simp only [laws_toRecordSS.l0]
    refine EvP.neg (by omega) (EvP.ret _ ?_)
    rw [List.take_of_length_le (by omega), List.take_of_length_le (by omega)] at ht
    exact ht
  · intro i hi ih out hl ht
    refine EvP.succ ?_
    simp only [laws_toRecordSS.l0]
    have e : rd_L4 xs (i : Int) = xs[i] := getDn hi
    rw [e, w64s hi (by omega), Int.toNat_natCast]
    have hm := mem_wl (f := wl wRecord) (List.getElem_mem hi)
    refine EvP.pos (by omega) (EvP.pos (by omega) (EvP.bind (ev_laws_toRecordS xs[i] (by omega)) (fun t ht2 => ?_)))
    subst ht2
    exact EvP.pos (by omega) (ih _ (by simpa using hl) (take_step (c := List.map cRecord) hi hl ht))
theorem ev_laws_toRecordSS (xs : List (List S124)) (hx : wl (wl wRecord) xs ≤ 1048576) : EvP (fun k => laws_toRecordSS.f k xs) (· = xs.map (List.map cRecord)) := by
  have hn := Nat.le_trans len_wl hx
  unfold laws_toRecordSS.f
  refine EvP.pos (by omega) (EvP.pos (by rw [Int.toNat_natCast]; omega) ?_)
  refine (ev_laws_toRecordSS_l0 xs hx 0 (by omega) _ (by simp) rfl).mono (fun r hr => ?_)
  rw [hr]

def qRecordSS (xs : List (List S113)) : Prop := xs.length ≤ 9223372036854775807 ∧ ∀ x ∈ xs, qRecordS x

theorem ev_laws_eqRecordSS_l0 (xs : List (List S113)) (hx : qRecordSS xs) : ∀ i, i ≤ xs.length → EvP (fun k => laws_eqRecordSS.l0 k xs xs i) (· = true) := by
  refine upInd ?_ ?_
  · refine EvP.succ ?_
    simp only [laws_eqRecordSS.l0]
    exact EvP.neg (by omega) (EvP.ret _ rfl)
  · intro i hi ih
    refine EvP.succ ?_
    simp only [laws_eqRecordSS.l0]
    have e : rd_L6 xs (i : Int) = xs[i] := getDn hi
    rw [e, w64s hi hx.1]
    refine EvP.pos (by omega) (EvP.pos (by omega) (EvP.pos (by omega) (EvP.bind (ev_laws_eqRecordS _ (hx.2 _ (List.getElem_mem hi))) (fun t ht => ?_))))
    subst ht
    exact EvP.pos (by trivial) ih
theorem ev_laws_eqRecordSS (xs : List (List S113)) (hx : qRecordSS xs) : EvP (fun k => laws_eqRecordSS.f k xs xs) (· = true) := by
  unfold laws_eqRecordSS.f
  exact EvP.pos (by trivial) (ev_laws_eqRecordSS_l0 xs hx 0 (by omega))

theorem qKinds_c {xs : List (List S124)} (h : wl (wl wRecord) xs ≤ 1048576) : qRecordSS (xs.map (List.map cRecord)) := by
  have hn := Nat.le_trans len_wl h
  refine ⟨by simp; omega, fun x hx => ?_⟩
  obtain ⟨y, hy, rfl⟩ := List.mem_map.1 hx
  have h2 := mem_wl (f := wl wRecord) hy
  have h3 := len_wl (f := wRecord) (xs := y)
  refine ⟨by simp; omega, fun z hz => ?_⟩
  obtain ⟨u, hu, rfl⟩ := List.mem_map.1 hz
  have h4 := mem_wl (f := wRecord) hu
  have h5 : wRecord u = wl ByteArray.size u.f1 := rfl
  have h6 := len_wl (f := ByteArray.size) (xs := u.f1)
  show u.f1.length ≤ _
  omega

abbrev Rec := S113

abbrev Kinds := List (List Rec)

/-- The module and the record that a text names. -/
def kAt (s : ByteArray) : Option (Nat × Nat) :=
  if s.size = 3 ∧ bt s 0 = 83 ∧ 48 ≤ bt s 1 ∧ bt s 1 ≤ 57 ∧ 48 ≤ bt s 2 ∧ bt s 2 ≤ 57 then some ((bt s 1 - 48).toNat, (bt s 2 - 48).toNat) else none

def kTup : Option (Nat × Nat) → Int × Int × Bool
  | none => (0, 0, false)
  | some p => ((p.1 : Int), (p.2 : Int), true)

theorem eq_impl_kindAt (s : ByteArray) : impl_kindAt.f s = some (kTup (kAt s)) := by
  unfold impl_kindAt.f kAt
  by_cases h0 : s.size = 3
  · rw [if_pos (by omega), if_pos (by omega)]
    by_cases h1 : bt s 0 = 83
    · rw [if_pos h1, if_pos (by omega)]
      by_cases h2 : bt s 1 < 48
      · rw [if_pos h2, if_neg (by omega)]
        rfl
      · rw [if_neg h2]
        by_cases h3 : bt s 1 > 57
        · rw [if_pos h3, if_neg (by omega)]
          rfl
        · rw [if_neg h3, if_pos (by omega)]
          by_cases h4 : bt s 2 < 48
          · rw [if_pos h4, if_neg (by omega)]
            rfl
          · rw [if_neg h4]
            by_cases h5 : bt s 2 > 57
            · rw [if_pos h5, if_neg (by omega)]
              rfl
            · rw [if_neg h5, if_pos (by omega)]
              have e1 : (bt s 1 - 48) % 256 = ((bt s 1 - 48).toNat : Int) := by omega
              have e2 : (bt s 2 - 48) % 256 = ((bt s 2 - 48).toNat : Int) := by omega
              rw [e1, e2]
              rfl
    · rw [if_neg h1, if_neg (by omega)]
      rfl
  · rw [if_neg (by omega), if_neg (by omega)]
    rfl

theorem eq_spec_l1Kind (s : ByteArray) : spec_l1Kind.f s = some (kTup (kAt s)) := eq_impl_kindAt s

/-- The record of a kind. -/
def kGet (K : Kinds) (s : ByteArray) : Option Rec := (kAt s).bind fun p => (K[p.1]?).bind fun l => l[p.2]?

theorem kGet_some {K : Kinds} {s : ByteArray} {x : Rec} (h : kGet K s = some x) : ∃ a b, kAt s = some (a, b) ∧ ∃ ha : a < K.length, ∃ hb : b < K[a].length, K[a][b] = x := by
  unfold kGet at h
  obtain ⟨⟨a, b⟩, h1, h2⟩ := Option.bind_eq_some_iff.1 h
  obtain ⟨l, h3, h4⟩ := Option.bind_eq_some_iff.1 h2
  obtain ⟨ha, rfl⟩ := List.getElem?_eq_some_iff.1 h3
  obtain ⟨hb, h5⟩ := List.getElem?_eq_some_iff.1 h4
  exact ⟨a, b, h1, ha, hb, h5⟩

theorem eq_impl_kindIn (K : Kinds) (s : ByteArray) : impl_kindIn.f K s = some (kGet K s).isSome := by
  unfold impl_kindIn.f kGet
  rw [eq_impl_kindAt]
  simp only [Option.bind_some]
  cases h : kAt s with
  | none => rfl
  | some p =>
    obtain ⟨a, b⟩ := p
    by_cases ha : a < K.length
    · have e : rd_L6 K (a : Int) = K[a] := getDn ha
      simp only [kTup, Option.bind_some, e, List.getElem?_eq_getElem ha]
      by_cases hb : b < K[a].length
      · simp [ha, hb]
      · simp [ha, hb]
    · simp [kTup, ha]

def isBase (s : ByteArray) : Bool := s.toList == [110] || (s.toList == [98] || s.toList == [111])

def plain (K : Kinds) (s : ByteArray) : Bool := isBase s || (kGet K s).isSome

theorem eq_impl_plainOk (K : Kinds) (s : ByteArray) : impl_plainOk.f K s = some (plain K s) := by
  unfold impl_plainOk.f plain isBase
  rw [eq_impl_kindIn]
  by_cases h1 : s.toList = [110]
  · simp [h1]
  · by_cases h2 : s.toList = [98]
    · simp [h2]
    · by_cases h3 : s.toList = [111]
      · simp [h3]
      · simp [h1, h2, h3]

theorem eq_spec_l1Base (s : ByteArray) : spec_l1Base.f s = some (isBase s) := by
  unfold spec_l1Base.f isBase
  by_cases h1 : s.toList = [110]
  · simp [h1]
  · by_cases h2 : s.toList = [98]
    · simp [h2]
    · have k1 : (s.toList == [110]) = false := beq_eq_false_iff_ne.2 h1
      have k2 : (s.toList == [98]) = false := beq_eq_false_iff_ne.2 h2
      rw [if_neg h1, if_neg h2, k1, k2]
      rfl

theorem eq_spec_l1Has (K : Kinds) (s : ByteArray) (a b : Nat) (h : kAt s = some (a, b)) : spec_l1Has.f K a b = some (kGet K s).isSome := by
  unfold spec_l1Has.f kGet
  rw [h]
  simp only [Option.bind_some]
  by_cases ha : a < K.length
  · rw [if_pos (by omega), if_pos (by omega)]
    have e : rd_L6 K (a : Int) = K[a] := getDn ha
    rw [e, List.getElem?_eq_getElem ha]
    simp only [Option.bind_some]
    by_cases hb : b < K[a].length
    · rw [List.getElem?_eq_getElem hb]
      simp [hb]
    · rw [List.getElem?_eq_none (by omega)]
      simp [hb]
  · rw [if_neg (by omega), List.getElem?_eq_none (by omega)]
    rfl

theorem list_size (s : ByteArray) : s.toList.length = s.size := by
  rw [ByteArray.toList_eq, Array.length_toList]
  rfl

theorem bt_one {s : ByteArray} {c : UInt8} (h : s.toList = [c]) : s.size = 1 ∧ bt s 0 = (c.toNat : Int) := by
  have h1 : s.size = 1 := by rw [← list_size, h]; rfl
  refine ⟨h1, ?_⟩
  rw [ByteArray.toList_eq] at h
  have h0 : (0 : Int).toNat < s.size := by rw [h1]; decide
  unfold bt
  rw [dif_pos h0]
  have h2 : s.data.toList[0]? = some c := by rw [h]; rfl
  rw [Array.getElem?_toList] at h2
  obtain ⟨h3, h4⟩ := Array.getElem?_eq_some_iff.1 h2
  have h5 : s[(0 : Int).toNat]'h0 = c := h4
  rw [h5]

theorem base_size {s : ByteArray} (h : isBase s = true) : s.size = 1 ∧ (bt s 0 = 110 ∨ bt s 0 = 98 ∨ bt s 0 = 111) := by
  unfold isBase at h
  simp only [Bool.or_eq_true, beq_iff_eq] at h
  rcases h with h | h | h
  · have := bt_one h
    exact ⟨this.1, .inl this.2⟩
  · have := bt_one h
    exact ⟨this.1, .inr (.inl this.2)⟩
  · have := bt_one h
    exact ⟨this.1, .inr (.inr this.2)⟩

theorem base_kAt {s : ByteArray} (h : isBase s = true) : kAt s = none := by
  have := base_size h
  unfold kAt
  rw [if_neg (by omega)]

theorem kAt_base {s : ByteArray} {p : Nat × Nat} (h : kAt s = some p) : isBase s = false := by
  cases hb : isBase s with
  | false => rfl
  | true => rw [base_kAt hb] at h; cases h

theorem kAt_size {s : ByteArray} {p : Nat × Nat} (h : kAt s = some p) : s.size = 3 ∧ bt s 0 = 83 := by
  unfold kAt at h
  split at h
  · rename_i hc
    exact ⟨hc.1, hc.2.1⟩
  · cases h

def isRef (s : ByteArray) : Bool := decide (0 < s.size) && (bt s 0 == 38 || bt s 0 == 33)

def strip (s : ByteArray) : ByteArray := if isRef s = true then s.extract 1 s.size else s

def sgn (s : ByteArray) : ByteArray := if isRef s = true then s.extract 0 1 else (⟨#[]⟩ : ByteArray)

theorem eq_impl_signOf (s : ByteArray) : impl_signOf.f s = some (sgn s, strip s) := by
  unfold impl_signOf.f sgn strip isRef
  have hs := list_size s
  by_cases h0 : s.toList = []
  · rw [if_pos h0]
    rw [h0] at hs
    have : ¬ 0 < s.size := by simp at hs; omega
    simp [this]
  · rw [if_neg h0]
    have h1 : 0 < s.size := by
      rcases Nat.eq_zero_or_pos s.size with h | h
      · rw [h] at hs
        exact absurd (List.eq_nil_of_length_eq_zero hs) h0
      · exact h
    rw [if_pos (by omega)]
    by_cases h2 : bt s 0 = 38
    · rw [if_pos h2, if_pos (by omega), if_pos (by omega)]
      simp [h1, h2]
    · rw [if_neg h2]
      by_cases h3 : bt s 0 = 33
      · rw [if_pos h3, if_pos (by omega), if_pos (by omega)]
        simp [h1, h3]
      · rw [if_neg h3]
        simp [h2, h3]

theorem eq_spec_l1RefR (s : ByteArray) : spec_l1Ref.f s = some (isRef s) := by
  unfold spec_l1Ref.f isRef
  by_cases h : 0 < s.size
  · rw [if_pos (by omega), if_pos (by omega)]
    by_cases h2 : bt s 0 = 38
    · rw [if_pos h2]
      simp [h, h2]
    · rw [if_neg h2]
      simp [h, h2]
  · rw [if_neg (by omega)]
    simp [h]

theorem first_byte {s : ByteArray} (h : 0 < s.size) (c : UInt8) : (s.extract 0 1).toList = [c] ↔ bt s 0 = (c.toNat : Int) := by
  have h0 : (0 : Int).toNat < s.size := h
  have e : (s.extract 0 1).toList = [s[(0 : Int).toNat]'h0] := by
    rw [ByteArray.toList_eq, ByteArray.data_extract]
    apply List.ext_getElem
    · have : s.data.size = s.size := rfl
      simp
      omega
    · intro i h1 h2
      have hi : i = 0 := by simpa using h2
      subst hi
      simp
      rfl
  rw [e]
  unfold bt
  rw [dif_pos h0]
  constructor
  · intro h
    injection h with h
    rw [h]
  · intro h
    have : s[(0 : Int).toNat]'h0 = c := by
      apply UInt8.toNat_inj.1
      exact_mod_cast h
    rw [this]

/-- The abilities of a type. -/
def able (K : Kinds) (s : ByteArray) : Int := if isRef s = true then (if bt s 0 = 38 then 3 else 2) else match kGet K s with | some x => x.f0 | none => 7

theorem eq_impl_recordOf (K : Kinds) (s : ByteArray) (x : Rec) (h : kGet K s = some x) : impl_recordOf.f K s = some (x.f0, x.f1) := by
  obtain ⟨a, b, h1, ha, hb, rfl⟩ := kGet_some h
  unfold impl_recordOf.f
  rw [eq_impl_kindAt, h1]
  simp only [Option.bind_some, kTup]
  have e : rd_L6 K (a : Int) = K[a] := getDn ha
  have e2 : rd_T113 K[a] (b : Int) = K[a][b] := getDn hb
  rw [e, e2, if_pos (by omega), if_pos (by omega), if_pos (by omega), if_pos (by omega)]

theorem eq_impl_ableOf (K : Kinds) (s : ByteArray) : impl_ableOf.f K s = some (able K s) := by
  unfold impl_ableOf.f able
  rw [eq_impl_signOf]
  simp only [Option.bind_some]
  by_cases hr : isRef s = true
  · have h0 : 0 < s.size ∧ (bt s 0 = 38 ∨ bt s 0 = 33) := by
      unfold isRef at hr
      simpa using hr
    have e1 := first_byte h0.1 38
    have e2 := first_byte h0.1 33
    have k1 : ((38 : UInt8).toNat : Int) = 38 := rfl
    have k2 : ((33 : UInt8).toNat : Int) = 33 := rfl
    rw [k1] at e1
    rw [k2] at e2
    unfold sgn
    rw [if_pos hr, if_pos hr]
    by_cases h1 : bt s 0 = 38
    · rw [if_pos (e1.2 h1), if_pos h1]
    · rw [if_neg (fun h => h1 (e1.1 h)), if_pos (e2.2 (by omega)), if_neg h1]
  · have hs : strip s = s := by unfold strip; rw [if_neg hr]
    have hg : (sgn s).toList = [] := by
      unfold sgn
      rw [if_neg hr, ByteArray.toList_eq]
    rw [if_neg hr, if_neg (by rw [hg]; simp), if_neg (by rw [hg]; simp), hs, eq_impl_kindIn]
    simp only [Option.bind_some]
    cases hk : kGet K s with
    | none => rfl
    | some x =>
      simp only [Option.isSome_some, if_true, eq_impl_recordOf K s x hk, Option.bind_some]

/-- May a text be the type of a field of the record (m, r)? -/
def fieldOk (K : Kinds) (m r : Nat) (t : ByteArray) : Bool := match kAt t with | some p => (kGet K t).isSome && decide (p.1 < m ∨ (p.1 = m ∧ p.2 < r)) | none => isBase t

theorem field_ref {K : Kinds} {m r : Nat} {t : ByteArray} (h : fieldOk K m r t = true) : isRef t = false := by
  unfold fieldOk at h
  cases hk : kAt t with
  | some p =>
    have := kAt_size hk
    unfold isRef
    simp [this.2]
  | none =>
    rw [hk] at h
    have := base_size h
    unfold isRef
    rcases this.2 with h | h | h <;> simp [h]

def abOk (A b : Int) : Bool := decide ((Go.bits .andNot .i64 (Go.bits .and .i64 A 7) b) = 0) && (decide ((Go.bits .and .i64 A 8) = 0) || !decide ((Go.bits .and .i64 b 4) = 0))

def can (a o : Int) : Bool := (Int.tmod (wrap64 (Int.tdiv a o)) 2) == 1

def abSpec (A b : Int) : Bool := (!((can A 1 && !can b 1) || (can A 2 && !can b 2))) && (!(decide (A ≥ 4)) || can b 4)

def valF (n : Nat) (c : UInt8) : Nat := 10 * n + (c.toNat - 48)

def val (l : List UInt8) : Nat := l.foldl valF 0

theorem ab_fin : ∀ a b : Fin 16, abSpec (a.val : Int) (b.val : Int) = abOk (a.val : Int) (b.val : Int) := by decide +kernel
theorem ab_same {A b : Int} (h0 : 0 ≤ A) (h1 : A ≤ 15) (h2 : 0 ≤ b) (h3 : b ≤ 15) : abSpec A b = abOk A b := by
  have := ab_fin ⟨A.toNat, by omega⟩ ⟨b.toNat, by omega⟩
  have e1 : ((A.toNat : Nat) : Int) = A := by omega
  have e2 : ((b.toNat : Nat) : Int) = b := by omega
  simp only [e1, e2] at this
  exact this

/-- Is the record x one, as the record (m, r)? -/
def recOk (K : Kinds) (m r : Nat) (x : Rec) : Bool := decide (0 ≤ x.f0 ∧ x.f0 ≤ 15 ∧ x.f1.length ≤ 3) && x.f1.all fun t => fieldOk K m r t && abOk x.f0 (able K t)

theorem ev_impl_recordOk (K : Kinds) (m r : Nat) (hm : m < K.length) (hr : r < K[m].length) : EvP (fun k => impl_recordOk.f k K m r) (· = recOk K m r K[m][r]) := by
  have e1 : rd_L6 K (m : Int) = K[m] := getDn hm
  have e2 : rd_T113 K[m] (r : Int) = K[m][r] := getDn hr
  generalize hx : K[m][r] = x at e2 ⊢
  have loop : x.f1.length ≤ 3 → ∀ i, i ≤ x.f1.length → EvP (fun k => impl_recordOk.l0 k K m r x.f1 (x.f1.length : Int) i x.f0 x.f1) (· = (x.f1.drop i).all fun t => fieldOk K m r t && abOk x.f0 (able K t)) := by
    intro h3
    refine upInd ?_ ?_
    · refine EvP.succ ?_
      simp only [impl_recordOk.l0]
      exact EvP.neg (by omega) (EvP.ret _ (by simp))
    · intro i hi ih
      refine EvP.succ ?_
      simp only [impl_recordOk.l0]
      have e : rdOf ByteArray.empty x.f1 (i : Int) = x.f1[i] := getDn hi
      rw [e, List.drop_eq_getElem_cons hi]
      generalize x.f1[i] = t
      have j2 : ∀ bad : Bool, bad = !fieldOk K m r t → EvP (fun k => impl_recordOk.j2 k K m r t x.f1 (x.f1.length : Int) i bad x.f0 x.f1) (· = (t :: x.f1.drop (i + 1)).all fun t => fieldOk K m r t && abOk x.f0 (able K t)) := by
        intro bad hb
        subst hb
        refine EvP.succ ?_
        simp only [impl_recordOk.j2]
        refine EvP.ite (fun h => EvP.ret _ (by simp at h; simp [h])) (fun h => ?_)
        have hf : fieldOk K m r t = true := by simpa using h
        refine EvP.call (eq_impl_ableOf K t) ?_
        rw [w64s hi (by omega)]
        refine EvP.ite (fun h1 => EvP.ite (fun h2 => ?_) (fun h2 => EvP.ite (fun h4 => EvP.ret _ ?_) (fun h4 => ?_))) (fun h1 => EvP.ret _ ?_)
        · refine ih.mono (fun q hq => ?_)
          rw [hq]
          simp [hf, abOk, h1, h2]
        · simp [hf, abOk, h1, h2, h4]
        · refine ih.mono (fun q hq => ?_)
          rw [hq]
          simp [hf, abOk, h1, h2, h4]
        · simp [hf, abOk, h1]
      refine EvP.pos (by omega) (EvP.pos (by omega) (EvP.pos (by omega) (EvP.call (eq_impl_kindAt t) ?_)))
      cases hk : kAt t with
      | none =>
        refine EvP.neg (by simp [kTup]) (EvP.call (eq_impl_plainOk K t) (j2 _ ?_))
        unfold fieldOk plain kGet
        rw [hk]
        simp
      | some p =>
        obtain ⟨a, b⟩ := p
        simp only [kTup]
        have hbf := kAt_base hk
        refine EvP.pos (by trivial) (EvP.ite (fun h => j2 _ ?_) (fun h => EvP.ite (fun h1 => EvP.ite (fun h2 => j2 _ ?_) (fun h2 => EvP.call (eq_impl_plainOk K t) (j2 _ ?_))) (fun h1 => EvP.call (eq_impl_plainOk K t) (j2 _ ?_))))
        · unfold fieldOk
          rw [hk]
          have : ¬ (a < m ∨ (a = m ∧ b < r)) := by omega
          simp [this]
        · unfold fieldOk
          rw [hk]
          have : ¬ (a < m ∨ (a = m ∧ b < r)) := by omega
          simp [this]
        · unfold fieldOk plain
          rw [hk, hbf]
          have : (a < m ∨ (a = m ∧ b < r)) := by omega
          simp [this]
        · unfold fieldOk plain
          rw [hk, hbf]
          have : (a < m ∨ (a = m ∧ b < r)) := by omega
          simp [this]
  have j0 : ∀ bad : Bool, bad = !decide (0 ≤ x.f0 ∧ x.f0 ≤ 15 ∧ x.f1.length ≤ 3) → EvP (fun k => impl_recordOk.j0 k K m r bad x.f0 x.f1) (· = recOk K m r x) := by
    intro bad hb
    subst hb
    refine EvP.succ ?_
    simp only [impl_recordOk.j0]
    unfold recOk
    refine EvP.ite (fun h => EvP.ret _ ?_) (fun h => ?_)
    · simp at h
      have : ¬ (0 ≤ x.f0 ∧ x.f0 ≤ 15 ∧ x.f1.length ≤ 3) := by omega
      simp [this]
    · simp at h
      refine (loop (by omega) 0 (by omega)).mono (fun q hq => ?_)
      rw [hq]
      have : (0 ≤ x.f0 ∧ x.f0 ≤ 15 ∧ x.f1.length ≤ 3) := by omega
      simp [this]
  unfold impl_recordOk.f
  rw [e1, e2]
  refine EvP.pos (by omega) (EvP.pos (by omega) (EvP.pos (by omega) (EvP.pos (by omega) ?_)))
  refine EvP.ite (fun h => j0 _ ?_) (fun h => EvP.ite (fun h1 => j0 _ ?_) (fun h1 => j0 _ ?_))
  · have : ¬ (0 ≤ x.f0 ∧ x.f0 ≤ 15 ∧ x.f1.length ≤ 3) := by omega
    simp [this]
  · have : ¬ (0 ≤ x.f0 ∧ x.f0 ≤ 15 ∧ x.f1.length ≤ 3) := by omega
    simp [this]
  · by_cases h2 : x.f1.length ≤ 3
    · have : (0 ≤ x.f0 ∧ x.f0 ≤ 15 ∧ x.f1.length ≤ 3) := by omega
      have h3 : ¬ ((x.f1.length : Int) > 3) := by omega
      simp [this]
      omega
    · have : ¬ (0 ≤ x.f0 ∧ x.f0 ≤ 15 ∧ x.f1.length ≤ 3) := by omega
      simp [this]
      omega

/-- The records ahead of (m, r) have abilities. -/
def Below16 (K : Kinds) (m r : Nat) : Prop := ∀ a b (ha : a < K.length) (hb : b < K[a].length), (a < m ∨ (a = m ∧ b < r)) → 0 ≤ K[a][b].f0 ∧ K[a][b].f0 ≤ 15

theorem able_field {K : Kinds} {m r : Nat} {t : ByteArray} (hI : Below16 K m r) (h : fieldOk K m r t = true) : 0 ≤ able K t ∧ able K t ≤ 15 := by
  have hr := field_ref h
  unfold able
  rw [hr]
  simp only [Bool.false_eq_true, if_false]
  cases hg : kGet K t with
  | none => simp
  | some x =>
    obtain ⟨a, b, h1, ha, hb, rfl⟩ := kGet_some hg
    unfold fieldOk at h
    rw [h1] at h
    simp at h
    exact hI a b ha hb h.2

theorem ev_spec_l1Able (K : Kinds) (t : ByteArray) (h : ∀ p, kAt t = some p → (kGet K t).isSome = true) : EvP (fun k => spec_l1Able.f k K t) (· = able K t) := by
  have j0 : ∀ c : Bool, c = (isRef t && (bt t 0 == 38)) → EvP (fun k => spec_l1Able.j0 k K t c) (· = able K t) := by
    intro c hc
    subst hc
    refine EvP.succ ?_
    simp only [spec_l1Able.j0]
    unfold able
    refine EvP.ite (fun h1 => EvP.ret _ (by simp at h1; simp [h1])) (fun h1 => EvP.call (eq_spec_l1RefR t) (EvP.ite (fun h2 => EvP.ret _ (by simp at h1; simp [h2, h1 h2])) (fun h2 => EvP.call (eq_spec_l1Kind t) ?_)))
    have h2 : isRef t = false := by simpa using h2
    cases hk : kAt t with
    | none =>
      refine EvP.neg (by simp [kTup]) (EvP.ret _ ?_)
      simp [h2, kGet, hk]
    | some p =>
      obtain ⟨x, hx⟩ := Option.isSome_iff_exists.1 (h p hk)
      obtain ⟨a, b, h3, ha, hb, rfl⟩ := kGet_some hx
      rw [h3] at hk
      obtain rfl := Option.some.inj hk
      simp only [kTup]
      have e : rd_L6 K (a : Int) = K[a] := getDn ha
      have e2 : rd_T113 K[a] (b : Int) = K[a][b] := getDn hb
      simp only [e, e2]
      refine EvP.pos (by trivial) (EvP.pos (by omega) (EvP.pos (by omega) (EvP.pos (by omega) (EvP.pos (by omega) (EvP.ret _ ?_)))))
      simp [h2, hx]
  unfold spec_l1Able.f
  refine EvP.call (eq_spec_l1RefR t) (EvP.ite (fun h1 => EvP.pos ?_ (j0 _ ?_)) (fun h1 => j0 _ ?_))
  · unfold isRef at h1
    simp at h1
    omega
  · simp [h1]
  · simp at h1
    simp [h1]

theorem eq_spec_l1Field (K : Kinds) (m r : Nat) (t : ByteArray) : spec_l1Field.f K m r t = some (fieldOk K m r t) := by
  unfold spec_l1Field.f fieldOk
  rw [eq_spec_l1Kind]
  simp only [Option.bind_some]
  cases hk : kAt t with
  | none =>
    rw [if_neg (by simp [kTup]), eq_spec_l1Base]
    rfl
  | some p =>
    obtain ⟨a, b⟩ := p
    simp only [kTup]
    rw [if_pos trivial, eq_spec_l1Has K t a b hk]
    simp only [Option.bind_some]
    cases hg : (kGet K t).isSome with
    | false => simp
    | true =>
      by_cases h1 : a < m
      · simp [h1]
      · by_cases h2 : a = m
        · simp [h2]
        · have h3 : ¬ ((a : Int) = (m : Int)) := by omega
          simp [h1, h2, h3]

theorem eq_spec_l1Can (a o : Int) (h : o ≠ 0) : spec_l1Can.f a o = some (can a o) := by
  unfold spec_l1Can.f can
  rw [if_neg h]

theorem ev_spec_l1Record (K : Kinds) (m r : Nat) (hm : m < K.length) (hr : r < K[m].length) (hI : Below16 K m r) : EvP (fun k => spec_l1Record.f k K m r) (· = recOk K m r K[m][r]) := by
  have e1 : rd_L6 K (m : Int) = K[m] := getDn hm
  have e2 : rd_T113 K[m] (r : Int) = K[m][r] := getDn hr
  generalize hx : K[m][r] = x at e2 ⊢
  have loop : (0 ≤ x.f0 ∧ x.f0 ≤ 15 ∧ x.f1.length ≤ 3) → ∀ i, i ≤ x.f1.length → EvP (fun k => spec_l1Record.l0 k K m r i x.f0 x.f1) (· = (x.f1.drop i).all fun t => fieldOk K m r t && abOk x.f0 (able K t)) := by
    intro h3
    refine upInd ?_ ?_
    · refine EvP.succ ?_
      simp only [spec_l1Record.l0]
      exact EvP.neg (by omega) (EvP.ret _ (by simp))
    · intro i hi ih
      refine EvP.succ ?_
      simp only [spec_l1Record.l0]
      have e : rdOf ByteArray.empty x.f1 (i : Int) = x.f1[i] := getDn hi
      rw [e, List.drop_eq_getElem_cons hi]
      generalize x.f1[i] = t
      refine EvP.pos (by omega) (EvP.pos (by omega) (EvP.call (eq_spec_l1Field K m r t) (EvP.ite (fun hf => ?_) (fun hf => EvP.ret _ (by simp at hf; simp [hf])))))
      have hA := able_field hI hf
      have hS := ab_same h3.1 h3.2.1 hA.1 hA.2
      refine EvP.bind (ev_spec_l1Able K t (fun p hp => by unfold fieldOk at hf; rw [hp] at hf; simp at hf; exact hf.1)) (fun w hw => ?_)
      subst hw
      have hall : ∀ q : Bool, q = (x.f1.drop (i + 1)).all (fun t => fieldOk K m r t && abOk x.f0 (able K t)) → ∀ c, c = abSpec x.f0 (able K t) → (c && q) = (t :: x.f1.drop (i + 1)).all (fun t => fieldOk K m r t && abOk x.f0 (able K t)) := by
        intro q hq c hc
        rw [hc, hS, hq, List.all_cons, hf, Bool.true_and]
      have j2 : ∀ bad : Bool, bad = ((can x.f0 1 && !can (able K t) 1) || (can x.f0 2 && !can (able K t) 2)) → EvP (fun k => spec_l1Record.j2 k K m r i (able K t) bad x.f0 x.f1) (· = (t :: x.f1.drop (i + 1)).all fun t => fieldOk K m r t && abOk x.f0 (able K t)) := by
        intro bad hb
        refine EvP.succ ?_
        simp only [spec_l1Record.j2]
        rw [w64s hi (by omega)]
        refine EvP.ite (fun h => EvP.ret _ ?_) (fun h => EvP.ite (fun h1 => EvP.call (eq_spec_l1Can _ 4 (by decide)) (EvP.ite (fun h2 => ih.mono (fun q hq => ?_)) (fun h2 => EvP.ret _ ?_))) (fun h1 => ih.mono (fun q hq => ?_)))
        · rw [← hall _ rfl _ rfl]
          unfold abSpec
          rw [← hb, h]
          simp
        · rw [← hall q hq _ rfl]
          unfold abSpec
          rw [← hb]
          simp [h, h2]
        · rw [← hall _ rfl _ rfl]
          unfold abSpec
          simp at h2
          simp [h1, h2]
        · rw [← hall q hq _ rfl]
          unfold abSpec
          rw [← hb]
          simp [h, h1]
      refine EvP.call (eq_spec_l1Can _ 1 (by decide)) (EvP.ite (fun c1 => EvP.call (eq_spec_l1Can _ 1 (by decide)) (EvP.ite (fun c2 => EvP.call (eq_spec_l1Can _ 2 (by decide)) (EvP.ite (fun c3 => EvP.call (eq_spec_l1Can _ 2 (by decide)) (j2 _ (by simp [c1, c2, c3]))) (fun c3 => j2 _ (by simp [c1, c2, c3])))) (fun c2 => j2 _ (by simp [c1, c2])))) (fun c1 => EvP.call (eq_spec_l1Can _ 2 (by decide)) (EvP.ite (fun c3 => EvP.call (eq_spec_l1Can _ 2 (by decide)) (j2 _ (by simp [c1, c3]))) (fun c3 => j2 _ (by simp [c1, c3])))))
  have j0 : ∀ bad : Bool, (bad = !decide (0 ≤ x.f0 ∧ x.f0 ≤ 15 ∧ x.f1.length ≤ 3)) → EvP (fun k => spec_l1Record.j0 k K m r bad x.f0 x.f1) (· = recOk K m r x) := by
    intro bad hb
    subst hb
    refine EvP.succ ?_
    simp only [spec_l1Record.j0]
    unfold recOk
    refine EvP.ite (fun h => EvP.ret _ ?_) (fun h => ?_)
    · simp at h
      have : ¬ (0 ≤ x.f0 ∧ x.f0 ≤ 15 ∧ x.f1.length ≤ 3) := by omega
      simp [this]
    · simp at h
      refine (loop (by omega) 0 (by omega)).mono (fun q hq => ?_)
      rw [hq]
      have : (0 ≤ x.f0 ∧ x.f0 ≤ 15 ∧ x.f1.length ≤ 3) := by omega
      simp [this]
  unfold spec_l1Record.f
  rw [e1, e2]
  refine EvP.pos (by omega) (EvP.pos (by omega) (EvP.pos (by omega) (EvP.pos (by omega) ?_)))
  have h6 : spec_l6In.f x.f0 0 15 = some (decide (0 ≤ x.f0 ∧ x.f0 ≤ 15)) := by
    unfold spec_l6In.f
    by_cases h : x.f0 ≥ 0
    · rw [if_pos h]
      simp [h]
    · rw [if_neg h]
      have : ¬ 0 ≤ x.f0 := by omega
      simp [this]
  refine EvP.call h6 (EvP.ite (fun h => j0 _ ?_) (fun h => j0 _ ?_))
  · simp at h
    by_cases h2 : x.f1.length ≤ 3
    · have : (0 ≤ x.f0 ∧ x.f0 ≤ 15 ∧ x.f1.length ≤ 3) := by omega
      have h3 : ¬ ((x.f1.length : Int) > 3) := by omega
      simp [this]
      omega
    · have : ¬ (0 ≤ x.f0 ∧ x.f0 ≤ 15 ∧ x.f1.length ≤ 3) := by omega
      simp [this]
      omega
  · have : ¬ (0 ≤ x.f0 ∧ x.f0 ≤ 15 ∧ x.f1.length ≤ 3) := by
      simp at h
      omega
    simp [this]

/-- The first record of module m, from r on, that is none. -/
def kbIn (K : Kinds) (m : Nat) : Nat → Nat → Option Nat
  | 0, _ => none
  | d + 1, r => if recOk K m r ((K.getD m []).getD r z113) = true then kbIn K m d (r + 1) else some r

/-- The first bad place, from module m on. -/
def kbFrom (K : Kinds) : Nat → Nat → Int × Int
  | 0, _ => (-1, -1)
  | d + 1, m => if (K.getD m []).length > 3 then ((m : Int), 3) else match kbIn K m (K.getD m []).length 0 with | some r => ((m : Int), (r : Int)) | none => kbFrom K d (m + 1)

def kBad (K : Kinds) : Int × Int := if K.length > 3 then (3, 0) else kbFrom K K.length 0

def kOk (K : Kinds) : Bool := (kBad K).1 == -1

theorem ev_impl_KindsBad (K : Kinds) : EvP (fun k => impl_KindsBad.f k K) (· = kBad K) := by
  unfold impl_KindsBad.f kBad
  refine EvP.ite (fun h => EvP.ret _ (by rw [if_pos (by omega)])) (fun h => ?_)
  rw [if_neg (by omega)]
  have outer : ∀ d m, m + d = K.length → EvP (fun k => impl_KindsBad.l0 k K K (K.length : Int) m) (· = kbFrom K d m) := by
    intro d
    induction d with
    | zero =>
      intro m hm
      refine EvP.succ ?_
      simp only [impl_KindsBad.l0]
      exact EvP.neg (by omega) (EvP.ret _ rfl)
    | succ d ih =>
      intro m hm
      refine EvP.succ ?_
      simp only [impl_KindsBad.l0]
      have hlt : m < K.length := by omega
      have e1 : rd_L6 K (m : Int) = K[m] := getDn hlt
      have e3 : K.getD m [] = K[m] := by simp [List.getD_eq_getElem?_getD, List.getElem?_eq_getElem hlt]
      rw [e1]
      unfold kbFrom
      rw [e3]
      refine EvP.pos (by omega) (EvP.pos (by omega) (EvP.pos (by omega) (EvP.ite (fun h2 => EvP.ret _ (by rw [if_pos (by omega)])) (fun h2 => ?_))))
      rw [if_neg (by omega)]
      have inner : ∀ e r, r + e = K[m].length → EvP (fun k => impl_KindsBad.l1 k K m K (K.length : Int) m (K[m].length : Int) r) (· = match kbIn K m e r with | some r => ((m : Int), (r : Int)) | none => kbFrom K d (m + 1)) := by
        intro e
        induction e with
        | zero =>
          intro r hr
          refine EvP.succ ?_
          simp only [impl_KindsBad.l1]
          rw [w64s hlt (by omega)]
          exact EvP.neg (by omega) (ih (m + 1) (by omega))
        | succ e ih2 =>
          intro r hr
          refine EvP.succ ?_
          simp only [impl_KindsBad.l1]
          have hrl : r < K[m].length := by omega
          have e4 : K[m].getD r z113 = K[m][r] := by simp [List.getD_eq_getElem?_getD, List.getElem?_eq_getElem hrl]
          rw [w64s hrl (by omega)]
          unfold kbIn
          rw [e3, e4]
          refine EvP.pos (by omega) (EvP.bind (ev_impl_recordOk K m r hlt hrl) (fun t ht => ?_))
          subst ht
          refine EvP.ite (fun h3 => ?_) (fun h3 => EvP.ret _ (by rw [if_neg h3]))
          rw [if_pos h3]
          exact ih2 (r + 1) (by omega)
      exact inner _ 0 (by omega)
  exact outer _ 0 (by omega)

theorem recOk_range {K : Kinds} {m r : Nat} {x : Rec} (h : recOk K m r x = true) : 0 ≤ x.f0 ∧ x.f0 ≤ 15 ∧ x.f1.length ≤ 3 := by
  unfold recOk at h
  simp at h
  omega

theorem ev_spec_KindsBad (K : Kinds) : EvP (fun k => spec_KindsBad.f k K) (· = kBad K) := by
  unfold spec_KindsBad.f kBad
  refine EvP.ite (fun h => EvP.ret _ (by rw [if_pos (by omega)])) (fun h => ?_)
  rw [if_neg (by omega)]
  have outer : ∀ d m, m + d = K.length → Below16 K m 0 → EvP (fun k => spec_KindsBad.l0 k K m) (· = kbFrom K d m) := by
    intro d
    induction d with
    | zero =>
      intro m hm _
      refine EvP.succ ?_
      simp only [spec_KindsBad.l0]
      exact EvP.neg (by omega) (EvP.ret _ rfl)
    | succ d ih =>
      intro m hm hI
      refine EvP.succ ?_
      simp only [spec_KindsBad.l0]
      have hlt : m < K.length := by omega
      have e1 : rd_L6 K (m : Int) = K[m] := getDn hlt
      have e3 : K.getD m [] = K[m] := by simp [List.getD_eq_getElem?_getD, List.getElem?_eq_getElem hlt]
      rw [e1]
      unfold kbFrom
      rw [e3]
      refine EvP.pos (by omega) (EvP.pos (by omega) (EvP.ite (fun h2 => EvP.ret _ (by rw [if_pos (by omega)])) (fun h2 => ?_)))
      rw [if_neg (by omega)]
      have inner : ∀ e r, r + e = K[m].length → Below16 K m r → EvP (fun k => spec_KindsBad.l1 k K m r) (· = match kbIn K m e r with | some r => ((m : Int), (r : Int)) | none => kbFrom K d (m + 1)) := by
        intro e
        induction e with
        | zero =>
          intro r hr hI
          refine EvP.succ ?_
          simp only [spec_KindsBad.l1]
          rw [e1, w64s hlt (by omega)]
          refine EvP.pos (by omega) (EvP.pos (by omega) (EvP.neg (by omega) (ih (m + 1) (by omega) ?_)))
          intro a b ha hb hab
          refine hI a b ha hb ?_
          rcases Nat.lt_or_ge a m with h5 | h5
          · exact .inl h5
          · obtain rfl : a = m := by omega
            exact .inr ⟨rfl, by omega⟩
        | succ e ih2 =>
          intro r hr hI
          refine EvP.succ ?_
          simp only [spec_KindsBad.l1]
          have hrl : r < K[m].length := by omega
          have e4 : K[m].getD r z113 = K[m][r] := by simp [List.getD_eq_getElem?_getD, List.getElem?_eq_getElem hrl]
          rw [e1, w64s hrl (by omega)]
          unfold kbIn
          rw [e3, e4]
          refine EvP.pos (by omega) (EvP.pos (by omega) (EvP.pos (by omega) (EvP.bind (ev_spec_l1Record K m r hlt hrl hI) (fun t ht => ?_))))
          subst ht
          refine EvP.ite (fun h3 => ?_) (fun h3 => EvP.ret _ (by rw [if_neg h3]))
          rw [if_pos h3]
          refine ih2 (r + 1) (by omega) ?_
          intro a b ha hb hab
          by_cases h6 : a = m ∧ b = r
          · obtain ⟨rfl, rfl⟩ := h6
            have := recOk_range h3
            omega
          · exact hI a b ha hb (by omega)
      exact inner _ 0 (by omega) hI
  exact outer _ 0 (by omega) (fun a b ha hb hab => by omega)

theorem ev_impl_KindsOk (K : Kinds) : EvP (fun k => impl_KindsOk.f k K) (· = kOk K) := by
  unfold impl_KindsOk.f
  refine EvP.bind (ev_impl_KindsBad K) (fun t ht => EvP.ret _ ?_)
  rw [ht]
  rfl

theorem kbFrom_neg (K : Kinds) : ∀ d m, (kbFrom K d m).1 = -1 ∨ 0 ≤ (kbFrom K d m).1 := by
  intro d
  induction d with
  | zero => exact fun m => .inl rfl
  | succ d ih =>
    intro m
    unfold kbFrom
    split
    · exact .inr (by show (0 : Int) ≤ (m : Int); omega)
    · split
      · exact .inr (by show (0 : Int) ≤ (m : Int); omega)
      · exact ih (m + 1)
theorem kBad_neg (K : Kinds) : (kBad K).1 = -1 ∨ 0 ≤ (kBad K).1 := by
  unfold kBad
  split
  · exact .inr (by decide)
  · exact kbFrom_neg K _ _

theorem ev_spec_KindsOk (K : Kinds) : EvP (fun k => spec_KindsOk.f k K) (· = kOk K) := by
  unfold spec_KindsOk.f
  refine EvP.bind (ev_spec_KindsBad K) (fun t ht => EvP.ret _ ?_)
  rw [ht]
  unfold kOk
  rcases kBad_neg K with h | h
  · rw [h]
    rfl
  · have h1 : ¬ (kBad K).1 < 0 := by omega
    have h2 : ¬ (kBad K).1 = -1 := by omega
    simp [h1, h2]

theorem kbIn_all (K : Kinds) (m : Nat) : ∀ e r, kbIn K m e r = none → ∀ b, r ≤ b → b < r + e → recOk K m b ((K.getD m []).getD b z113) = true := by
  intro e
  induction e with
  | zero => intro r _ b h1 h2; omega
  | succ e ih =>
    intro r h b h1 h2
    unfold kbIn at h
    split at h
    · rename_i h3
      by_cases hb : b = r
      · subst hb
        exact h3
      · exact ih (r + 1) h b (by omega) (by omega)
    · cases h
theorem kbFrom_all (K : Kinds) : ∀ d m, (kbFrom K d m).1 = -1 → ∀ a, m ≤ a → a < m + d → (K.getD a []).length ≤ 3 ∧ ∀ b, b < (K.getD a []).length → recOk K a b ((K.getD a []).getD b z113) = true := by
  intro d
  induction d with
  | zero => intro m _ a h1 h2; omega
  | succ d ih =>
    intro m h a h1 h2
    unfold kbFrom at h
    split at h
    · exact absurd h (by show ¬ (m : Int) = -1; omega)
    · rename_i h3
      split at h
      · exact absurd h (by show ¬ (m : Int) = -1; omega)
      · rename_i h4
        by_cases ha : a = m
        · subst ha
          exact ⟨by omega, fun b hb => kbIn_all K a _ 0 h4 b (by omega) (by omega)⟩
        · exact ih (m + 1) h a (by omega) (by omega)
theorem kOk_all {K : Kinds} (h : kOk K = true) : K.length ≤ 3 ∧ ∀ a (ha : a < K.length), K[a].length ≤ 3 ∧ ∀ b (hb : b < K[a].length), recOk K a b K[a][b] = true := by
  unfold kOk kBad at h
  split at h
  · exact absurd h (by decide)
  · rename_i h1
    have h2 := kbFrom_all K _ _ (by simpa using h)
    refine ⟨by omega, fun a ha => ?_⟩
    have h3 := h2 a (by omega) (by omega)
    have e3 : K.getD a [] = K[a] := by simp [List.getD_eq_getElem?_getD, List.getElem?_eq_getElem ha]
    rw [e3] at h3
    refine ⟨h3.1, fun b hb => ?_⟩
    have h4 := h3.2 b hb
    have e4 : K[a].getD b z113 = K[a][b] := by simp [List.getD_eq_getElem?_getD, List.getElem?_eq_getElem hb]
    rw [e4] at h4
    exact h4

theorem ival_ind {P : S27 → Prop} (h : ∀ s n ps path, (∀ x ∈ ps, P x) → P ⟨s, n, ps, path⟩) (x : S27) : P x := by
  match x with
  | ⟨s, n, ps, path⟩ => exact h s n ps path (fun y hy => ival_ind h y)
termination_by SizeOf.sizeOf x
decreasing_by
  have := List.sizeOf_lt_of_mem hy
  simp
  omega

mutual
def qVal : S27 → Prop
  | ⟨_, _, ps, path⟩ => (ps.length ≤ 1048576 ∧ qValS ps) ∧ path.length ≤ 1048576
def qValS : List S27 → Prop
  | [] => True
  | x :: xs => qVal x ∧ qValS xs
end
theorem qValS_mem : ∀ {xs : List S27}, qValS xs → ∀ x ∈ xs, qVal x
  | [], _, _, hx => by simp at hx
  | y :: ys, h, x, hx => by
    rw [qValS] at h
    rcases List.mem_cons.1 hx with rfl | hx
    · exact h.1
    · exact qValS_mem h.2 x hx
theorem qValS_of : ∀ {xs : List S27}, (∀ x ∈ xs, qVal x) → qValS xs
  | [], _ => by rw [qValS]; trivial
  | y :: ys, h => by
    rw [qValS]
    exact ⟨h y (by simp), qValS_of (fun x hx => h x (by simp [hx]))⟩

theorem eqValueS_l0 (k : Nat) (x0 x1 : List S27) (x5 : Int) : laws_eqValueS.l0 (k + 1) x0 x1 x5 = if x5 < (x0.length : Int) then (if 0 ≤ x5 then (if x5 < (x1.length : Int) then ((laws_eqValue.f k ((rd_T27 x0 x5).f0) ((rd_T27 x0 x5).f1) ((rd_T27 x0 x5).f2) ((rd_T27 x0 x5).f3) ((rd_T27 x1 x5).f0) ((rd_T27 x1 x5).f1) ((rd_T27 x1 x5).f2) ((rd_T27 x1 x5).f3)).bind fun t => (if t = true then (laws_eqValueS.l0 k x0 x1 (wrap64 (x5 + 1))) else (some false))) else (none)) else (none)) else (some true) := rfl

theorem ev_laws_eqValueS_of (xs : List S27) (hl : xs.length ≤ 1048576) (hx : ∀ x ∈ xs, EvP (fun k => laws_eqValue.f k x.f0 x.f1 x.f2 x.f3 x.f0 x.f1 x.f2 x.f3) (· = true)) : EvP (fun k => laws_eqValueS.f k xs xs) (· = true) := by
  have key : ∀ i, i ≤ xs.length → EvP (fun k => laws_eqValueS.l0 k xs xs i) (· = true) := by
    refine upInd ?_ ?_
    · refine EvP.succ ?_
      simp only [eqValueS_l0]
      exact EvP.neg (by omega) (EvP.ret _ rfl)
    · intro i hi ih
      refine EvP.succ ?_
      simp only [eqValueS_l0]
      rw [w64s hi (by omega)]
      have e : rd_T27 xs (i : Int) = xs[i] := getDn hi
      rw [e]
      refine EvP.pos (by omega) (EvP.pos (by omega) (EvP.pos (by omega) (EvP.bind (hx _ (List.getElem_mem hi)) (fun t ht => ?_))))
      subst ht
      exact EvP.pos (by trivial) ih
  unfold laws_eqValueS.f
  exact EvP.pos (by trivial) (key 0 (by omega))
theorem ev_laws_eqValue (x : S27) : qVal x → EvP (fun k => laws_eqValue.f k x.f0 x.f1 x.f2 x.f3 x.f0 x.f1 x.f2 x.f3) (· = true) := by
  refine ival_ind (P := fun x => qVal x → EvP (fun k => laws_eqValue.f k x.f0 x.f1 x.f2 x.f3 x.f0 x.f1 x.f2 x.f3) (· = true)) ?_ x
  intro s n ps path ih hq
  rw [qVal] at hq
  show EvP (fun k => laws_eqValue.f k s n ps path s n ps path) _
  unfold laws_eqValue.f
  refine EvP.pos rfl (EvP.pos rfl (EvP.bind (ev_laws_eqValueS_of ps hq.1.1 (fun y hy => ih y hy (qValS_mem hq.1.2 y hy))) (fun t ht => EvP.pos ht ?_)))
  exact EvP.bind (ev_laws_eqIntS path (by show path.length ≤ _; omega)) (fun t ht => EvP.pos ht (EvP.ret _ rfl))

/-- A value fits its type. -/
def baseFits (t : ByteArray) (n : Int) : Bool := if t.toList = [110] then decide (0 ≤ n ∧ n ≤ 1000000) else if t.toList = [98] then decide (n = 0 ∨ n = 1) else decide (0 ≤ n ∧ n < 4)
mutual
def fits (K : Kinds) : S27 → Bool
  | ⟨t, n, ps, path⟩ => (path.length == 0) && (if isBase t = true then baseFits t n && (ps.length == 0) else match kGet K t with
    | some x => decide (n = 0) && ((ps.length == x.f1.length) && fitsS K x.f1 ps)
    | none => false)
def fitsS (K : Kinds) : List ByteArray → List S27 → Bool
  | f :: fs, p :: ps => decide (p.f0.toList = f.toList) && (fits K p && fitsS K fs ps)
  | _, [] => true
  | [], _ :: _ => false
end

def valOk (K : Kinds) (x : S27) : Bool := kOk K && fits K x

mutual
def vsize : S27 → Nat
  | ⟨_, _, ps, _⟩ => 1 + vsizeS ps
def vsizeS : List S27 → Nat
  | [] => 0
  | x :: xs => vsize x + vsizeS xs
end
theorem vsizeS_sum : ∀ xs, vsizeS xs = (xs.map vsize).sum
  | [] => by simp [vsizeS]
  | x :: xs => by simp [vsizeS, vsizeS_sum xs]
theorem vsize_eq (s : ByteArray) (n : Int) (ps : List S27) (path : List Int) : vsize ⟨s, n, ps, path⟩ = 1 + (ps.map vsize).sum := by
  rw [← vsizeS_sum, vsize]

theorem fits_eq (K : Kinds) (t : ByteArray) (n : Int) (ps : List S27) (path : List Int) : fits K ⟨t, n, ps, path⟩ = ((path.length == 0) && (if isBase t = true then baseFits t n && (ps.length == 0) else match kGet K t with
    | some x => decide (n = 0) && ((ps.length == x.f1.length) && fitsS K x.f1 ps)
    | none => false)) := by rw [fits]
theorem fitsS_cons (K : Kinds) (f : ByteArray) (fs : List ByteArray) (p : S27) (ps : List S27) : fitsS K (f :: fs) (p :: ps) = (decide (p.f0.toList = f.toList) && (fits K p && fitsS K fs ps)) := by rw [fitsS]
theorem fitsS_nil (K : Kinds) (fs : List ByteArray) : fitsS K fs [] = true := by cases fs <;> rw [fitsS]

theorem ev_impl_valueFits (K : Kinds) (x : S27) : qVal x → EvP (fun k => impl_valueFits.f k K x.f0 x.f1 x.f2 x.f3) (· = fits K x) := by
  refine ival_ind (P := fun x => qVal x → EvP (fun k => impl_valueFits.f k K x.f0 x.f1 x.f2 x.f3) (· = fits K x)) ?_ x
  intro t n ps path ih hq
  rw [qVal] at hq
  obtain ⟨⟨hl, hps⟩, hpath⟩ := hq
  show EvP (fun k => impl_valueFits.f k K t n ps path) _
  rw [fits_eq]
  have loop : ∀ fs : List ByteArray, ps.length = fs.length → EvP (fun k => impl_valueFits.l0 k K fs ps (ps.length : Int) 0) (· = fitsS K fs ps) := by
    intro fs hf
    have key : ∀ i, i ≤ ps.length → EvP (fun k => impl_valueFits.l0 k K fs ps (ps.length : Int) i) (· = fitsS K (fs.drop i) (ps.drop i)) := by
      refine upInd ?_ ?_
      · refine EvP.succ ?_
        simp only [impl_valueFits.l0]
        exact EvP.neg (by omega) (EvP.ret _ (by rw [List.drop_length, fitsS_nil]))
      · intro i hi ih2
        refine EvP.succ ?_
        simp only [impl_valueFits.l0]
        have e : rd_T27 ps (i : Int) = ps[i] := getDn hi
        have e2 : rdOf ByteArray.empty fs (i : Int) = fs[i]'(by omega) := getDn (by omega)
        rw [e, e2, w64s hi (by omega), List.drop_eq_getElem_cons hi, List.drop_eq_getElem_cons (show i < fs.length by omega), fitsS_cons]
        refine EvP.pos (by omega) (EvP.pos (by omega) (EvP.pos (by omega) (EvP.pos (by omega) (EvP.ite (fun hc => ?_) (fun hc => EvP.ret _ (by rw [decide_eq_false hc, Bool.false_and]))))))
        rw [decide_eq_true hc, Bool.true_and]
        refine EvP.bind (ih _ (List.getElem_mem hi) (qValS_mem hps _ (List.getElem_mem hi))) (fun r hr => EvP.ite (fun h => ih2.mono (fun u hu => ?_)) (fun h => EvP.ret _ ?_))
        · rw [hu, ← hr, h, Bool.true_and]
        · rw [Bool.not_eq_true] at h
          rw [← hr, h, Bool.false_and]
    exact (key 0 (by omega)).mono (fun r hr => by simpa using hr)
  refine EvP.succ ?_
  simp only [impl_valueFits.f]
  refine EvP.ite (fun h => EvP.succ ?_) (fun h => ?_)
  · simp only [impl_valueFits.j0]
    refine EvP.pos trivial (EvP.ret _ ?_)
    have : (path.length == 0) = false := by rw [beq_eq_false_iff_ne]; omega
    rw [this, Bool.false_and]
  · have hp0 : (path.length == 0) = true := by rw [beq_iff_eq]; omega
    rw [hp0, Bool.true_and]
    refine EvP.call (eq_impl_plainOk K t) (EvP.succ ?_)
    simp only [impl_valueFits.j0]
    refine EvP.ite (fun h2 => EvP.ret _ ?_) (fun h2 => ?_)
    · have h2 : plain K t = false := by simpa using h2
      unfold plain at h2
      rw [Bool.or_eq_false_iff] at h2
      rw [if_neg (by rw [h2.1]; simp)]
      cases hk : kGet K t with
      | none => rfl
      | some x => rw [hk] at h2; simp at h2
    · have h2 : plain K t = true := by simpa using h2
      have lz : ((ps.length : Int) == 0) = (ps.length == 0) := by
        rw [Bool.eq_iff_iff, beq_iff_eq, beq_iff_eq]
        omega
      refine EvP.ite (fun h3 => ?_) (fun h3 => EvP.ite (fun h4 => ?_) (fun h4 => EvP.ite (fun h5 => ?_) (fun h5 => ?_)))
      · have hb : isBase t = true := by unfold isBase; rw [h3]; rfl
        have hf : baseFits t n = decide (0 ≤ n ∧ n ≤ 1000000) := by unfold baseFits; rw [if_pos h3]
        rw [if_pos hb, hf, lz]
        refine EvP.ite (fun h6 => EvP.ite (fun h7 => EvP.ret _ ?_) (fun h7 => EvP.ret _ ?_)) (fun h6 => EvP.ret _ ?_)
        · rw [decide_eq_true (by omega), Bool.true_and]
        · rw [decide_eq_false (by omega), Bool.false_and]
        · rw [decide_eq_false (by omega), Bool.false_and]
      · have hb : isBase t = true := by unfold isBase; rw [h4]; rfl
        have hf : baseFits t n = decide (n = 0 ∨ n = 1) := by unfold baseFits; rw [if_neg h3, if_pos h4]
        rw [if_pos hb, hf, lz]
        refine EvP.ite (fun h6 => EvP.ret _ ?_) (fun h6 => EvP.ite (fun h7 => EvP.ret _ ?_) (fun h7 => EvP.ret _ ?_))
        · rw [decide_eq_true (by omega), Bool.true_and]
        · rw [decide_eq_true (by omega), Bool.true_and]
        · rw [decide_eq_false (by omega), Bool.false_and]
      · have hb : isBase t = true := by unfold isBase; rw [h5]; rfl
        have hf : baseFits t n = decide (0 ≤ n ∧ n < 4) := by unfold baseFits; rw [if_neg h3, if_neg h4]
        rw [if_pos hb, hf, lz]
        refine EvP.ite (fun h6 => EvP.ite (fun h7 => EvP.ret _ ?_) (fun h7 => EvP.ret _ ?_)) (fun h6 => EvP.ret _ ?_)
        · rw [decide_eq_true (by omega), Bool.true_and]
        · rw [decide_eq_false (by omega), Bool.false_and]
        · rw [decide_eq_false (by omega), Bool.false_and]
      · have hb : isBase t = false := by
          unfold isBase
          rw [beq_eq_false_iff_ne.2 h3, beq_eq_false_iff_ne.2 h4, beq_eq_false_iff_ne.2 h5]
          rfl
        rw [if_neg (by rw [hb]; simp)]
        unfold plain at h2
        rw [hb, Bool.false_or] at h2
        obtain ⟨x, hx⟩ := Option.isSome_iff_exists.1 h2
        rw [hx]
        refine EvP.call (eq_impl_recordOf K t x hx) (EvP.ite (fun h6 => EvP.succ ?_) (fun h6 => EvP.succ ?_))
        · simp only [impl_valueFits.j1]
          show EvP _ (· = (decide (n = 0) && ((ps.length == x.f1.length) && fitsS K x.f1 ps)))
          rw [decide_eq_true h6, Bool.true_and]
          refine EvP.ite (fun h7 => EvP.ret _ ?_) (fun h7 => ?_)
          · have h7 : ¬ ((ps.length : Int) = (x.f1.length : Int)) := by simpa using h7
            rw [beq_eq_false_iff_ne.2 (show ps.length ≠ x.f1.length by omega), Bool.false_and]
          · have h7 : (ps.length : Int) = (x.f1.length : Int) := by simpa using h7
            rw [beq_iff_eq.2 (show ps.length = x.f1.length by omega), Bool.true_and]
            exact loop x.f1 (by omega)
        · simp only [impl_valueFits.j1]
          refine EvP.pos trivial (EvP.ret _ ?_)
          show false = (decide (n = 0) && _)
          rw [decide_eq_false h6, Bool.false_and]

theorem ev_spec_l2Ok (K : Kinds) (x : S27) : qVal x → EvP (fun k => spec_l2Ok.f k K x.f0 x.f1 x.f2 x.f3) (· = fits K x) := by
  refine ival_ind (P := fun x => qVal x → EvP (fun k => spec_l2Ok.f k K x.f0 x.f1 x.f2 x.f3) (· = fits K x)) ?_ x
  intro t n ps path ih hq
  rw [qVal] at hq
  obtain ⟨⟨hl, hps⟩, hpath⟩ := hq
  show EvP (fun k => spec_l2Ok.f k K t n ps path) _
  rw [fits_eq]
  refine EvP.succ ?_
  simp only [spec_l2Ok.f]
  have pl : spec_l2Plain.f t n ps path = some ((path.length == 0) && (ps.length == 0)) := by
    unfold spec_l2Plain.f
    have lz : ((path.length : Int) == 0) = (path.length == 0) := by
      rw [Bool.eq_iff_iff, beq_iff_eq, beq_iff_eq]
      omega
    by_cases h : (ps.length : Int) = 0
    · rw [if_pos h, lz, beq_iff_eq.2 (show ps.length = 0 by omega), Bool.and_true]
    · rw [if_neg h, beq_eq_false_iff_ne.2 (show ps.length ≠ 0 by omega), Bool.and_false]
  have inn : ∀ b : Int, spec_l6In.f n 0 b = some (decide (0 ≤ n ∧ n ≤ b)) := by
    intro b
    unfold spec_l6In.f
    by_cases h : n ≥ 0
    · rw [if_pos h]
      congr 1
      rw [decide_eq_decide]
      omega
    · rw [if_neg h, decide_eq_false (by omega)]
  have base : ∀ (b : Int) (B : Bool), decide (0 ≤ n ∧ n ≤ b) = B → EvP (fun _ : Nat => (spec_l2Plain.f t n ps path).bind fun t1 => if t1 = true then (spec_l6In.f n 0 b).bind fun t2 => some t2 else some false) (· = ((path.length == 0) && (B && (ps.length == 0)))) := by
    intro b B hB
    refine EvP.call pl (EvP.ite (fun h => EvP.call (inn b) (EvP.ret _ ?_)) (fun h => EvP.ret _ ?_))
    · rw [Bool.and_eq_true] at h
      rw [h.1, h.2, hB, Bool.true_and, Bool.and_true]
    · cases h1 : (path.length == 0) <;> cases h2 : (ps.length == 0) <;> simp_all
  refine EvP.ite (fun h3 => ?_) (fun h3 => EvP.ite (fun h4 => ?_) (fun h4 => EvP.ite (fun h5 => ?_) (fun h5 => ?_)))
  · have hb : isBase t = true := by unfold isBase; rw [h3]; rfl
    have hf : baseFits t n = decide (0 ≤ n ∧ n ≤ 1000000) := by unfold baseFits; rw [if_pos h3]
    rw [if_pos hb, hf]
    exact base 1000000 _ rfl
  · have hb : isBase t = true := by unfold isBase; rw [h4]; rfl
    have hf : baseFits t n = decide (n = 0 ∨ n = 1) := by unfold baseFits; rw [if_neg h3, if_pos h4]
    rw [if_pos hb, hf]
    exact base 1 _ (by rw [decide_eq_decide]; omega)
  · have hb : isBase t = true := by unfold isBase; rw [h5]; rfl
    have hf : baseFits t n = decide (0 ≤ n ∧ n < 4) := by unfold baseFits; rw [if_neg h3, if_neg h4]
    rw [if_pos hb, hf]
    exact base 3 _ (by rw [decide_eq_decide]; omega)
  · have hb : isBase t = false := by
      unfold isBase
      rw [beq_eq_false_iff_ne.2 h3, beq_eq_false_iff_ne.2 h4, beq_eq_false_iff_ne.2 h5]
      rfl
    rw [if_neg (by rw [hb]; simp)]
    refine EvP.call (eq_spec_l1Kind t) ?_
    have bad : ∀ a b : Int, EvP (fun k => spec_l2Ok.j0 k K a b true t n ps path) (· = false) := by
      intro a b
      refine EvP.succ ?_
      simp only [spec_l2Ok.j0]
      exact EvP.pos trivial (EvP.ret _ rfl)
    cases hk : kAt t with
    | none =>
      have hg : kGet K t = none := by unfold kGet; rw [hk]; rfl
      rw [hg]
      refine EvP.neg (by simp [kTup]) ((bad _ _).mono (fun r hr => by rw [hr, Bool.and_false]))
    | some p =>
      obtain ⟨a, b⟩ := p
      refine EvP.pos rfl (EvP.call (eq_spec_l1Has K t a b hk) (EvP.ite (fun h6 => ?_) (fun h6 => ?_)))
      · obtain ⟨x, hx⟩ := Option.isSome_iff_exists.1 h6
        obtain ⟨a', b', hk', ha, hb', hxe⟩ := kGet_some hx
        rw [hk] at hk'
        injection hk' with hk'
        injection hk' with e1 e2
        subst e1
        subst e2
        rw [hx]
        have eL : rd_L6 K (a : Int) = K[a] := getDn ha
        have eR : rd_T113 K[a] (b : Int) = x := by rw [← hxe]; exact getDn hb'
        show EvP _ (· = ((path.length == 0) && (decide (n = 0) && ((ps.length == x.f1.length) && fitsS K x.f1 ps))))
        refine EvP.ite (fun h7 => ?_) (fun h7 => (bad _ _).mono (fun r hr => by rw [hr, decide_eq_false h7, Bool.false_and, Bool.and_false]))
        rw [decide_eq_true h7, Bool.true_and]
        refine EvP.ite (fun h8 => (bad _ _).mono (fun r hr => ?_)) (fun h8 => ?_)
        · rw [hr, beq_eq_false_iff_ne.2 (show path.length ≠ 0 by omega), Bool.false_and]
        · rw [beq_iff_eq.2 (show path.length = 0 by omega), Bool.true_and]
          refine EvP.pos (by show (0 : Int) ≤ (a : Int); omega) (EvP.pos (by show (a : Int) < _; omega) (EvP.pos (by show (0 : Int) ≤ (b : Int); omega) (EvP.pos ?_ (EvP.succ ?_))))
          · show (b : Int) < ((rd_L6 K (a : Int)).length : Int)
            rw [eL]
            omega
          · simp only [spec_l2Ok.j0, kTup]
            simp only [eL, eR]
            refine EvP.ite (fun h9 => EvP.ret _ ?_) (fun h9 => ?_)
            · have h9 : ¬ ((ps.length : Int) = (x.f1.length : Int)) := by simpa using h9
              rw [beq_eq_false_iff_ne.2 (show ps.length ≠ x.f1.length by omega), Bool.false_and]
            · have h9 : (ps.length : Int) = (x.f1.length : Int) := by simpa using h9
              rw [beq_iff_eq.2 (show ps.length = x.f1.length by omega), Bool.true_and]
              have key : ∀ i, i ≤ ps.length → EvP (fun k => spec_l2Ok.l0 k K a b i t n ps path) (· = fitsS K (x.f1.drop i) (ps.drop i)) := by
                refine upInd ?_ ?_
                · refine EvP.succ ?_
                  simp only [spec_l2Ok.l0]
                  exact EvP.neg (by omega) (EvP.ret _ (by rw [List.drop_length, fitsS_nil]))
                · intro i hi ih2
                  refine EvP.succ ?_
                  simp only [spec_l2Ok.l0]
                  simp only [eL, eR]
                  have e : rd_T27 ps (i : Int) = ps[i] := getDn hi
                  have e2 : rdOf ByteArray.empty x.f1 (i : Int) = x.f1[i]'(by omega) := getDn (by omega)
                  rw [e, e2, w64s hi (by omega), List.drop_eq_getElem_cons hi, List.drop_eq_getElem_cons (show i < x.f1.length by omega), fitsS_cons]
                  refine EvP.pos (by omega) (EvP.pos (by omega) (EvP.pos (by omega) (EvP.pos (by omega) (EvP.pos (by omega) (EvP.pos (by omega) (EvP.pos (by omega) (EvP.ite (fun hc => ?_) (fun hc => EvP.ret _ (by rw [decide_eq_false hc, Bool.false_and])))))))))
                  rw [decide_eq_true hc, Bool.true_and]
                  refine EvP.bind (ih _ (List.getElem_mem hi) (qValS_mem hps _ (List.getElem_mem hi))) (fun r hr => EvP.ite (fun h => ih2.mono (fun u hu => ?_)) (fun h => EvP.ret _ ?_))
                  · rw [hu, ← hr, h, Bool.true_and]
                  · rw [Bool.not_eq_true] at h
                    rw [← hr, h, Bool.false_and]
              exact (key 0 (by omega)).mono (fun r hr => by simpa using hr)
      · rw [Bool.not_eq_true] at h6
        have hg : kGet K t = none := by
          cases e : kGet K t with
          | none => rfl
          | some y => rw [e] at h6; cases h6
        rw [hg]
        exact (bad _ _).mono (fun r hr => by rw [hr, Bool.and_false])

theorem ev_spec_ValueOk (K : Kinds) (x : S27) (hq : qVal x) : EvP (fun k => spec_ValueOk.f k K x.f0 x.f1 x.f2 x.f3) (· = valOk K x) := by
  unfold spec_ValueOk.f valOk
  refine EvP.bind (ev_spec_KindsOk K) (fun b hb => EvP.ite (fun h => EvP.bind (ev_spec_l2Ok K x hq) (fun t ht => EvP.ret _ ?_)) (fun h => EvP.ret _ ?_))
  · rw [ht, ← hb, h, Bool.true_and]
  · rw [Bool.not_eq_true] at h
    rw [← hb, h, Bool.false_and]

theorem bt_of {s : ByteArray} {i : Nat} {x : UInt8} (h : s.data[i]? = some x) : bt s (i : Int) = (x.toNat : Int) := by
  have h1 : i < s.size := by
    have := (Array.getElem?_eq_some_iff.1 h).1
    simpa using this
  have h2 : s[i] = x := by
    have := (Array.getElem?_eq_some_iff.1 h).2
    simpa [ByteArray.getElem_eq_getElem_data] using this
  unfold bt
  have e : ((i : Int)).toNat = i := Int.toNat_natCast i
  rw [dif_pos (by rw [e]; exact h1)]
  simp only [e, h2]

theorem fitsS_mem (K : Kinds) : ∀ (ps : List S27) (fs : List ByteArray), fitsS K fs ps = true → ∀ y ∈ ps, fits K y = true
  | [], _, _, _, hy => by simp at hy
  | p :: ps, [], h, _, _ => by rw [fitsS] at h; cases h
  | p :: ps, f :: fs, h, y, hy => by
    rw [fitsS_cons, Bool.and_eq_true, Bool.and_eq_true] at h
    rcases List.mem_cons.1 hy with rfl | hy
    · exact h.2.1
    · exact fitsS_mem K ps fs h.2.2 y hy
theorem fits_parts {K : Kinds} {t : ByteArray} {n : Int} {ps : List S27} {path : List Int} (h : valOk K ⟨t, n, ps, path⟩ = true) : ∀ y ∈ ps, valOk K y = true := by
  unfold valOk at h ⊢
  rw [Bool.and_eq_true] at h
  intro y hy
  rw [h.1, Bool.true_and]
  have h2 := h.2
  rw [fits_eq, Bool.and_eq_true] at h2
  have h3 := h2.2
  split at h3
  · rw [Bool.and_eq_true, beq_iff_eq] at h3
    have e := List.eq_nil_of_length_eq_zero h3.2
    subst e
    simp at hy
  · split at h3
    · rw [Bool.and_eq_true, Bool.and_eq_true] at h3
      exact fitsS_mem K ps _ h3.2.2 y hy
    · cases h3

/-- A number's text. -/
def dec (n : Int) : ByteArray := ⟨(Lib.itoa n).toArray⟩

theorem dec_small {n : Nat} (h : n < 10) : dec (n : Int) = strOfNums [(wrap64 (48 + (n : Int))) % 256] := by
  unfold dec Lib.itoa
  rw [if_neg (by omega), Int.toNat_natCast, Lib.decDigits, dif_pos h]
  have h2 : n = 0 ∨ n = 1 ∨ n = 2 ∨ n = 3 ∨ n = 4 ∨ n = 5 ∨ n = 6 ∨ n = 7 ∨ n = 8 ∨ n = 9 := by omega
  rcases h2 with e | e | e | e | e | e | e | e | e | e <;> subst e <;> simp [strOfNums, wrap64]

theorem dec_step {n : Nat} (h : ¬ n < 10) : dec (n : Int) = dec ((n / 10 : Nat) : Int) ++ dec ((n % 10 : Nat) : Int) := by
  have h1 : Lib.decDigits (n % 10) = [UInt8.ofNat (48 + n % 10)] := by rw [Lib.decDigits, dif_pos (by omega)]
  unfold dec Lib.itoa
  rw [if_neg (by omega), if_neg (by omega), if_neg (by omega), Int.toNat_natCast, Int.toNat_natCast, Int.toNat_natCast, h1, Lib.decDigits, dif_neg h]
  apply ByteArray.ext
  simp

theorem dec_size : ∀ n : Nat, (dec (n : Int)).size ≤ n + 1 := by
  intro n
  induction n using Nat.strongRecOn with
  | _ n ih =>
    by_cases h : n < 10
    · rw [dec_small h]
      have : (strOfNums [(wrap64 (48 + (n : Int))) % 256]).size = 1 := rfl
      omega
    · rw [dec_step h, ByteArray.size_append]
      have h1 := ih (n / 10) (by omega)
      have h2 : (dec ((n % 10 : Nat) : Int)).size = 1 := by rw [dec_small (by omega)]; rfl
      omega

theorem ev_dec_all : ∀ n : Nat, n ≤ 1000001 → EvP (fun k => spec_l6Dec.f k (n : Int)) (· = dec (n : Int)) := by
  intro n
  induction n using Nat.strongRecOn with
  | _ n ih =>
    intro hn
    refine EvP.succ ?_
    simp only [spec_l6Dec.f]
    refine EvP.neg (by omega) (EvP.neg (by omega) (EvP.ite (fun h => EvP.ret _ (dec_small (by omega)).symm) (fun h => ?_)))
    have e1 : wrap64 (Int.tdiv (n : Int) 10) = ((n / 10 : Nat) : Int) := by
      have : Int.tdiv (n : Int) 10 = ((n / 10 : Nat) : Int) := rfl
      rw [this, w64 (by omega) (by omega)]
    have e2 : Int.tmod (n : Int) 10 = ((n % 10 : Nat) : Int) := rfl
    rw [e1, e2]
    refine EvP.bind (ih (n / 10) (by omega) (by omega)) (fun t ht => ?_)
    simp only [Option.bind_some]
    have hs := dec_size (n / 10)
    have h1 : (strOfNums [(wrap64 (48 + ((n % 10 : Nat) : Int))) % 256]).size = 1 := rfl
    refine EvP.pos (by rw [ht]; omega) (EvP.ret _ ?_)
    rw [ht, ← dec_small (by omega : n % 10 < 10), ← dec_step (by omega)]

def digit (c : UInt8) : Bool := decide (48 ≤ c.toNat ∧ c.toNat ≤ 57)

/-- The text of a number, as it is written. -/
def isNum (l : List UInt8) : Bool := (decide (l ≠ []) && (decide (l.length ≤ 1) || decide (l.head? ≠ some 48))) && l.all digit

theorem val_snoc (l : List UInt8) (c : UInt8) : val (l ++ [c]) = 10 * val l + (c.toNat - 48) := by
  unfold val
  rw [List.foldl_append]
  rfl

theorem dig_small {u : Nat} (h : u < 10) : Lib.decDigits u = [UInt8.ofNat (48 + u)] := by rw [Lib.decDigits, dif_pos h]

theorem dig_big {u : Nat} (h : ¬ u < 10) : Lib.decDigits u = Lib.decDigits (u / 10) ++ [UInt8.ofNat (48 + u % 10)] := by rw [Lib.decDigits, dif_neg h]

theorem chr_nat {d : Nat} (h : d < 10) : (UInt8.ofNat (48 + d)).toNat = 48 + d := by
  rw [UInt8.toNat_ofNat']
  omega

theorem val_dig : ∀ u : Nat, val (Lib.decDigits u) = u := by
  intro u
  induction u using Nat.strongRecOn with
  | _ u ih =>
    by_cases h : u < 10
    · rw [dig_small h]
      show 10 * 0 + ((UInt8.ofNat (48 + u)).toNat - 48) = u
      rw [chr_nat h]
      omega
    · rw [dig_big h, val_snoc, ih _ (by omega), chr_nat (by omega)]
      omega

theorem all_dig : ∀ u : Nat, (Lib.decDigits u).all digit = true := by
  intro u
  induction u using Nat.strongRecOn with
  | _ u ih =>
    by_cases h : u < 10
    · rw [dig_small h, List.all_cons]
      have := chr_nat h
      simp [digit]
      omega
    · rw [dig_big h, List.all_append, ih _ (by omega), List.all_cons]
      have := chr_nat (d := u % 10) (by omega)
      simp [digit]
      omega

theorem dig_ne (u : Nat) : Lib.decDigits u ≠ [] := by
  by_cases h : u < 10
  · rw [dig_small h]
    simp
  · rw [dig_big h]
    simp

theorem dig_head : ∀ u : Nat, 1 ≤ u → (Lib.decDigits u).head? ≠ some 48 := by
  intro u
  induction u using Nat.strongRecOn with
  | _ u ih =>
    intro hu
    by_cases h : u < 10
    · rw [dig_small h]
      intro e
      have e2 := congrArg UInt8.toNat (Option.some.inj e)
      rw [chr_nat h] at e2
      have : (48 : UInt8).toNat = 48 := rfl
      omega
    · rw [dig_big h]
      have h1 := ih (u / 10) (by omega) (by omega)
      cases hd : Lib.decDigits (u / 10) with
      | nil => exact absurd hd (dig_ne _)
      | cons a as_ => rw [hd] at h1; simpa using h1

theorem num_dig (u : Nat) : isNum (Lib.decDigits u) = true := by
  unfold isNum
  rw [all_dig, Bool.and_true, Bool.and_eq_true]
  refine ⟨decide_eq_true (dig_ne u), ?_⟩
  rw [Bool.or_eq_true]
  by_cases h : u < 10
  · exact .inl (decide_eq_true (by rw [dig_small h]; simp))
  · exact .inr (decide_eq_true (dig_head u (by omega)))

theorem dig_len : ∀ (k u : Nat), u < 10 ^ (k + 1) → (Lib.decDigits u).length ≤ k + 1
  | 0, u, h => by rw [dig_small (by simpa using h)]; simp
  | k + 1, u, h => by
    by_cases h2 : u < 10
    · rw [dig_small h2]
      simp
    · rw [dig_big h2, List.length_append]
      have := dig_len k (u / 10) (by rw [Nat.pow_succ] at h; omega)
      simp
      omega

theorem val_grow : ∀ (l : List UInt8) (n : Nat), n ≤ l.foldl valF n
  | [], n => Nat.le_refl _
  | c :: l, n => by
    rw [List.foldl_cons]
    have := val_grow l (valF n c)
    unfold valF at this ⊢
    omega

theorem val_pos {c : UInt8} {l : List UInt8} (h : digit c = true) (h2 : c ≠ 48) : 1 ≤ val (c :: l) := by
  have h3 := of_decide_eq_true h
  have h4 : c.toNat ≠ 48 := fun e => h2 (by apply UInt8.toNat_inj.1; rw [e]; rfl)
  have h5 := val_grow l (valF 0 c)
  have h6 : 1 ≤ valF 0 c := by unfold valF; omega
  show 1 ≤ l.foldl valF (valF 0 c)
  omega

theorem chr_of {c : UInt8} (h : digit c = true) : UInt8.ofNat (48 + (c.toNat - 48)) = c := by
  have h3 := of_decide_eq_true h
  apply UInt8.toNat_inj.1
  rw [UInt8.toNat_ofNat']
  omega

theorem dig_val : ∀ (n : Nat) (l : List UInt8), l.length = n → isNum l = true → Lib.decDigits (val l) = l := by
  intro n
  induction n with
  | zero =>
    intro l hl h
    have := List.eq_nil_of_length_eq_zero hl
    subst this
    simp [isNum] at h
  | succ n ih =>
    intro l hl h
    have hne : l ≠ [] := by intro e; rw [e] at hl; simp at hl
    obtain ⟨a, c, rfl⟩ : ∃ a c, l = a ++ [c] := ⟨l.dropLast, l.getLast hne, (List.dropLast_concat_getLast hne).symm⟩
    unfold isNum at h
    rw [Bool.and_eq_true, Bool.and_eq_true, List.all_append, Bool.and_eq_true] at h
    obtain ⟨⟨_, h1⟩, h2, h3⟩ := h
    have hc : digit c = true := by simpa using h3
    have hd := of_decide_eq_true hc
    rw [val_snoc]
    cases a with
    | nil =>
      have e : val [] = 0 := rfl
      rw [e, Nat.mul_zero, Nat.zero_add, dig_small (by omega), chr_of hc]
      rfl
    | cons b bs =>
      have hb : b ≠ 48 := by
        rw [Bool.or_eq_true] at h1
        rcases h1 with h1 | h1
        · have := of_decide_eq_true h1
          simp at this
        · have := of_decide_eq_true h1
          simpa using this
      have hbd : digit b = true := by
        rw [List.all_cons, Bool.and_eq_true] at h2
        exact h2.1
      have hp := val_pos (l := bs) hbd hb
      have hn : isNum (b :: bs) = true := by
        unfold isNum
        rw [h2, Bool.and_true, Bool.and_eq_true, Bool.or_eq_true]
        exact ⟨by simp, .inr (decide_eq_true (by simpa using hb))⟩
      have e1 : (10 * val (b :: bs) + (c.toNat - 48)) / 10 = val (b :: bs) := by omega
      have e2 : (10 * val (b :: bs) + (c.toNat - 48)) % 10 = c.toNat - 48 := by omega
      rw [dig_big (by omega), e1, e2, ih _ (by simpa using hl) hn, chr_of hc]

theorem bt_list {x : ByteArray} {i : Nat} (h : i < x.data.toList.length) : bt x i = ((x.data.toList[i]).toNat : Int) := bt_of (by simp at h ⊢)

theorem isNum_ok {l : List UInt8} (h0 : l ≠ []) (h1 : l.length ≤ 1 ∨ l.head? ≠ some 48) : isNum l = l.all digit := by
  unfold isNum
  rw [decide_eq_true h0, Bool.true_and]
  have : (decide (l.length ≤ 1) || decide (l.head? ≠ some 48)) = true := by
    rw [Bool.or_eq_true]
    rcases h1 with h | h
    · exact .inl (decide_eq_true h)
    · exact .inr (decide_eq_true h)
  rw [this, Bool.true_and]

theorem isNum_no {l : List UInt8} (h0 : 1 < l.length) (h1 : l.head? = some 48) : isNum l = false := by
  unfold isNum
  rw [decide_eq_false (show ¬ l.length ≤ 1 by omega), decide_eq_false (show ¬ l.head? ≠ some 48 by simp [h1]), Bool.or_false, Bool.and_false, Bool.false_and]

theorem head_bt {x : ByteArray} (h : 0 < x.size) : x.data.toList.head? = some 48 ↔ bt x 0 = 48 := by
  have hl : 0 < x.data.toList.length := by simpa using h
  have e := bt_list (x := x) (i := 0) hl
  have e0 : ((0 : Nat) : Int) = 0 := rfl
  rw [e0] at e
  rw [e, List.head?_eq_getElem?, List.getElem?_eq_getElem hl]
  constructor
  · intro h2
    rw [Option.some.inj h2]
    rfl
  · intro h2
    congr 1
    apply UInt8.toNat_inj.1
    have : (48 : UInt8).toNat = 48 := rfl
    omega

def decn (x : ByteArray) : Int × Bool := if (isNum x.data.toList && decide (x.size ≤ 9)) = true then ((val x.data.toList : Int), true) else (0, false)

theorem pow_nine {i : Nat} (h : i ≤ 9) : 10 ^ i ≤ 1000000000 := Nat.pow_le_pow_right (n := 10) (by decide) h

theorem ev_impl_decimal (x : ByteArray) : EvP (fun k => impl_decimal.f k x) (· = decn x) := by
  have hlen : x.data.toList.length = x.size := by simp
  have key : x.size ≤ 9 → ∀ i, i ≤ x.size → ∀ n : Nat, n + 1 ≤ 10 ^ i → EvP (fun k => impl_decimal.l0 k x (n : Int) (x.size : Int) i) (· = if ((x.data.toList.drop i).all digit) = true then ((((x.data.toList.drop i).foldl valF n : Nat) : Int), true) else (0, false)) := by
    intro h9
    refine upInd ?_ ?_
    · intro n hn
      refine EvP.succ ?_
      simp only [impl_decimal.l0]
      refine EvP.neg (by omega) (EvP.ret _ ?_)
      rw [← hlen, List.drop_length]
      rfl
    · intro i hi ih n hn
      refine EvP.succ ?_
      simp only [impl_decimal.l0]
      have hi2 : i < x.data.toList.length := by omega
      have hb := bt_list hi2
      have hp := pow_nine (i := i) (by omega)
      have hp2 : 10 ^ (i + 1) = 10 ^ i * 10 := Nat.pow_succ 10 i
      have hc : (x.data.toList[i]).toNat < 256 := UInt8.toNat_lt _
      rw [List.drop_eq_getElem_cons hi2, List.all_cons, List.foldl_cons, hb, w64s hi (by omega)]
      generalize x.data.toList[i] = c at hc
      refine EvP.pos (by omega) (EvP.pos (by omega) (EvP.pos (by omega) (EvP.ite (fun h => EvP.ret _ ?_) (fun h => EvP.ite (fun h2 => EvP.ret _ ?_) (fun h2 => ?_)))))
      · have : digit c = false := decide_eq_false (by omega)
        rw [this, Bool.false_and]
        rfl
      · have : digit c = false := decide_eq_false (by omega)
        rw [this, Bool.false_and]
        rfl
      · have : digit c = true := decide_eq_true (by omega)
        rw [this, Bool.true_and]
        have e : wrap64 ((wrap64 (10 * (n : Int))) + (((c.toNat : Int) - 48) % 256)) = ((valF n c : Nat) : Int) := by
          unfold valF
          rw [w64 (n := 10 * (n : Int)) (by omega) (by omega), w64 (by omega) (by omega)]
          omega
        rw [e]
        exact ih (valF n c) (by unfold valF; omega)
  have bad : EvP (fun k => impl_decimal.j0 k x true) (· = (0, false)) := by
    refine EvP.succ ?_
    simp only [impl_decimal.j0]
    exact EvP.pos trivial (EvP.ret _ rfl)
  have good : 0 < x.size → x.size ≤ 9 → (x.data.toList.length ≤ 1 ∨ x.data.toList.head? ≠ some 48) → EvP (fun k => impl_decimal.j0 k x false) (· = decn x) := by
    intro h0 h8 h1
    refine EvP.succ ?_
    simp only [impl_decimal.j0]
    refine EvP.neg (by simp) ((key (by omega) 0 (by omega) 0 (by simp)).mono (fun r hr => ?_))
    rw [hr, List.drop_zero]
    unfold decn
    rw [isNum_ok (by intro e; rw [e] at hlen; simp at hlen; omega) h1, decide_eq_true h8, Bool.and_true]
    rfl
  unfold impl_decimal.f
  refine EvP.ite (fun h => bad.mono (fun r hr => ?_)) (fun h => EvP.ite (fun h2 => bad.mono (fun r hr => ?_)) (fun h2 => EvP.ite (fun h3 => EvP.pos (by omega) ?_) (fun h3 => good ?_ (by omega) (.inl (by omega)))))
  · have e0 := congrArg List.length h
    rw [list_size, List.length_nil] at e0
    have e : x.data.toList = [] := List.eq_nil_of_length_eq_zero (by omega)
    unfold decn
    rw [hr, e]
    rfl
  · unfold decn
    rw [hr, decide_eq_false (show ¬ x.size ≤ 9 by omega), Bool.and_false]
    rfl
  · by_cases h4 : bt x 0 = 48
    · have e : (bt x 0 == 48) = true := beq_iff_eq.2 h4
      rw [e]
      refine bad.mono (fun r hr => ?_)
      unfold decn
      rw [hr, isNum_no (by omega) ((head_bt (by omega)).2 h4), Bool.false_and]
      rfl
    · have e : (bt x 0 == 48) = false := beq_eq_false_iff_ne.2 h4
      rw [e]
      exact good (by omega) (by omega) (.inr (fun h5 => h4 ((head_bt (by omega)).1 h5)))
  · rcases Nat.eq_zero_or_pos x.size with e | e
    · exact absurd (List.eq_nil_of_length_eq_zero (by rw [list_size]; exact e)) h
    · exact e

theorem dec_list (n : Nat) : (dec (n : Int)).data.toList = Lib.decDigits n := by
  unfold dec Lib.itoa
  rw [if_neg (by omega), Int.toNat_natCast]

theorem decn_dec {n : Nat} (h : n ≤ 1000001) : decn (dec (n : Int)) = ((n : Int), true) := by
  have hl := dig_len 7 n (by omega)
  have hs : (dec (n : Int)).size ≤ 9 := by
    have := congrArg List.length (dec_list n)
    have e : (dec (n : Int)).data.toList.length = (dec (n : Int)).size := by simp
    omega
  unfold decn
  rw [dec_list, num_dig, decide_eq_true hs, val_dig]
  rfl

theorem dec_of {x : ByteArray} (h : (decn x).2 = true) : ∃ n : Nat, x = dec (n : Int) ∧ decn x = ((n : Int), true) := by
  unfold decn at h ⊢
  split at h
  · rename_i hc
    rw [if_pos hc]
    rw [Bool.and_eq_true] at hc
    refine ⟨val x.data.toList, ?_, rfl⟩
    apply ByteArray.ext
    apply Array.toList_inj.1
    rw [dec_list, dig_val _ _ rfl hc.1]
  · cases h

theorem mk_list (x : ByteArray) : (⟨x.data.toList.toArray⟩ : ByteArray) = x := by apply ByteArray.ext; simp

/-- Texts joined with blanks. -/
def joinB (l : List ByteArray) : ByteArray := ⟨(Lib.join (l.map (·.data.toList)) (⟨#[32]⟩ : ByteArray).data.toList).toArray⟩

def joinT (a : ByteArray) : List ByteArray → ByteArray
  | [] => a
  | t :: r => joinT ((a ++ (⟨#[32]⟩ : ByteArray)) ++ t) r
theorem joinT_eq : ∀ (r : List ByteArray) (a : ByteArray), (joinT a r).data.toList = a.data.toList ++ Lib.joinTail (⟨#[32]⟩ : ByteArray).data.toList (r.map (·.data.toList))
  | [], a => by simp [joinT, Lib.joinTail]
  | t :: r, a => by
    rw [joinT, joinT_eq r]
    simp [Lib.joinTail]
theorem joinB_nil : joinB [] = ⟨#[]⟩ := by
  unfold joinB
  rw [List.map_nil, Lib.join_nil]
theorem joinB_cons (a t : ByteArray) (r : List ByteArray) : joinT (a ++ t) r = a ++ joinB (t :: r) := by
  apply ByteArray.ext
  apply Array.toList_inj.1
  rw [joinT_eq]
  unfold joinB
  rw [List.map_cons, Lib.join_cons]
  simp

theorem joinT_size : ∀ (r : List ByteArray) (a : ByteArray), (joinT a r).size = a.size + (r.map fun t => t.size + 1).sum
  | [], a => by simp [joinT]
  | t :: r, a => by
    rw [joinT, joinT_size r]
    have : (⟨#[32]⟩ : ByteArray).size = 1 := rfl
    simp only [ByteArray.size_append, List.map_cons, List.sum_cons]
    omega
theorem joinB_size : ∀ (l : List ByteArray), (joinB l).size ≤ (l.map fun t => t.size + 1).sum
  | [] => by rw [joinB_nil]; exact Nat.zero_le _
  | t :: r => by
    have h := joinB_cons ⟨#[]⟩ t r
    have h0 : (⟨#[]⟩ : ByteArray).size = 0 := rfl
    have h2 := congrArg ByteArray.size h
    rw [joinT_size, ByteArray.size_append, ByteArray.size_append] at h2
    simp only [List.map_cons, List.sum_cons]
    omega

-- The text of a value.
mutual
def vtext : S27 → ByteArray
  | ⟨t, n, ps, _⟩ => if t.toList = [110] then dec n else if t.toList = [98] then (if n = 0 then ⟨#[45]⟩ else ⟨#[43]⟩) else if t.toList = [111] then (⟨#[64]⟩ : ByteArray) ++ dec n else ((t ++ (⟨#[40]⟩ : ByteArray)) ++ joinB (vtextS ps)) ++ (⟨#[41]⟩ : ByteArray)
def vtextS : List S27 → List ByteArray
  | [] => []
  | x :: xs => vtext x :: vtextS xs
end
theorem vtextS_map : ∀ xs, vtextS xs = xs.map vtext
  | [] => by simp [vtextS]
  | x :: xs => by simp [vtextS, vtextS_map xs]
theorem vtext_eq (t : ByteArray) (n : Int) (ps : List S27) (path : List Int) : vtext ⟨t, n, ps, path⟩ = if t.toList = [110] then dec n else if t.toList = [98] then (if n = 0 then ⟨#[45]⟩ else ⟨#[43]⟩) else if t.toList = [111] then (⟨#[64]⟩ : ByteArray) ++ dec n else ((t ++ (⟨#[40]⟩ : ByteArray)) ++ joinB (ps.map vtext)) ++ (⟨#[41]⟩ : ByteArray) := by
  rw [vtext, vtextS_map]

/-- What a value that fits is: one of the three plain ones, or a record (fits_parts: its parts fit). -/
theorem fits_open {K : Kinds} {t : ByteArray} {n : Int} {ps : List S27} {path : List Int} (h : fits K ⟨t, n, ps, path⟩ = true) :
    (t.toList = [110] ∧ 0 ≤ n ∧ n ≤ 1000000) ∨ (t.toList ≠ [110] ∧ t.toList = [98] ∧ (n = 0 ∨ n = 1)) ∨ (t.toList ≠ [110] ∧ t.toList ≠ [98] ∧ t.toList = [111] ∧ 0 ≤ n ∧ n < 4) ∨ (t.toList ≠ [110] ∧ t.toList ≠ [98] ∧ t.toList ≠ [111] ∧ t.size = 3 ∧ ∀ y ∈ ps, fits K y = true) := by
  rw [fits_eq, Bool.and_eq_true] at h
  have h3 := h.2
  by_cases h4 : t.toList = [110]
  · rw [if_pos (by unfold isBase; rw [h4]; rfl), Bool.and_eq_true] at h3
    have h5 := h3.1
    unfold baseFits at h5
    rw [if_pos h4] at h5
    exact .inl ⟨h4, of_decide_eq_true h5⟩
  · by_cases h5 : t.toList = [98]
    · rw [if_pos (by unfold isBase; rw [h5]; rfl), Bool.and_eq_true] at h3
      have h6 := h3.1
      unfold baseFits at h6
      rw [if_neg h4, if_pos h5] at h6
      exact .inr (.inl ⟨h4, h5, of_decide_eq_true h6⟩)
    · by_cases h6 : t.toList = [111]
      · rw [if_pos (by unfold isBase; rw [h6]; rfl), Bool.and_eq_true] at h3
        have h7 := h3.1
        unfold baseFits at h7
        rw [if_neg h4, if_neg h5] at h7
        exact .inr (.inr (.inl ⟨h4, h5, h6, of_decide_eq_true h7⟩))
      · have hb : isBase t = false := by
          unfold isBase
          rw [beq_eq_false_iff_ne.2 h4, beq_eq_false_iff_ne.2 h5, beq_eq_false_iff_ne.2 h6]
          rfl
        rw [if_neg (by rw [hb]; simp)] at h3
        cases hg : kGet K t with
        | none => rw [hg] at h3; cases h3
        | some x =>
          rw [hg] at h3
          simp only [Bool.and_eq_true] at h3
          obtain ⟨a, b, hk, _⟩ := kGet_some hg
          have hs : t.size = 3 := by
            unfold kAt at hk
            split at hk
            · rename_i hc; exact hc.1
            · cases hk
          exact .inr (.inr (.inr ⟨h4, h5, h6, hs, fitsS_mem K ps _ h3.2.2⟩))

theorem dec_pos (n : Nat) : 1 ≤ (dec (n : Int)).size := by
  by_cases h : n < 10
  · rw [dec_small h]
    exact Nat.le_refl 1
  · rw [dec_step h, ByteArray.size_append]
    have h2 : (dec ((n % 10 : Nat) : Int)).size = 1 := by rw [dec_small (by omega)]; rfl
    omega

theorem vtext_size (K : Kinds) (x : S27) : fits K x = true → 1 ≤ (vtext x).size ∧ (vtext x).size + 1 ≤ 1000010 * vsize x := by
  refine ival_ind (P := fun x => fits K x = true → 1 ≤ (vtext x).size ∧ (vtext x).size + 1 ≤ 1000010 * vsize x) ?_ x
  intro t n ps path ih hf
  rw [vtext_eq, vsize_eq]
  have c1 : (⟨#[64]⟩ : ByteArray).size = 1 := rfl
  have c2 : (⟨#[40]⟩ : ByteArray).size = 1 := rfl
  have c3 : (⟨#[41]⟩ : ByteArray).size = 1 := rfl
  rcases fits_open hf with ⟨h1, h2, h3⟩ | ⟨h0, h1, h2⟩ | ⟨h0, h4, h1, h2, h3⟩ | ⟨h1, h2, h3, h4, h5⟩
  · rw [if_pos h1]
    have sa := dec_size n.toNat
    have sb := dec_pos n.toNat
    rw [show ((n.toNat : Nat) : Int) = n by omega] at sa sb
    omega
  · rw [if_neg h0, if_pos h1]
    have e1 : (⟨#[45]⟩ : ByteArray).size = 1 := rfl
    have e2 : (⟨#[43]⟩ : ByteArray).size = 1 := rfl
    split <;> omega
  · rw [if_neg h0, if_neg h4, if_pos h1, ByteArray.size_append, c1]
    have sa := dec_size n.toNat
    rw [show ((n.toNat : Nat) : Int) = n by omega] at sa
    omega
  · rw [if_neg h1, if_neg h2, if_neg h3]
    simp only [ByteArray.size_append, c2, c3, h4]
    have hj := joinB_size (ps.map vtext)
    have hl : ∀ l : List S27, (∀ y ∈ l, (vtext y).size + 1 ≤ 1000010 * vsize y) → (((l.map vtext).map fun t => t.size + 1).sum) ≤ 1000010 * (l.map vsize).sum := by
      intro l hl
      induction l with
      | nil => simp
      | cons y ys ihl =>
        have h1 := hl y (by simp)
        have h2 := ihl (fun z hz => hl z (by simp [hz]))
        simp only [List.map_cons, List.sum_cons]
        omega
    have := hl ps (fun y hy => (ih y hy (h5 y hy)).2)
    omega

theorem vsum_get : ∀ (ps : List S27) (i : Nat) (h : i < ps.length), vsize ps[i] ≤ (ps.map vsize).sum
  | p :: ps, 0, _ => by simp only [List.getElem_cons_zero, List.map_cons, List.sum_cons]; omega
  | p :: ps, i + 1, h => by
    have := vsum_get ps i (by simpa using h)
    simp only [List.getElem_cons_succ, List.map_cons, List.sum_cons]
    omega

theorem two_of {n : Int} (h : n = 0 ∨ n = 1) : rdOf ByteArray.empty [(⟨#[45]⟩ : ByteArray), (⟨#[43]⟩ : ByteArray)] n = (if n = 0 then (⟨#[45]⟩ : ByteArray) else ⟨#[43]⟩) := by
  rcases h with rfl | rfl <;> rfl

theorem ev_spec_l2Text (K : Kinds) (x : S27) : qVal x → fits K x = true → vsize x ≤ 2000000 → EvP (fun k => spec_l2Text.f k x.f0 x.f1 x.f2 x.f3) (· = vtext x) := by
  refine ival_ind (P := fun x => qVal x → fits K x = true → vsize x ≤ 2000000 → EvP (fun k => spec_l2Text.f k x.f0 x.f1 x.f2 x.f3) (· = vtext x)) ?_ x
  intro t n ps path ih hq hf hv
  have hsz := vtext_size K ⟨t, n, ps, path⟩ hf
  rw [qVal] at hq
  rw [vsize_eq] at hv hsz
  rw [vtext_eq] at hsz ⊢
  show EvP (fun k => spec_l2Text.f k t n ps path) _
  refine EvP.succ ?_
  simp only [spec_l2Text.f]
  have hd : 0 ≤ n → n ≤ 1000001 → EvP (fun k => spec_l6Dec.f k n) (· = dec n) := by
    intro h0 h1
    have := ev_dec_all n.toNat (by omega)
    rwa [show ((n.toNat : Nat) : Int) = n by omega] at this
  rcases fits_open hf with ⟨h1, h2, h3⟩ | ⟨h0, h1, h2⟩ | ⟨h0, h4, h1, h2, h3⟩ | ⟨h1, h2, h3, h4, h5⟩
  · rw [if_pos h1]
    exact EvP.pos h1 (EvP.bind (hd h2 (by omega)) (fun r hr => EvP.ret _ hr))
  · rw [if_neg h0, if_pos h1]
    refine EvP.neg h0 (EvP.pos h1 ?_)
    simp only [Option.bind_some]
    exact EvP.pos (by omega) (EvP.pos (by simp only [List.length_cons, List.length_nil]; omega) (EvP.ret _ (two_of h2)))
  · rw [if_neg h0, if_neg h4, if_pos h1] at hsz ⊢
    rw [ByteArray.size_append] at hsz
    have c1 : (⟨#[64]⟩ : ByteArray).size = 1 := rfl
    refine EvP.neg h0 (EvP.neg h4 (EvP.pos h1 (EvP.bind (hd h2 (by omega)) (fun r hr => ?_))))
    subst hr
    exact EvP.pos (by omega) (EvP.ret _ rfl)
  · rw [if_neg h1, if_neg h2, if_neg h3] at hsz ⊢
    refine EvP.neg h1 (EvP.neg h2 (EvP.neg h3 (EvP.pos (by omega) ?_)))
    simp only [ByteArray.size_append] at hsz
    have c2 : (⟨#[40]⟩ : ByteArray).size = 1 := rfl
    have c3 : (⟨#[41]⟩ : ByteArray).size = 1 := rfl
    have c4 : (⟨#[32]⟩ : ByteArray).size = 1 := rfl
    have tail : ∀ i, i ≤ ps.length → 1 ≤ i → ∀ a : ByteArray, joinT a ((ps.drop i).map vtext) = (t ++ (⟨#[40]⟩ : ByteArray)) ++ joinB (ps.map vtext) → EvP (fun k => spec_l2Text.l0 k a i t n ps path) (· = ((t ++ (⟨#[40]⟩ : ByteArray)) ++ joinB (ps.map vtext)) ++ (⟨#[41]⟩ : ByteArray)) := by
      refine upInd ?_ ?_
      · intro _ a ha
        have e : a = (t ++ (⟨#[40]⟩ : ByteArray)) ++ joinB (ps.map vtext) := by simpa [joinT] using ha
        subst e
        refine EvP.succ ?_
        simp only [spec_l2Text.l0]
        refine EvP.neg (by omega) (EvP.pos ?_ (EvP.ret _ rfl))
        simp only [ByteArray.size_append]
        omega
      · intro i hi ih2 hi1 a ha
        have has := congrArg ByteArray.size ha
        rw [List.drop_eq_getElem_cons hi, List.map_cons] at ha has
        rw [joinT_size] at has
        simp only [List.map_cons, List.sum_cons, ByteArray.size_append] at has
        refine EvP.succ ?_
        simp only [spec_l2Text.l0]
        have e : rd_T27 ps (i : Int) = ps[i] := getDn hi
        rw [e, w64s hi (by have := hq.1.1; omega)]
        have hvi := vsum_get ps i hi
        refine EvP.pos (by omega) (EvP.pos (by omega) (EvP.pos (by omega) (EvP.pos (by omega) ?_)))
        refine EvP.bind (ih _ (List.getElem_mem hi) (qValS_mem hq.1.2 _ (List.getElem_mem hi)) (h5 _ (List.getElem_mem hi)) (by omega)) (fun r hr => ?_)
        subst hr
        refine EvP.pos ?_ (ih2 (by omega) _ ha)
        simp only [ByteArray.size_append]
        omega
    refine EvP.succ ?_
    simp only [spec_l2Text.l0]
    cases ps with
    | nil =>
      refine EvP.neg (by simp) (EvP.pos ?_ (EvP.ret _ ?_))
      · simp only [ByteArray.size_append]; omega
      · rw [List.map_nil, joinB_nil]
        congr 1
        apply ByteArray.ext
        simp
    | cons p ps =>
      have e : rd_T27 (p :: ps) 0 = p := rfl
      have hvi := vsum_get (p :: ps) 0 (by simp)
      rw [List.getElem_cons_zero] at hvi
      rw [e]
      have hj := joinB_cons (t ++ (⟨#[40]⟩ : ByteArray)) (vtext p) (ps.map vtext)
      have has := congrArg ByteArray.size hj
      rw [joinT_size] at has
      simp only [ByteArray.size_append] at has
      rw [List.map_cons] at hsz
      refine EvP.pos (by simp only [List.length_cons]; omega) (EvP.neg (by omega) (EvP.pos (by omega) ?_))
      refine EvP.bind (ih _ (by simp) (qValS_mem hq.1.2 _ (by simp)) (h5 _ (by simp)) (by omega)) (fun r hr => ?_)
      subst hr
      refine EvP.pos (by simp only [ByteArray.size_append]; omega) ?_
      have w1 : wrap64 (0 + 1) = ((1 : Nat) : Int) := by rw [w64 (by omega) (by omega)]; rfl
      rw [w1]
      exact tail 1 (by simp) (by omega) _ (by rw [List.map_cons, ← hj]; rfl)

/-- A mark's text. -/
def mkD : Nat → Nat → ByteArray → ByteArray
  | 0, _, a => a
  | f + 1, n, a => if n = 0 then a else mkD f (n / 10) (strOfNums [(wrap64 (48 + ((n % 10 : Nat) : Int))) % 256] ++ a)
def mtx (n : Nat) : ByteArray := (⟨#[109]⟩ : ByteArray) ++ mkD n n ⟨#[]⟩

theorem ev_laws_markText_l0 : ∀ (f n : Nat) (a : ByteArray), n ≤ f → n ≤ 9000001 → a.size + n ≤ 27000000 → EvP (fun k => laws_markText.l0 k (n : Int) a) (· = (⟨#[109]⟩ : ByteArray) ++ mkD f n a)
  | 0, n, a, h, _, h2 => by
    refine EvP.succ ?_
    simp only [laws_markText.l0]
    exact EvP.neg (by omega) (EvP.pos (by omega) (EvP.ret _ rfl))
  | f + 1, n, a, h, h1, h2 => by
    refine EvP.succ ?_
    simp only [laws_markText.l0]
    refine EvP.ite (fun h3 => ?_) (fun h3 => EvP.pos (by omega) (EvP.ret _ ?_))
    · have e1 : wrap64 (Int.tdiv (n : Int) 10) = ((n / 10 : Nat) : Int) := by
        have : Int.tdiv (n : Int) 10 = ((n / 10 : Nat) : Int) := rfl
        rw [this, w64 (by omega) (by omega)]
      have e2 : Int.tmod (n : Int) 10 = ((n % 10 : Nat) : Int) := rfl
      have e3 : (strOfNums [(wrap64 (48 + ((n % 10 : Nat) : Int))) % 256]).size = 1 := rfl
      rw [e1, e2]
      simp only [Option.bind_some]
      have e4 : mkD (f + 1) n a = mkD f (n / 10) (strOfNums [(wrap64 (48 + ((n % 10 : Nat) : Int))) % 256] ++ a) := by rw [mkD, if_neg (by omega)]
      rw [e4]
      exact EvP.pos (by omega) (ev_laws_markText_l0 f (n / 10) _ (by omega) (by omega) (by rw [ByteArray.size_append]; omega))
    · have e : n = 0 := by omega
      subst e
      rw [mkD, if_pos rfl]
theorem ev_laws_markText (n : Nat) (h0 : 1 ≤ n) (h1 : n ≤ 9000001) : EvP (fun k => laws_markText.f k (n : Int)) (· = mtx n) := by
  unfold laws_markText.f mtx
  exact EvP.neg (by omega) (ev_laws_markText_l0 n n ⟨#[]⟩ (Nat.le_refl _) h1 (by have : (⟨#[]⟩ : ByteArray).size = 0 := rfl; omega))

def marks (a m : Nat) : List ByteArray := (List.range m).map fun j => mtx (a + j)
theorem marks_zero (a : Nat) : marks a 0 = [] := rfl
theorem marks_succ (a m : Nat) : marks a (m + 1) = mtx a :: marks (a + 1) m := by
  unfold marks
  rw [List.range_succ_eq_map, List.map_cons, List.map_map]
  congr 1
  apply List.map_congr_left
  intro j _
  show mtx (a + (j + 1)) = mtx (a + 1 + j)
  congr 1
  omega
theorem marks_len (a m : Nat) : (marks a m).length = m := by simp [marks]

theorem cut_mid {s : ByteArray} {A T R : List UInt8} (h : s.data.toList = A ++ (T ++ R)) : s.extract A.length (A.length + T.length) = ⟨T.toArray⟩ := by
  apply ByteArray.ext
  apply Array.toList_inj.1
  rw [ByteArray.data_extract, Array.toList_extract, h]
  simp [List.extract]
theorem cut_end {s : ByteArray} {A R : List UInt8} (h : s.data.toList = A ++ R) : s.extract A.length s.size = ⟨R.toArray⟩ := by
  have e : s.size = A.length + R.length := by
    have := congrArg List.length h
    simpa using this
  rw [e]
  exact cut_mid (R := []) (by rw [List.append_nil]; exact h)
theorem size_of_list {s : ByteArray} {A : List UInt8} (h : s.data.toList = A) : s.size = A.length := by
  have := congrArg List.length h
  simpa using this

-- cut_mid
theorem bt_mid {s : ByteArray} {A R : List UInt8} {c : UInt8} (h : s.data.toList = A ++ (c :: R)) : bt s (A.length : Int) = (c.toNat : Int) := by
  have hs := size_of_list h
  have hi : A.length < s.data.toList.length := by rw [h]; simp
  rw [bt_list hi]
  congr 2
  simp [h]

-- bt_mid
theorem eq_prefix (x : ByteArray) (c : UInt8) : strings_HasPrefix.f x ⟨#[c]⟩ = some (decide (x.data.toList.head? = some c)) := by
  have h1 : (⟨#[c]⟩ : ByteArray).size = 1 := rfl
  have e1 : (⟨#[c]⟩ : ByteArray).toList = [c] := by rw [ByteArray.toList_eq]
  unfold strings_HasPrefix.f stringslite_HasPrefix.f
  rw [h1]
  by_cases h : x.size = 0
  · have e : x.data.toList = [] := List.eq_nil_of_length_eq_zero (by simpa using h)
    rw [if_neg (by omega), e]
    rfl
  · rw [if_pos (by omega), if_pos (by omega), if_pos (by omega), e1]
    have h2 := first_byte (s := x) (by omega) c
    have h0 : 0 < x.data.toList.length := by
      have : x.data.toList.length = x.size := by simp
      omega
    have h3 := bt_list h0
    have h4 : x.data.toList.head? = some x.data.toList[0] := by rw [List.head?_eq_getElem?, List.getElem?_eq_getElem h0]
    have e2 : ((1 : Nat) : Int).toNat = 1 := rfl
    rw [e2]
    simp only [Option.bind_some, Option.some.injEq]
    rw [Bool.eq_iff_iff, beq_iff_eq, decide_eq_true_iff, h2, h4]
    have h5 : ((0 : Nat) : Int) = 0 := rfl
    rw [h5] at h3
    rw [h3]
    constructor
    · intro h6
      congr 1
      exact UInt8.toNat_inj.1 (by omega)
    · intro h6
      injection h6 with h6
      rw [h6]
theorem eq_sees (K : Kinds) {s : ByteArray} {A R : List UInt8} (h : s.data.toList = A ++ R) (hs : s.size ≤ 100000000000000) (c : UInt8) : impl_valueReader_sees.f K s (A.length : Int) ⟨#[c]⟩ = some (if R.head? = some c then (true, s, ((A.length + 1 : Nat) : Int)) else (false, s, (A.length : Int))) := by
  have e := size_of_list h
  rw [List.length_append] at e
  have h1 : (⟨#[c]⟩ : ByteArray).size = 1 := rfl
  unfold impl_valueReader_sees.f
  rw [if_pos (by omega), if_pos (by omega), Int.toNat_natCast, cut_end h, eq_prefix, h1]
  simp only [Option.bind_some, decide_eq_true_eq]
  split
  · rw [w64 (by omega) (by omega)]
    rfl
  · rfl
theorem sees_hit (K : Kinds) {s : ByteArray} {A R : List UInt8} {c : UInt8} (h : s.data.toList = A ++ (c :: R)) (hs : s.size ≤ 100000000000000) : impl_valueReader_sees.f K s (A.length : Int) ⟨#[c]⟩ = some (true, s, ((A.length + 1 : Nat) : Int)) := by
  rw [eq_sees K h hs c, if_pos (show (c :: R).head? = some c from rfl)]
theorem sees_no (K : Kinds) {s : ByteArray} {A R : List UInt8} {d : UInt8} (h : s.data.toList = A ++ (d :: R)) (hs : s.size ≤ 100000000000000) (c : UInt8) (hc : d ≠ c) : impl_valueReader_sees.f K s (A.length : Int) ⟨#[c]⟩ = some (false, s, (A.length : Int)) := by
  rw [eq_sees K h hs c, if_neg (show ¬ (d :: R).head? = some c from fun e => hc (Option.some.inj e))]

/-- What may stand behind a value in a text: nothing, a blank, a closing bracket. -/
def isStop (R : List UInt8) : Prop := R = [] ∨ R.head? = some 32 ∨ R.head? = some 41

/-- What may stand behind a number's digits. -/
def nstop (R : List UInt8) : Prop := ∀ c, R.head? = some c → digit c = false
theorem stop_n {R : List UInt8} (h : isStop R) : nstop R := by
  intro c hc
  rcases h with h | h | h
  · rw [h] at hc; cases hc
  · rw [h] at hc; injection hc with hc; rw [← hc]; rfl
  · rw [h] at hc; injection hc with hc; rw [← hc]; rfl

-- nstop bt_mid
theorem ev_numberG (K : Kinds) {s : ByteArray} {A D R : List UInt8} (h : s.data.toList = A ++ (D ++ R)) (hs : s.size ≤ 100000000000000) (hd : D.all digit = true) (hR : nstop R) : EvP (fun k => impl_valueReader_number.f k K s (A.length : Int)) (· = ((decn ⟨D.toArray⟩).1, (decn ⟨D.toArray⟩).2, s, ((A.length + D.length : Nat) : Int))) := by
  have e := size_of_list h
  rw [List.length_append, List.length_append] at e
  have fin : EvP (fun k => (impl_decimal.f k (s.extract ((A.length : Nat) : Int).toNat ((A.length + D.length : Nat) : Int).toNat)).bind fun b => (some (b.1, b.2, s, ((A.length + D.length : Nat) : Int)) : Option (Int × Bool × ByteArray × Int))) (· = ((decn ⟨D.toArray⟩).1, (decn ⟨D.toArray⟩).2, s, ((A.length + D.length : Nat) : Int))) := by
    rw [Int.toNat_natCast, Int.toNat_natCast, cut_mid h]
    refine EvP.bind (ev_impl_decimal _) (fun t ht => EvP.ret _ ?_)
    rw [ht]
  have key : ∀ i, i ≤ D.length → EvP (fun k => impl_valueReader_number.l0 k ((A.length + i : Nat) : Int) K s (A.length : Int)) (· = ((decn ⟨D.toArray⟩).1, (decn ⟨D.toArray⟩).2, s, ((A.length + D.length : Nat) : Int))) := by
    refine upInd ?_ ?_
    · refine EvP.succ ?_
      simp only [impl_valueReader_number.l0]
      cases R with
      | nil =>
        rw [List.length_nil] at e
        exact EvP.neg (by omega) (EvP.pos (by omega) (EvP.pos (by omega) (EvP.pos (by omega) fin)))
      | cons c R =>
        have hb : bt s ((A.length + D.length : Nat) : Int) = (c.toNat : Int) := by
          have := bt_mid (A := A ++ D) (R := R) (c := c) (s := s) (by rw [h, List.append_assoc])
          rwa [List.length_append] at this
        rw [List.length_cons] at e
        have hc : ¬ (48 ≤ c.toNat ∧ c.toNat ≤ 57) := of_decide_eq_false (hR c rfl)
        rw [hb]
        refine EvP.pos (by omega) (EvP.pos (by omega) ?_)
        by_cases h48 : 48 ≤ c.toNat
        · exact EvP.pos (by omega) (EvP.neg (by omega) (EvP.pos (by omega) (EvP.pos (by omega) (EvP.pos (by omega) fin))))
        · exact EvP.neg (by omega) (EvP.pos (by omega) (EvP.pos (by omega) (EvP.pos (by omega) fin)))
    · intro i hi ih
      refine EvP.succ ?_
      simp only [impl_valueReader_number.l0]
      have hb : bt s ((A.length + i : Nat) : Int) = ((D[i]).toNat : Int) := by
        have := bt_mid (A := A ++ D.take i) (R := D.drop (i + 1) ++ R) (c := D[i]) (s := s) (by
          rw [h, List.append_assoc]
          congr 1
          rw [← List.cons_append, ← List.append_assoc, ← List.drop_eq_getElem_cons hi, List.take_append_drop])
        rw [List.length_append, List.length_take, Nat.min_eq_left (by omega)] at this
        exact this
      have hdi : digit D[i] = true := List.all_eq_true.1 hd _ (List.getElem_mem hi)
      have hdi := of_decide_eq_true hdi
      rw [hb]
      have e1 : wrap64 (((A.length + i : Nat) : Int) + 1) = ((A.length + (i + 1) : Nat) : Int) := by rw [w64 (by omega) (by omega)]; omega
      rw [e1]
      exact EvP.pos (by omega) (EvP.pos (by omega) (EvP.pos (by omega) (EvP.pos (by omega) ih)))
  unfold impl_valueReader_number.f
  exact key 0 (by omega)

-- nstop
theorem ev_number (K : Kinds) {s : ByteArray} {A D R : List UInt8} (h : s.data.toList = A ++ (D ++ R)) (hs : s.size ≤ 100000000000000) (hd : D.all digit = true) (hR : isStop R) : EvP (fun k => impl_valueReader_number.f k K s (A.length : Int)) (· = ((decn ⟨D.toArray⟩).1, (decn ⟨D.toArray⟩).2, s, ((A.length + D.length : Nat) : Int))) := ev_numberG K h hs hd (stop_n hR)

-- fits_parts
theorem same_of {t : ByteArray} {c : UInt8} (h : t.toList = [c]) : t = ⟨#[c]⟩ := by
  apply ByteArray.ext
  apply Array.toList_inj.1
  rw [ByteArray.toList_eq] at h
  rw [h]
/-- What a value that fits is, wholly. -/
theorem fits_deep {K : Kinds} {t : ByteArray} {n : Int} {ps : List S27} {path : List Int} (h : fits K ⟨t, n, ps, path⟩ = true) : path = [] ∧
    ((t = ⟨#[110]⟩ ∧ ps = [] ∧ 0 ≤ n ∧ n ≤ 1000000) ∨ (t = ⟨#[98]⟩ ∧ ps = [] ∧ (n = 0 ∨ n = 1)) ∨ (t = ⟨#[111]⟩ ∧ ps = [] ∧ 0 ≤ n ∧ n < 4) ∨ (t.toList ≠ [110] ∧ t.toList ≠ [98] ∧ t.toList ≠ [111] ∧ n = 0 ∧ ∃ x, kGet K t = some x ∧ ps.length = x.f1.length ∧ ∀ y ∈ ps, fits K y = true)) := by
  rw [fits_eq, Bool.and_eq_true, beq_iff_eq] at h
  refine ⟨List.eq_nil_of_length_eq_zero h.1, ?_⟩
  have h3 := h.2
  by_cases h4 : t.toList = [110]
  · rw [if_pos (by unfold isBase; rw [h4]; rfl), Bool.and_eq_true, beq_iff_eq] at h3
    have h5 := h3.1
    unfold baseFits at h5
    rw [if_pos h4] at h5
    exact .inl ⟨same_of h4, List.eq_nil_of_length_eq_zero h3.2, of_decide_eq_true h5⟩
  · by_cases h5 : t.toList = [98]
    · rw [if_pos (by unfold isBase; rw [h5]; rfl), Bool.and_eq_true, beq_iff_eq] at h3
      have h6 := h3.1
      unfold baseFits at h6
      rw [if_neg h4, if_pos h5] at h6
      exact .inr (.inl ⟨same_of h5, List.eq_nil_of_length_eq_zero h3.2, of_decide_eq_true h6⟩)
    · by_cases h6 : t.toList = [111]
      · rw [if_pos (by unfold isBase; rw [h6]; rfl), Bool.and_eq_true, beq_iff_eq] at h3
        have h7 := h3.1
        unfold baseFits at h7
        rw [if_neg h4, if_neg h5] at h7
        exact .inr (.inr (.inl ⟨same_of h6, List.eq_nil_of_length_eq_zero h3.2, of_decide_eq_true h7⟩))
      · have hb : isBase t = false := by
          unfold isBase
          rw [beq_eq_false_iff_ne.2 h4, beq_eq_false_iff_ne.2 h5, beq_eq_false_iff_ne.2 h6]
          rfl
        rw [if_neg (by rw [hb]; simp)] at h3
        cases hg : kGet K t with
        | none => rw [hg] at h3; cases h3
        | some x =>
          rw [hg] at h3
          simp only [Bool.and_eq_true, beq_iff_eq] at h3
          exact .inr (.inr (.inr ⟨h4, h5, h6, of_decide_eq_true h3.1, x, rfl, h3.2.1, fitsS_mem K ps _ h3.2.2⟩))

-- bt_mid kAt
/-- The text of a record's name: three bytes, the first an S. -/
theorem kind_text {K : Kinds} {t : ByteArray} {x : Rec} (h : kGet K t = some x) : ∃ a b, t.data.toList = [83, a, b] := by
  obtain ⟨m, k, hk, _⟩ := kGet_some h
  unfold kAt at hk
  split at hk
  · rename_i hc
    have hl : t.data.toList.length = 3 := by
      have : t.data.toList.length = t.size := by simp
      omega
    match hm : t.data.toList, hl with
    | [c, a, b], _ =>
      refine ⟨a, b, ?_⟩
      have h0 := bt_mid (s := t) (A := []) (c := c) (R := [a, b]) (by rw [hm]; rfl)
      have h1 : ((([] : List UInt8).length : Nat) : Int) = 0 := rfl
      rw [h1, hc.2.1] at h0
      have h2 : c = 83 := UInt8.toNat_inj.1 (by have : (83 : UInt8).toNat = 83 := rfl; omega)
      rw [h2]
  · cases hk
theorem kind_not {K : Kinds} {e : ByteArray} {c : UInt8} {R : List UInt8} (h : e.data.toList = c :: R) (hc : c ≠ 83) : kGet K e = none := by
  unfold kGet kAt
  have h0 := bt_mid (s := e) (A := []) (c := c) (R := R) (by rw [h]; rfl)
  have h1 : ((([] : List UInt8).length : Nat) : Int) = 0 := rfl
  rw [h1] at h0
  rw [if_neg]
  · rfl
  · intro h2
    refine hc (UInt8.toNat_inj.1 ?_)
    have : (83 : UInt8).toNat = 83 := rfl
    omega

-- bt_mid kindText eq_sees
theorem ev_read_num (K : Kinds) {s : ByteArray} {A D R : List UInt8} (h : s.data.toList = A ++ (D ++ R)) (hs : s.size ≤ 100000000000000) (hd : D.all digit = true) (hR : isStop R) (hc : ∀ c, (D ++ R).head? = some c → digit c = true) : EvP (fun k => impl_valueReader_value.f k K s (A.length : Int)) (· = ((⟨#[110]⟩ : ByteArray), (decn ⟨D.toArray⟩).1, [], [], (decn ⟨D.toArray⟩).2, s, ((A.length + D.length : Nat) : Int))) := by
  have e := size_of_list h
  rw [List.length_append] at e
  have no : ∀ c : UInt8, digit c = false → impl_valueReader_sees.f K s (A.length : Int) ⟨#[c]⟩ = some (false, s, (A.length : Int)) := by
    intro c h1
    rw [eq_sees K h hs c, if_neg]
    intro h2
    rw [hc c h2] at h1
    cases h1
  have j0 : EvP (fun k => impl_valueReader_value.j0 k false K s (A.length : Int)) (· = ((⟨#[110]⟩ : ByteArray), (decn ⟨D.toArray⟩).1, [], [], (decn ⟨D.toArray⟩).2, s, ((A.length + D.length : Nat) : Int))) := by
    refine EvP.succ ?_
    simp only [impl_valueReader_value.j0]
    refine EvP.neg (by simp) (EvP.bind (ev_number K h hs hd hR) (fun t ht => EvP.ret _ ?_))
    rw [ht]
  refine EvP.succ ?_
  simp only [impl_valueReader_value.f]
  refine EvP.call (no 45 (by decide)) (EvP.neg (by simp) ?_)
  refine EvP.call (no 43 (by decide)) (EvP.neg (by simp) ?_)
  refine EvP.call (no 64 (by decide)) (EvP.neg (by simp) ?_)
  dsimp only
  have e3 : wrap64 ((A.length : Int) + 3) = ((A.length + 3 : Nat) : Int) := by rw [w64 (by omega) (by omega)]; rfl
  rw [e3]
  refine EvP.ite (fun hlt => ?_) (fun _ => j0)
  refine EvP.pos (by omega) (EvP.pos (by omega) (EvP.pos (by omega) ?_))
  refine EvP.call (eq_impl_kindIn K _) ?_
  cases hm : D ++ R with
  | nil => rw [hm, List.length_nil] at e; omega
  | cons c T =>
    have hT : s.data.toList = A ++ (((c :: T).take 3) ++ ((c :: T).drop 3)) := by rw [List.take_append_drop, ← hm]; exact h
    have hl3 : ((c :: T).take 3).length = 3 := by rw [hm] at e; rw [List.length_take]; omega
    have h4 := cut_mid hT
    rw [hl3] at h4
    have hk : kGet K (s.extract ((A.length : Nat) : Int).toNat ((A.length + 3 : Nat) : Int).toNat) = none := by
      rw [Int.toNat_natCast, Int.toNat_natCast, h4]
      refine kind_not (c := c) (R := T.take 2) rfl ?_
      have := of_decide_eq_true (hc c (by rw [hm]; rfl))
      intro h5
      rw [h5] at this
      have h6 : (83 : UInt8).toNat = 83 := rfl
      omega
    rw [hk]
    exact j0

-- joinT
theorem vtext_list (K : Kinds) (t : ByteArray) (n : Int) (ps : List S27) (path : List Int) (h1 : t.toList ≠ [110]) (h2 : t.toList ≠ [98]) (h3 : t.toList ≠ [111]) : (vtext ⟨t, n, ps, path⟩).data.toList = t.data.toList ++ (40 :: (Lib.join ((ps.map vtext).map (·.data.toList)) [32] ++ [41])) := by
  rw [vtext_eq, if_neg h1, if_neg h2, if_neg h3]
  unfold joinB
  simp
theorem tail_stop (l : List (List UInt8)) (R : List UInt8) : isStop (Lib.joinTail [32] l ++ (41 :: R)) := by
  cases l with
  | nil => exact .inr (.inr rfl)
  | cons x r => exact .inr (.inl rfl)
theorem tail_cons (x : List UInt8) (r : List (List UInt8)) (R : List UInt8) : Lib.joinTail [32] (x :: r) ++ R = 32 :: (x ++ (Lib.joinTail [32] r ++ R)) := by
  simp [Lib.joinTail]

-- eq_sees
-- isStop kindText
theorem ev_read (K : Kinds) {s : ByteArray} (hs : s.size ≤ 100000000000000) (x : S27) : fits K x = true → qVal x → ∀ A R : List UInt8, s.data.toList = A ++ ((vtext x).data.toList ++ R) → isStop R → EvP (fun k => impl_valueReader_value.f k K s (A.length : Int)) (· = (x.f0, x.f1, x.f2, x.f3, true, s, ((s.size - R.length : Nat) : Int))) := by
  refine ival_ind (P := fun x => fits K x = true → qVal x → ∀ A R : List UInt8, s.data.toList = A ++ ((vtext x).data.toList ++ R) → isStop R → EvP (fun k => impl_valueReader_value.f k K s (A.length : Int)) (· = (x.f0, x.f1, x.f2, x.f3, true, s, ((s.size - R.length : Nat) : Int)))) ?_ x
  intro t n ps path ih hf hq A R h hR
  obtain ⟨hp, hd⟩ := fits_deep hf
  subst hp
  rw [qVal] at hq
  show EvP _ (· = (t, n, ps, [], true, s, ((s.size - R.length : Nat) : Int)))
  have e := size_of_list h
  have digs : ∀ m : Nat, (dec (m : Int)).data.toList.all digit = true := fun m => by rw [dec_list]; exact all_dig m
  have digh : ∀ (m : Nat) (T : List UInt8), ∀ c, ((dec (m : Int)).data.toList ++ T).head? = some c → digit c = true := by
    intro m T c hc
    have h1 := dig_ne m
    have h2 := all_dig m
    rw [dec_list] at hc
    cases hm : Lib.decDigits m with
    | nil => exact absurd hm h1
    | cons a r =>
      rw [hm] at hc h2
      injection hc with hc
      rw [← hc]
      rw [List.all_cons, Bool.and_eq_true] at h2
      exact h2.1
  rcases hd with ⟨rfl, rfl, h2, h3⟩ | ⟨rfl, rfl, h2⟩ | ⟨rfl, rfl, h2, h3⟩ | ⟨h1, h2, h3, rfl, y, hy, hl, hps⟩
  · have ev : vtext ⟨⟨#[110]⟩, n, [], []⟩ = dec n := by rw [vtext_eq, if_pos (by rw [ByteArray.toList_eq])]
    have en : ((n.toNat : Nat) : Int) = n := by omega
    rw [ev] at h e
    rw [List.length_append, List.length_append] at e
    rw [← en] at h e ⊢
    refine (ev_read_num K h hs (digs _) hR (digh _ _)).mono (fun r hr => ?_)
    rw [hr, mk_list, decn_dec (by omega)]
    have : A.length + (dec ((n.toNat : Nat) : Int)).data.toList.length = s.size - R.length := by omega
    rw [this]
  · have nb : ¬ (⟨#[98]⟩ : ByteArray).toList = [110] := by rw [ByteArray.toList_eq]; decide
    rcases h2 with rfl | rfl
    · have ev : vtext ⟨⟨#[98]⟩, 0, [], []⟩ = ⟨#[45]⟩ := by rw [vtext_eq, if_neg nb, if_pos (by rw [ByteArray.toList_eq]), if_pos rfl]
      rw [ev] at h e
      rw [List.length_append, List.length_append] at e
      have h' : s.data.toList = A ++ (45 :: R) := h
      refine EvP.succ ?_
      simp only [impl_valueReader_value.f]
      have s1 := sees_hit K h' hs
      refine EvP.call s1 (EvP.pos rfl (EvP.ret _ ?_))
      have : A.length + 1 = s.size - R.length := by have : ((⟨#[45]⟩ : ByteArray).data.toList).length = 1 := rfl; omega
      rw [this]
    · have ev : vtext ⟨⟨#[98]⟩, 1, [], []⟩ = ⟨#[43]⟩ := by rw [vtext_eq, if_neg nb, if_pos (by rw [ByteArray.toList_eq]), if_neg (by decide)]
      rw [ev] at h e
      rw [List.length_append, List.length_append] at e
      have h' : s.data.toList = A ++ (43 :: R) := h
      refine EvP.succ ?_
      simp only [impl_valueReader_value.f]
      have s1 := sees_no K h' hs 45 (by decide)
      have s2 := sees_hit K h' hs
      refine EvP.call s1 (EvP.neg (by simp) (EvP.call s2 (EvP.pos rfl (EvP.ret _ ?_))))
      have : A.length + 1 = s.size - R.length := by have : ((⟨#[43]⟩ : ByteArray).data.toList).length = 1 := rfl; omega
      rw [this]
  · have nb : ¬ (⟨#[111]⟩ : ByteArray).toList = [110] := by rw [ByteArray.toList_eq]; decide
    have nc : ¬ (⟨#[111]⟩ : ByteArray).toList = [98] := by rw [ByteArray.toList_eq]; decide
    have ev : (vtext ⟨⟨#[111]⟩, n, [], []⟩).data.toList = 64 :: (dec n).data.toList := by
      rw [vtext_eq, if_neg nb, if_neg nc, if_pos (by rw [ByteArray.toList_eq])]
      simp
    have en : ((n.toNat : Nat) : Int) = n := by omega
    rw [ev] at h e
    rw [← en] at h e ⊢
    simp only [List.length_append, List.length_cons] at e
    have h' : s.data.toList = A ++ (64 :: ((dec ((n.toNat : Nat) : Int)).data.toList ++ R)) := h
    have h'' : s.data.toList = (A ++ [64]) ++ ((dec ((n.toNat : Nat) : Int)).data.toList ++ R) := by rw [h', List.append_assoc]; rfl
    refine EvP.succ ?_
    simp only [impl_valueReader_value.f]
    have s1 := sees_no K h' hs 45 (by decide)
    have s2 := sees_no K h' hs 43 (by decide)
    have s3 := sees_hit K h' hs
    have el : (A ++ [(64 : UInt8)]).length = A.length + 1 := by simp
    have hn := ev_number K h'' hs (digs _) hR
    rw [el] at hn
    refine EvP.call s1 (EvP.neg (by simp) (EvP.call s2 (EvP.neg (by simp) (EvP.call s3 (EvP.pos rfl (EvP.bind hn (fun r hr => EvP.ret _ ?_)))))))
    rw [hr, mk_list, decn_dec (by omega)]
    have : A.length + 1 + (dec ((n.toNat : Nat) : Int)).data.toList.length = s.size - R.length := by omega
    rw [this]
  · obtain ⟨a, b, ht⟩ := kind_text hy
    have htl : t = ⟨([83, a, b] : List UInt8).toArray⟩ := by rw [← ht]
    have hnm : ∀ y : S27, (⟨y.f0, y.f1, y.f2, y.f3⟩ : S27) = y := fun y => by cases y; rfl
    rw [vtext_list K t 0 ps [] h1 h2 h3, ht] at h
    clear e
    generalize hJ : (ps.map vtext).map (·.data.toList) = L at h
    have h0 : s.data.toList = A ++ (83 :: (a :: b :: 40 :: (Lib.join L [32] ++ (41 :: R)))) := by rw [h]; simp
    have h4 : s.data.toList = (A ++ [83, a, b]) ++ (40 :: (Lib.join L [32] ++ (41 :: R))) := by rw [h0]; simp
    have h5 : s.data.toList = (A ++ [83, a, b, 40]) ++ (Lib.join L [32] ++ (41 :: R)) := by rw [h0]; simp
    have e0 := size_of_list h0
    simp only [List.length_append, List.length_cons] at e0
    have el : (A ++ [(83 : UInt8), a, b]).length = A.length + 3 := by simp
    have el4 : (A ++ [(83 : UInt8), a, b, 40]).length = A.length + 4 := by simp
    have e3 : wrap64 ((A.length : Int) + 3) = ((A.length + 3 : Nat) : Int) := by rw [w64 (by omega) (by omega)]; rfl
    have hx : s.extract ((A.length : Nat) : Int).toNat ((A.length + 3 : Nat) : Int).toNat = t := by
      have := cut_mid (s := s) (A := A) (T := [83, a, b]) (R := 40 :: (Lib.join L [32] ++ (41 :: R))) (by rw [h0]; simp)
      rw [Int.toNat_natCast, Int.toNat_natCast, htl]
      exact this
    have close : ∀ (A' : List UInt8), s.data.toList = A' ++ (41 :: R) → EvP (fun k => (impl_valueReader_sees.f K s (A'.length : Int) (⟨#[41]⟩ : ByteArray)).bind fun bt => (some (t, 0, ps, ([] : List Int), bt.1, bt.2.1, bt.2.2) : Option (ByteArray × Int × (List S27) × List Int × Bool × ByteArray × Int))) (· = (t, 0, ps, [], true, s, ((s.size - R.length : Nat) : Int))) := by
      intro A' hA
      have s1 := sees_hit K hA hs
      have e1 := size_of_list hA
      rw [List.length_append, List.length_cons] at e1
      refine EvP.call s1 (EvP.ret _ ?_)
      have : A'.length + 1 = s.size - R.length := by omega
      rw [this]
    have tail : ∀ j, j ≤ ps.length → 1 ≤ j → ∀ (A' : List UInt8) (acc : List S27), acc ++ ps.drop j = ps → s.data.toList = A' ++ (Lib.joinTail [32] (L.drop j) ++ (41 :: R)) → EvP (fun k => impl_valueReader_value.l0 k (ps.length : Int) j K s (A'.length : Int) t 0 acc) (· = (t, 0, ps, [], true, s, ((s.size - R.length : Nat) : Int))) := by
      refine upInd ?_ ?_
      · intro _ A' acc hacc hA
        have ea : acc = ps := by simpa using hacc
        subst ea
        have eL : L.drop acc.length = [] := by rw [← hJ]; simp
        rw [eL] at hA
        refine EvP.succ ?_
        simp only [impl_valueReader_value.l0]
        exact EvP.neg (by omega) (close A' hA)
      · intro j hj ih2 h1j A' acc hacc hA
        have hll := congrArg List.length hacc
        rw [List.length_append, List.length_drop] at hll
        rw [List.drop_eq_getElem_cons hj] at hacc
        have eL : L.drop j = (vtext ps[j]).data.toList :: L.drop (j + 1) := by
          rw [← hJ, List.drop_eq_getElem_cons (by simpa using hj)]
          simp
        rw [eL, tail_cons] at hA
        have e1 := size_of_list hA
        simp only [List.length_append, List.length_cons] at e1
        refine EvP.succ ?_
        simp only [impl_valueReader_value.l0]
        have s1 := sees_hit K hA hs
        refine EvP.pos (by omega) (EvP.pos (by omega) (EvP.call s1 (EvP.succ ?_)))
        simp only [impl_valueReader_value.j2]
        have hA2 : s.data.toList = (A' ++ [32]) ++ ((vtext ps[j]).data.toList ++ (Lib.joinTail [32] (L.drop (j + 1)) ++ (41 :: R))) := by rw [hA]; simp
        have hv := ih _ (List.getElem_mem hj) (hps _ (List.getElem_mem hj)) (qValS_mem hq.1.2 _ (List.getElem_mem hj)) (A' ++ [32]) _ hA2 (tail_stop _ _)
        have el1 : (A' ++ [(32 : UInt8)]).length = A'.length + 1 := by simp
        rw [el1] at hv
        refine EvP.neg (by simp) (EvP.bind hv (fun r hr => ?_))
        subst hr
        refine EvP.pos rfl (EvP.pos (by have := hq.1.1; omega) ?_)
        rw [hnm, w64s hj (by have := hq.1.1; omega)]
        have hA3 : s.data.toList = ((A' ++ [32]) ++ (vtext ps[j]).data.toList) ++ (Lib.joinTail [32] (L.drop (j + 1)) ++ (41 :: R)) := by rw [hA2]; simp
        have ep : s.size - (Lib.joinTail [32] (L.drop (j + 1)) ++ (41 :: R)).length = ((A' ++ [32]) ++ (vtext ps[j]).data.toList).length := by
          simp only [List.length_append, List.length_cons, List.length_nil]
          omega
        rw [ep]
        exact ih2 (by omega) _ _ (by rw [List.append_assoc]; exact hacc) hA3
    have head : EvP (fun k => impl_valueReader_value.l0 k (ps.length : Int) 0 K s ((A.length + 4 : Nat) : Int) t 0 []) (· = (t, 0, ps, [], true, s, ((s.size - R.length : Nat) : Int))) := by
      refine EvP.succ ?_
      simp only [impl_valueReader_value.l0]
      cases ps with
      | nil =>
        have eL : L = [] := by rw [← hJ]; rfl
        subst eL
        rw [← el4]
        exact EvP.neg (by simp) (close _ h5)
      | cons p ps =>
        have eL : L = (vtext p).data.toList :: L.drop 1 := by rw [← hJ]; rfl
        have hA2 : s.data.toList = (A ++ [83, a, b, 40]) ++ ((vtext p).data.toList ++ (Lib.joinTail [32] (L.drop 1) ++ (41 :: R))) := by
          rw [h5, eL, Lib.join_cons]
          simp
        have e1 := size_of_list hA2
        simp only [List.length_append, List.length_cons] at e1
        have hv := ih p (by simp) (hps _ (by simp)) (qValS_mem hq.1.2 _ (by simp)) _ _ hA2 (tail_stop _ _)
        rw [el4] at hv
        refine EvP.pos (by simp only [List.length_cons]; omega) (EvP.neg (by omega) (EvP.succ ?_))
        simp only [impl_valueReader_value.j2]
        refine EvP.neg (by simp) (EvP.bind hv (fun r hr => ?_))
        subst hr
        refine EvP.pos rfl (EvP.pos (by simp) ?_)
        have hA3 : s.data.toList = ((A ++ [83, a, b, 40]) ++ (vtext p).data.toList) ++ (Lib.joinTail [32] (L.drop 1) ++ (41 :: R)) := by rw [hA2]; simp
        have ep : s.size - (Lib.joinTail [32] (L.drop 1) ++ (41 :: R)).length = ((A ++ [83, a, b, 40]) ++ (vtext p).data.toList).length := by
          simp only [List.length_append, List.length_cons, List.length_nil]
          simp only [List.length_append, List.length_cons, List.length_nil] at e1
          omega
        have w1 : wrap64 (0 + 1) = ((1 : Nat) : Int) := by rw [w64 (by omega) (by omega)]; rfl
        rw [ep, hnm, w1]
        exact tail 1 (by simp) (by omega) _ _ rfl hA3
    refine EvP.succ ?_
    simp only [impl_valueReader_value.f]
    have s1 := sees_no K h0 hs 45 (by decide)
    have s2 := sees_no K h0 hs 43 (by decide)
    have s3 := sees_no K h0 hs 64 (by decide)
    refine EvP.call s1 (EvP.neg (by simp) (EvP.call s2 (EvP.neg (by simp) (EvP.call s3 (EvP.neg (by simp) ?_)))))
    dsimp only
    rw [e3]
    refine EvP.pos (by omega) (EvP.pos (by omega) (EvP.pos (by omega) (EvP.pos (by omega) ?_)))
    rw [hx]
    refine EvP.call (eq_impl_kindIn K t) ?_
    rw [hy]
    refine EvP.succ ?_
    simp only [impl_valueReader_value.j0]
    rw [e3, hx]
    have s4 := sees_hit K h4 hs
    rw [el] at s4
    refine EvP.pos rfl (EvP.pos (by omega) (EvP.pos (by omega) (EvP.pos (by omega) (EvP.call s4 (EvP.pos rfl (EvP.call (eq_impl_recordOf K t y hy) ?_))))))
    dsimp only
    rw [← hl]
    exact head

-- nstop
theorem dig_split : ∀ R : List UInt8, ∃ D R', R = D ++ R' ∧ D.all digit = true ∧ nstop R'
  | [] => ⟨[], [], rfl, rfl, fun c h => by cases h⟩
  | c :: R => by
    by_cases hc : digit c = true
    · obtain ⟨D, R', h1, h2, h3⟩ := dig_split R
      exact ⟨c :: D, R', by rw [h1]; rfl, by rw [List.all_cons, hc, h2]; rfl, h3⟩
    · exact ⟨[], c :: R, rfl, rfl, fun d h => by injection h with h; rw [← h]; simpa using hc⟩
theorem head_some {R : List UInt8} {c : UInt8} (h : R.head? = some c) : ∃ R1, R = c :: R1 := by
  cases R with
  | nil => cases h
  | cons a r => injection h with h; exact ⟨r, by rw [h]⟩

-- dig_split
theorem num_any (K : Kinds) {s : ByteArray} {A R : List UInt8} (h : s.data.toList = A ++ R) (hs : s.size ≤ 100000000000000) : EvP (fun k => impl_valueReader_number.f k K s (A.length : Int)) (fun r => ∃ T R', s.data.toList = (A ++ T) ++ R' ∧ r.2.2 = (s, ((A ++ T).length : Int)) ∧ (r.2.1 = true → T = (dec r.1).data.toList)) := by
  obtain ⟨D, R', rfl, hd, hn⟩ := dig_split R
  refine (ev_numberG K h hs hd hn).mono (fun r hr => ?_)
  subst hr
  refine ⟨D, R', by rw [h, List.append_assoc], by rw [List.length_append], fun hok => ?_⟩
  obtain ⟨n, hn, hv⟩ := dec_of hok
  show D = (dec (decn ⟨D.toArray⟩).1).data.toList
  rw [hv]
  show D = (dec (n : Int)).data.toList
  rw [← hn]

theorem joinTail_snoc (s t : List UInt8) : ∀ l : List (List UInt8), Lib.joinTail s (l ++ [t]) = Lib.joinTail s l ++ (s ++ t)
  | [] => by simp [Lib.joinTail]
  | x :: l => by
    have := joinTail_snoc s t l
    simp [Lib.joinTail, this]
theorem join_snoc (t : List UInt8) {l : List (List UInt8)} (h : l ≠ []) : Lib.join (l ++ [t]) [32] = Lib.join l [32] ++ (32 :: t) := by
  cases l with
  | nil => exact absurd rfl h
  | cons x l =>
    rw [List.cons_append, Lib.join_cons, Lib.join_cons, joinTail_snoc]
    simp

theorem kGet_small {K : Kinds} (hK : kOk K = true) {t : ByteArray} {x : Rec} (h : kGet K t = some x) : x.f1.length ≤ 3 := by
  obtain ⟨a, b, _, ha, hb, rfl⟩ := kGet_some h
  exact (recOk_range (((kOk_all hK).2 a ha).2 b hb)).2.2

theorem qVal_flat (t : ByteArray) (n : Int) : qVal ⟨t, n, [], []⟩ := by
  rw [qVal]
  exact ⟨⟨by simp, by rw [qValS]; trivial⟩, by simp⟩
theorem qVal_parts {t : ByteArray} {n : Int} {ps : List S27} (h : ps.length ≤ 1048576) (hq : ∀ x ∈ ps, qVal x) : qVal ⟨t, n, ps, []⟩ := by
  rw [qVal]
  exact ⟨⟨h, qValS_of hq⟩, by simp⟩
theorem list_bytes {s : ByteArray} {l : List UInt8} (h : s.data.toList = l) : s.toList = l := by rw [ByteArray.toList_eq]; exact h

-- eq_sees num_any qVal_flat kindText
abbrev RdOut := ByteArray × Int × (List S27) × List Int × Bool × ByteArray × Int
/-- What the program's reader hands back: how far it came, and, if all is well, that it passed over the value's text. -/
def RdI (s : ByteArray) (A : List UInt8) (r : RdOut) : Prop := ∃ T R', s.data.toList = (A ++ T) ++ R' ∧ r.2.2.2.2.2 = (s, ((A ++ T).length : Int)) ∧ qVal ⟨r.1, r.2.1, r.2.2.1, r.2.2.2.1⟩ ∧ (r.2.2.2.2.1 = true → T = (vtext ⟨r.1, r.2.1, r.2.2.1, r.2.2.2.1⟩).data.toList)
theorem sees_miss (K : Kinds) {s : ByteArray} {A R : List UInt8} (h : s.data.toList = A ++ R) (hs : s.size ≤ 100000000000000) {c : UInt8} (hc : ¬ R.head? = some c) : impl_valueReader_sees.f K s (A.length : Int) ⟨#[c]⟩ = some (false, s, (A.length : Int)) := by
  rw [eq_sees K h hs c, if_neg hc]
theorem ev_read_any (K : Kinds) (hK : kOk K = true) {s : ByteArray} (hs : s.size ≤ 100000000000000) : ∀ (n : Nat) (A R : List UInt8), R.length = n → s.data.toList = A ++ R → EvP (fun k => impl_valueReader_value.f k K s (A.length : Int)) (RdI s A) := by
  intro n
  induction n using Nat.strongRecOn with
  | _ n ih =>
    intro A R hn h
    have e := size_of_list h
    rw [List.length_append] at e
    have b1 : (⟨#[98]⟩ : ByteArray).toList = [98] := by rw [ByteArray.toList_eq]
    have b2 : (⟨#[111]⟩ : ByteArray).toList = [111] := by rw [ByteArray.toList_eq]
    have j0f : EvP (fun k => impl_valueReader_value.j0 k false K s (A.length : Int)) (RdI s A) := by
      refine EvP.succ ?_
      simp only [impl_valueReader_value.j0]
      refine EvP.neg (by simp) (EvP.bind (num_any K h hs) (fun r hr => EvP.ret _ ?_))
      obtain ⟨T, R', h1, h2, h3⟩ := hr
      refine ⟨T, R', h1, h2, qVal_flat _ _, fun hok => ?_⟩
      rw [h3 hok, vtext_eq, if_pos (by rw [ByteArray.toList_eq])]
    refine EvP.succ ?_
    simp only [impl_valueReader_value.f]
    by_cases c1 : R.head? = some 45
    · obtain ⟨R1, rfl⟩ := head_some c1
      refine EvP.call (sees_hit K h hs) (EvP.pos rfl (EvP.ret _ ⟨[45], R1, by rw [h, List.append_assoc]; rfl, by rw [List.length_append]; rfl, qVal_flat _ _, fun _ => ?_⟩))
      rw [vtext_eq, b1, if_neg (by decide), if_pos rfl, if_pos rfl]
    refine EvP.call (sees_miss K h hs c1) (EvP.neg (by simp) ?_)
    by_cases c2 : R.head? = some 43
    · obtain ⟨R1, rfl⟩ := head_some c2
      refine EvP.call (sees_hit K h hs) (EvP.pos rfl (EvP.ret _ ⟨[43], R1, by rw [h, List.append_assoc]; rfl, by rw [List.length_append]; rfl, qVal_flat _ _, fun _ => ?_⟩))
      rw [vtext_eq, b1, if_neg (by decide), if_pos rfl, if_neg (show ¬ (1 : Int) = 0 by decide)]
    refine EvP.call (sees_miss K h hs c2) (EvP.neg (by simp) ?_)
    by_cases c3 : R.head? = some 64
    · obtain ⟨R1, rfl⟩ := head_some c3
      have h' : s.data.toList = (A ++ [64]) ++ R1 := by rw [h, List.append_assoc]; rfl
      have hn := num_any K h' hs
      have el : (A ++ [(64 : UInt8)]).length = A.length + 1 := by simp
      rw [el] at hn
      refine EvP.call (sees_hit K h hs) (EvP.pos rfl (EvP.bind hn (fun r hr => EvP.ret _ ?_)))
      obtain ⟨T, R', g1, g2, g3⟩ := hr
      refine ⟨64 :: T, R', by rw [g1]; simp, by rw [g2]; simp, qVal_flat _ _, fun hok => ?_⟩
      rw [vtext_eq, b2, if_neg (by decide), if_neg (by decide), if_pos rfl, ByteArray.data_append, Array.toList_append, ← g3 hok]
      rfl
    refine EvP.call (sees_miss K h hs c3) (EvP.neg (by simp) ?_)
    have e3 : wrap64 ((A.length : Int) + 3) = ((A.length + 3 : Nat) : Int) := by rw [w64 (by omega) (by omega)]; rfl
    dsimp only
    rw [e3]
    refine EvP.ite (fun hlt => ?_) (fun _ => j0f)
    obtain ⟨x0, x1, x2, x3, R4, rfl⟩ : ∃ x0 x1 x2 x3 R4, R = x0 :: x1 :: x2 :: x3 :: R4 := by
      match R, (show 4 ≤ R.length by omega) with
      | x0 :: x1 :: x2 :: x3 :: R4, _ => exact ⟨x0, x1, x2, x3, R4, rfl⟩
    refine EvP.pos (by omega) (EvP.pos (by omega) (EvP.pos (by omega) ?_))
    generalize ht : (⟨([x0, x1, x2] : List UInt8).toArray⟩ : ByteArray) = t
    have hx : s.extract ((A.length : Nat) : Int).toNat ((A.length + 3 : Nat) : Int).toNat = t := by
      have := cut_mid (s := s) (A := A) (T := [x0, x1, x2]) (R := x3 :: R4) (by rw [h]; rfl)
      rw [Int.toNat_natCast, Int.toNat_natCast, ← ht]
      exact this
    rw [hx]
    refine EvP.call (eq_impl_kindIn K t) ?_
    cases hg : kGet K t with
    | none => exact j0f
    | some x =>
      have hx3 := kGet_small hK hg
      have htl : t.toList = [x0, x1, x2] := by rw [← ht, ByteArray.toList_eq]
      have vt : ∀ acc : List S27, (vtext ⟨t, 0, acc, []⟩).data.toList = [x0, x1, x2] ++ (40 :: (Lib.join ((acc.map vtext).map (·.data.toList)) [32] ++ [41])) := fun acc => by
        rw [vtext_list K t 0 acc [] (by rw [htl]; simp) (by rw [htl]; simp) (by rw [htl]; simp), ← ht]
      have h4 : s.data.toList = (A ++ [x0, x1, x2]) ++ (x3 :: R4) := by rw [h]; simp
      have el : (A ++ [x0, x1, x2]).length = A.length + 3 := by simp
      refine EvP.succ ?_
      simp only [impl_valueReader_value.j0]
      rw [e3, hx]
      refine EvP.pos rfl (EvP.pos (by omega) (EvP.pos (by omega) (EvP.pos (by omega) ?_)))
      by_cases c4 : x3 = 40
      · subst c4
        have s4 := sees_hit K h4 hs
        rw [el] at s4
        have h5 : s.data.toList = (A ++ [x0, x1, x2, 40]) ++ R4 := by rw [h]; simp
        have el4 : (A ++ [x0, x1, x2, 40]).length = A.length + 4 := by simp
        refine EvP.call s4 (EvP.pos rfl (EvP.call (eq_impl_recordOf K t x hg) ?_))
        dsimp only
        have loop : ∀ d j, j + d = x.f1.length → ∀ (acc : List S27) (T' R' : List UInt8), acc.length = j → (∀ y ∈ acc, qVal y) → s.data.toList = ((A ++ [x0, x1, x2, 40]) ++ T') ++ R' → T' = Lib.join ((acc.map vtext).map (·.data.toList)) [32] →
            EvP (fun k => impl_valueReader_value.l0 k (x.f1.length : Int) j K s (((A ++ [x0, x1, x2, 40]) ++ T').length : Int) t 0 acc) (RdI s A) := by
          intro d
          induction d with
          | zero =>
            intro j hj acc T' R' hacc hq hT hJ
            refine EvP.succ ?_
            simp only [impl_valueReader_value.l0]
            refine EvP.neg (by omega) ?_
            by_cases c5 : R'.head? = some 41
            · obtain ⟨R1, rfl⟩ := head_some c5
              refine EvP.call (sees_hit K hT hs) (EvP.ret _ ⟨[x0, x1, x2, 40] ++ T' ++ [41], R1, by rw [hT]; simp, by simp [Nat.add_assoc], qVal_parts (show acc.length ≤ 1048576 by omega) hq, fun _ => ?_⟩)
              rw [vt acc, hJ]
              simp
            · refine EvP.call (sees_miss K hT hs c5) (EvP.ret _ ⟨[x0, x1, x2, 40] ++ T', R', by rw [hT]; simp, by simp, qVal_parts (show acc.length ≤ 1048576 by omega) hq, fun h => by cases h⟩)
          | succ d ihd =>
            intro j hj acc T' R' hacc hq hT hJ
            have j2 : ∀ (T2 R2 : List UInt8), s.data.toList = ((A ++ [x0, x1, x2, 40]) ++ T2) ++ R2 → (∀ v : S27, T2 ++ (vtext v).data.toList = Lib.join (((acc ++ [v]).map vtext).map (·.data.toList)) [32]) →
                EvP (fun k => impl_valueReader_value.j2 k (x.f1.length : Int) j false K s (((A ++ [x0, x1, x2, 40]) ++ T2).length : Int) t 0 acc) (RdI s A) := by
              intro T2 R2 hT2 hJ2
              have e2 := size_of_list hT2
              simp only [List.length_append, List.length_cons, List.length_nil] at e2 e hn
              refine EvP.succ ?_
              simp only [impl_valueReader_value.j2]
              refine EvP.neg (by simp) (EvP.bind (ih R2.length (by omega) _ R2 rfl hT2) (fun r hr => ?_))
              obtain ⟨r0, r1, r2, r3, r4, r5, r6⟩ := r
              obtain ⟨T3, R3, g1, g2, g3, g4⟩ := hr
              obtain ⟨rfl, rfl⟩ := Prod.mk.inj g2
              dsimp only at g1 g3 g4 ⊢
              have eA : ((A ++ [x0, x1, x2, 40]) ++ T2) ++ T3 = (A ++ [x0, x1, x2, 40]) ++ (T2 ++ T3) := by rw [List.append_assoc]
              rw [eA] at g1 ⊢
              refine EvP.ite (fun hok => EvP.pos (by omega) ?_) (fun hok => EvP.ret _ ⟨[x0, x1, x2, 40] ++ (T2 ++ T3), R3, by rw [g1]; simp, by simp, qVal_parts (show acc.length ≤ 1048576 by omega) hq, fun h => by cases h⟩)
              rw [w64s (n := x.f1.length) (by omega) (by omega)]
              refine ihd (j + 1) (by omega) (acc ++ [⟨r0, r1, r2, r3⟩]) (T2 ++ T3) R3 (by simp [hacc]) (fun y hy => ?_) g1 ?_
              · rcases List.mem_append.1 hy with hy | hy
                · exact hq y hy
                · rw [List.mem_singleton.1 hy]; exact g3
              · rw [← hJ2, g4 hok]
            refine EvP.succ ?_
            simp only [impl_valueReader_value.l0]
            refine EvP.pos (by omega) (EvP.ite (fun hj0 => ?_) (fun hj0 => ?_))
            · have hne : (acc.map vtext).map (·.data.toList) ≠ [] := by
                intro h0
                have := congrArg List.length h0
                simp only [List.length_map, List.length_nil] at this
                omega
              by_cases c5 : R'.head? = some 32
              · obtain ⟨R1, rfl⟩ := head_some c5
                have s6 := sees_hit K hT hs
                have hT6 : s.data.toList = ((A ++ [x0, x1, x2, 40]) ++ (T' ++ [32])) ++ R1 := by rw [hT]; simp
                have e6 : ((A ++ [x0, x1, x2, 40]) ++ (T' ++ [(32 : UInt8)])).length = ((A ++ [x0, x1, x2, 40]) ++ T').length + 1 := by simp [Nat.add_assoc]
                have h6 := j2 (T' ++ [32]) R1 hT6 (fun v => by
                  rw [List.map_append, List.map_append]
                  show _ = Lib.join (_ ++ [(vtext v).data.toList]) [32]
                  rw [join_snoc _ hne, ← hJ]
                  simp)
                rw [e6] at h6
                exact EvP.call s6 h6
              · refine EvP.call (sees_miss K hT hs c5) (EvP.succ ?_)
                simp only [impl_valueReader_value.j2]
                exact EvP.pos rfl (EvP.ret _ ⟨[x0, x1, x2, 40] ++ T', R', by rw [hT]; simp, by simp, qVal_parts (show acc.length ≤ 1048576 by omega) hq, fun h => by cases h⟩)
            · have ha : acc = [] := List.eq_nil_of_length_eq_zero (by omega)
              subst ha
              have hT0 : T' = [] := by rw [hJ]; rfl
              refine j2 T' R' hT (fun v => ?_)
              rw [hT0]
              simp [Lib.join]
        have := loop x.f1.length 0 (by omega) [] [] R4 rfl (fun y hy => by cases hy) (by rw [List.append_nil]; exact h5) rfl
        rw [List.append_nil, el4] at this
        exact this
      · have s4 := sees_miss K h4 hs (c := 40) (fun h => c4 (Option.some.inj h))
        rw [el] at s4
        refine EvP.call s4 (EvP.neg (by simp) (EvP.ret _ ⟨[x0, x1, x2], x3 :: R4, h4, by rw [el], qVal_flat _ _, fun h => by cases h⟩))

-- bt_mid
theorem eq_next {s : ByteArray} {A R : List UInt8} (h : s.data.toList = A ++ R) (hs : s.size ≤ 100000000000000) (b : Bool) (c : UInt8) {ci : Int} (hci : ci = (c.toNat : Int)) : spec_l2Rd_next.f s (A.length : Int) b ci = some (if R.head? = some c then (true, s, ((A.length + 1 : Nat) : Int), b) else (false, s, (A.length : Int), b)) := by
  have e := size_of_list h
  rw [List.length_append] at e
  unfold spec_l2Rd_next.f
  cases R with
  | nil =>
    rw [if_neg (by simp at e; omega), if_neg (by simp)]
  | cons d R =>
    rw [List.length_cons] at e
    rw [if_pos (by omega), if_pos (by omega), bt_mid h, hci]
    by_cases hc : d = c
    · subst hc
      rw [if_pos rfl, if_pos (show (d :: R).head? = some d from rfl), w64 (by omega) (by omega)]
      rfl
    · rw [if_neg (fun h => hc (UInt8.toNat_inj.1 (by omega))), if_neg (fun h : (d :: R).head? = some c => hc (Option.some.inj h))]
theorem next_hit {s : ByteArray} {A R : List UInt8} {c : UInt8} (h : s.data.toList = A ++ (c :: R)) (hs : s.size ≤ 100000000000000) (b : Bool) {ci : Int} (hci : ci = (c.toNat : Int)) : spec_l2Rd_next.f s (A.length : Int) b ci = some (true, s, ((A.length + 1 : Nat) : Int), b) := by
  rw [eq_next h hs b c hci, if_pos (show (c :: R).head? = some c from rfl)]
theorem next_miss {s : ByteArray} {A R : List UInt8} {c : UInt8} (h : s.data.toList = A ++ R) (hs : s.size ≤ 100000000000000) (b : Bool) {ci : Int} (hci : ci = (c.toNat : Int)) (hc : ¬ R.head? = some c) : spec_l2Rd_next.f s (A.length : Int) b ci = some (false, s, (A.length : Int), b) := by
  rw [eq_next h hs b c hci, if_neg hc]

-- bt_mid
/-- The reference's reading of a number comes to an end. -/
theorem ev_snum_any {s : ByteArray} (hs : s.size ≤ 100000000000000) {A R : List UInt8} (h : s.data.toList = A ++ R) : EvP (fun k => spec_l2Rd_number.f k s (A.length : Int) false) (fun r => ∃ T R', s.data.toList = (A ++ T) ++ R' ∧ r.2.1 = s ∧ r.2.2.1 = ((A ++ T).length : Int) ∧ (r.2.2.2 = false → 1 ≤ T.length)) := by
  have key : ∀ (n : Nat) (T R : List UInt8) (x : Int), R.length = n → s.data.toList = (A ++ T) ++ R → EvP (fun k => spec_l2Rd_number.l0 k x (A.length : Int) s ((A ++ T).length : Int) false) (fun r => ∃ T R', s.data.toList = (A ++ T) ++ R' ∧ r.2.1 = s ∧ r.2.2.1 = ((A ++ T).length : Int) ∧ (r.2.2.2 = false → 1 ≤ T.length)) := by
    intro n
    induction n with
    | zero =>
      intro T R x hn h
      have e := size_of_list h
      simp only [List.length_append] at e
      have ew : wrap64 (((A ++ T).length : Int) - (A.length : Int)) = (T.length : Int) := by rw [List.length_append, w64 (by omega) (by omega)]; omega
      have P : ∀ b : Bool, (b = false → 1 ≤ T.length) → ∃ T' R', s.data.toList = (A ++ T') ++ R' ∧ (x, s, ((A ++ T).length : Int), b).2.1 = s ∧ (x, s, ((A ++ T).length : Int), b).2.2.1 = ((A ++ T').length : Int) ∧ ((x, s, ((A ++ T).length : Int), b).2.2.2 = false → 1 ≤ T'.length) := fun b hb => ⟨T, R, h, rfl, rfl, hb⟩
      refine EvP.succ ?_
      simp only [spec_l2Rd_number.l0]
      rw [ew]
      refine EvP.neg (by rw [List.length_append]; omega) (EvP.neg (by simp) (EvP.ite (fun _ => EvP.ret _ (P _ (fun h => by cases h))) (fun ht => EvP.ite (fun _ => EvP.pos (by omega) (EvP.pos (by omega) (EvP.ret _ (P _ (fun _ => by rw [List.length_append] at ht; omega))))) (fun _ => EvP.ret _ (P _ (fun _ => by rw [List.length_append] at ht; omega))))))
    | succ n ih =>
      intro T R x hn h
      have e := size_of_list h
      simp only [List.length_append] at e
      have ew : wrap64 (((A ++ T).length : Int) - (A.length : Int)) = (T.length : Int) := by rw [List.length_append, w64 (by omega) (by omega)]; omega
      have P : ∀ b : Bool, (b = false → 1 ≤ T.length) → ∃ T' R', s.data.toList = (A ++ T') ++ R' ∧ (x, s, ((A ++ T).length : Int), b).2.1 = s ∧ (x, s, ((A ++ T).length : Int), b).2.2.1 = ((A ++ T').length : Int) ∧ ((x, s, ((A ++ T).length : Int), b).2.2.2 = false → 1 ≤ T'.length) := fun b hb => ⟨T, R, h, rfl, rfl, hb⟩
      have ew2 : wrap64 (((A ++ T).length : Int) + 1) = (((A ++ T).length + 1 : Nat) : Int) := by rw [w64 (by rw [List.length_append]; omega) (by rw [List.length_append]; omega)]; rfl
      refine EvP.succ ?_
      simp only [spec_l2Rd_number.l0]
      rw [ew, ew2]
      refine EvP.pos (by rw [List.length_append]; omega) (EvP.pos (by omega) (EvP.ite (fun _ => EvP.ite (fun _ => EvP.ite (fun _ => ?_) (fun _ => ?_)) (fun _ => ?_)) (fun _ => ?_)))
      · cases R with
        | nil => simp at hn
        | cons c R =>
          have e2 : (A ++ T).length + 1 = (A ++ (T ++ [c])).length := by simp; omega
          rw [e2]
          exact ih (T ++ [c]) R _ (by simpa using hn) (by rw [h]; simp)
      all_goals exact EvP.neg (by simp) (EvP.ite (fun _ => EvP.ret _ (P _ (fun h => by cases h))) (fun ht => EvP.ite (fun _ => EvP.pos (by omega) (EvP.pos (by omega) (EvP.ret _ (P _ (fun _ => by rw [List.length_append] at ht; omega))))) (fun _ => EvP.ret _ (P _ (fun _ => by rw [List.length_append] at ht; omega)))))
  have := key R.length [] R 0 rfl (by rw [List.append_nil]; exact h)
  rw [List.append_nil] at this
  exact this

-- eq_next ev_snum_any qVal_flat dig_split
abbrev SdOut := ByteArray × Int × (List S27) × List Int × ByteArray × Int × Bool
/-- What the reference's reader hands back: how far it came, and that the value is no larger than what it passed over. -/
def RdS (s : ByteArray) (A : List UInt8) (r : SdOut) : Prop := ∃ T R', s.data.toList = (A ++ T) ++ R' ∧ r.2.2.2.2.1 = s ∧ r.2.2.2.2.2.1 = ((A ++ T).length : Int) ∧ qVal ⟨r.1, r.2.1, r.2.2.1, r.2.2.2.1⟩ ∧ (r.2.2.2.2.2.2 = false → 2 * vsize ⟨r.1, r.2.1, r.2.2.1, r.2.2.2.1⟩ ≤ T.length + 1)
theorem vsize_flat (t : ByteArray) (n : Int) {m : Nat} (h : 1 ≤ m) : 2 * vsize ⟨t, n, [], []⟩ ≤ m + 1 := by
  rw [vsize_eq]
  simp
  omega
theorem ev_spec_any {s : ByteArray} (hs : s.size ≤ 100000000000000) : ∀ (n : Nat) (A R : List UInt8), R.length = n → s.data.toList = A ++ R → EvP (fun k => spec_l2Rd_value.f k s (A.length : Int) false) (RdS s A) := by
  intro n
  induction n using Nat.strongRecOn with
  | _ n ih =>
    intro A R hn h
    have e := size_of_list h
    rw [List.length_append] at e
    have j0t : EvP (fun k => spec_l2Rd_value.j0 k true s (A.length : Int) false) (RdS s A) := by
      refine EvP.succ ?_
      simp only [spec_l2Rd_value.j0]
      refine EvP.pos trivial (EvP.bind (ev_snum_any hs h) (fun r hr => EvP.ret _ ?_))
      obtain ⟨T, R', h1, h2, h3, h4⟩ := hr
      exact ⟨T, R', h1, h2, h3, qVal_flat _ _, fun hb => vsize_flat _ _ (h4 hb)⟩
    refine EvP.succ ?_
    simp only [spec_l2Rd_value.f]
    by_cases c1 : R.head? = some 45
    · obtain ⟨R1, rfl⟩ := head_some c1
      exact EvP.call (next_hit h hs false rfl) (EvP.pos rfl (EvP.ret _ ⟨[45], R1, by rw [h, List.append_assoc]; rfl, rfl, by rw [List.length_append]; rfl, qVal_flat _ _, fun _ => vsize_flat _ _ (by simp)⟩))
    refine EvP.call (next_miss (c := 45) h hs false rfl c1) (EvP.neg (by simp) ?_)
    by_cases c2 : R.head? = some 43
    · obtain ⟨R1, rfl⟩ := head_some c2
      exact EvP.call (next_hit h hs false rfl) (EvP.pos rfl (EvP.ret _ ⟨[43], R1, by rw [h, List.append_assoc]; rfl, rfl, by rw [List.length_append]; rfl, qVal_flat _ _, fun _ => vsize_flat _ _ (by simp)⟩))
    refine EvP.call (next_miss (c := 43) h hs false rfl c2) (EvP.neg (by simp) ?_)
    by_cases c3 : R.head? = some 64
    · obtain ⟨R1, rfl⟩ := head_some c3
      have h' : s.data.toList = (A ++ [64]) ++ R1 := by rw [h, List.append_assoc]; rfl
      have hn := ev_snum_any hs h'
      have el : (A ++ [(64 : UInt8)]).length = A.length + 1 := by simp
      rw [el] at hn
      refine EvP.call (next_hit h hs false rfl) (EvP.pos rfl (EvP.bind hn (fun r hr => EvP.ret _ ?_)))
      obtain ⟨T, R', g1, g2, g3, g4⟩ := hr
      exact ⟨64 :: T, R', by rw [g1]; simp, g2, by show r.2.2.1 = _; rw [g3]; simp, qVal_flat _ _, fun _ => vsize_flat _ _ (by simp)⟩
    refine EvP.call (next_miss (c := 64) h hs false rfl c3) (EvP.neg (by simp) ?_)
    dsimp only
    refine EvP.ite (fun _ => j0t) (fun hlt => EvP.pos (by omega) (EvP.pos (by omega) ?_))
    obtain ⟨x0, R1, rfl⟩ : ∃ x0 R1, R = x0 :: R1 := by
      match R, (show 1 ≤ R.length by omega) with
      | x0 :: R1, _ => exact ⟨x0, R1, rfl⟩
    rw [bt_mid h]
    by_cases c83 : x0 = 83
    case neg =>
      have : ((x0.toNat : Int) != 83) = true := by
        rw [bne_iff_ne]
        intro h2
        exact c83 (UInt8.toNat_inj.1 (by have : (83 : UInt8).toNat = 83 := rfl; omega))
      rw [this]
      exact j0t
    have : ((x0.toNat : Int) != 83) = false := by rw [c83]; rfl
    rw [this]
    clear this c1 c2 c3
    have e3 : wrap64 ((A.length : Int) + 3) = ((A.length + 3 : Nat) : Int) := by rw [w64 (by omega) (by omega)]; rfl
    refine EvP.succ ?_
    simp only [spec_l2Rd_value.j0]
    rw [e3]
    refine EvP.neg (by simp) (EvP.ite (fun _ => EvP.ret _ ⟨[], x0 :: R1, by rw [h]; simp, rfl, by simp, qVal_flat _ _, fun h => by cases h⟩) (fun hlt => EvP.pos (by omega) (EvP.pos (by omega) (EvP.pos (by omega) (EvP.neg (by simp) ?_)))))
    simp only [List.length_cons] at e hn
    obtain ⟨x1, x2, R3, rfl⟩ : ∃ x1 x2 R3, R1 = x1 :: x2 :: R3 := by
      match R1, (show 2 ≤ R1.length by omega) with
      | x1 :: x2 :: R3, _ => exact ⟨x1, x2, R3, rfl⟩
    simp only [List.length_cons] at e hn
    generalize s.extract ((A.length : Nat) : Int).toNat ((A.length + 3 : Nat) : Int).toNat = t
    have h3 : s.data.toList = (A ++ [x0, x1, x2]) ++ R3 := by rw [h]; simp
    have el : (A ++ [x0, x1, x2]).length = A.length + 3 := by simp
    -- the way out
    have out : ∀ (b : Bool) (T R' : List UInt8) (acc : List S27), s.data.toList = (A ++ T) ++ R' → acc.length ≤ 5 → (∀ y ∈ acc, qVal y) → (b = false → 2 * (acc.map vsize).sum + 1 ≤ T.length) → RdS s A (t, 0, acc, [], s, ((A ++ T).length : Int), b) := by
      intro b T R' acc h1 h2 h3 h4
      refine ⟨T, R', h1, rfl, rfl, qVal_parts (show acc.length ≤ 1048576 by omega) h3, fun hb => ?_⟩
      show 2 * vsize ⟨t, 0, acc, []⟩ ≤ _
      rw [vsize_eq]
      have := h4 hb
      omega
    have stop : ∀ (T R' : List UInt8) (acc : List S27), s.data.toList = (A ++ T) ++ R' → acc.length ≤ 5 → (∀ y ∈ acc, qVal y) → EvP (fun k => spec_l2Rd_value.l0 k s ((A ++ T).length : Int) true t 0 acc) (RdS s A) := by
      intro T R' acc h1 h2 h3
      refine EvP.succ ?_
      simp only [spec_l2Rd_value.l0]
      refine EvP.pos trivial (EvP.succ ?_)
      simp only [spec_l2Rd_value.j3]
      exact EvP.neg (by simp) (EvP.ret _ (out _ T R' acc h1 h2 h3 (fun h => by cases h)))
    have loop : ∀ (d : Nat) (acc : List S27) (T R' : List UInt8), acc.length + d = 4 → s.data.toList = (A ++ T) ++ R' → (∀ y ∈ acc, qVal y) → 2 * (acc.map vsize).sum + 3 ≤ T.length → 4 ≤ T.length → EvP (fun k => spec_l2Rd_value.l0 k s ((A ++ T).length : Int) false t 0 acc) (RdS s A) := by
      intro d
      induction d with
      | zero =>
        intro acc T R' hd hT hq hv h3T
        refine EvP.succ ?_
        simp only [spec_l2Rd_value.l0]
        refine EvP.neg (by simp) ?_
        by_cases c5 : R'.head? = some 41
        · obtain ⟨R1, rfl⟩ := head_some c5
          have hT5 : s.data.toList = (A ++ (T ++ [41])) ++ R1 := by rw [hT]; simp
          have e5 : (A ++ T).length + 1 = (A ++ (T ++ [(41 : UInt8)])).length := by simp; omega
          refine EvP.call (next_hit hT hs false rfl) (EvP.succ ?_)
          simp only [spec_l2Rd_value.j3]
          refine EvP.neg (by simp) (EvP.ret _ ?_)
          rw [e5]
          exact out _ _ _ acc hT5 (by omega) hq (fun _ => by simp; omega)
        · refine EvP.call (next_miss (c := 41) hT hs false rfl c5) (EvP.succ ?_)
          simp only [spec_l2Rd_value.j3]
          refine EvP.pos rfl (EvP.pos (by omega) (EvP.neg (by simp) ?_))
          by_cases c6 : R'.head? = some 32
          · obtain ⟨R1, rfl⟩ := head_some c6
            have hT5 : s.data.toList = (A ++ (T ++ [32])) ++ R1 := by rw [hT]; simp
            have e5 : (A ++ T).length + 1 = (A ++ (T ++ [(32 : UInt8)])).length := by simp; omega
            have hd3 : decide ((acc.length : Int) > 3) = true := decide_eq_true (by omega)
            refine EvP.call (next_hit hT hs false rfl) (EvP.pos rfl (EvP.pos (by omega) ?_))
            dsimp only
            rw [hd3, e5]
            exact stop _ _ acc hT5 (by omega) hq
          · exact EvP.call (next_miss (c := 32) hT hs false rfl c6) (EvP.neg (by simp) (stop _ _ acc hT (by omega) hq))
      | succ d ihd =>
        intro acc T R' hd hT hq hv h3T
        have hd3 : decide ((acc.length : Int) > 3) = false := decide_eq_false (by omega)
        have one : ∀ (T2 R2 : List UInt8), s.data.toList = (A ++ T2) ++ R2 → T.length ≤ T2.length → (acc ≠ [] → T.length + 1 ≤ T2.length) → EvP (fun k => (spec_l2Rd_value.f k s ((A ++ T2).length : Int) false).bind fun bt => (if acc.length < 1954687338268 then (spec_l2Rd_value.l0 k bt.2.2.2.2.1 bt.2.2.2.2.2.1 bt.2.2.2.2.2.2 t 0 (acc ++ [(⟨bt.1, bt.2.1, bt.2.2.1, bt.2.2.2.1⟩ : S27)])) else (none))) (RdS s A) := by
          intro T2 R2 hT2 hl1 hl2
          have e2 := size_of_list hT2
          simp only [List.length_append] at e2
          refine EvP.bind (ih R2.length (by omega) _ R2 rfl hT2) (fun r hr => EvP.pos (by omega) ?_)
          obtain ⟨r0, r1, r2, r3, r4, r5, r6⟩ := r
          obtain ⟨T3, R3, g1, g2, g3, g4, g5⟩ := hr
          dsimp only at g1 g2 g3 g4 g5 ⊢
          subst g2
          subst g3
          have eA : (A ++ T2) ++ T3 = A ++ (T2 ++ T3) := by rw [List.append_assoc]
          rw [eA] at g1 ⊢
          have hq2 : ∀ y ∈ acc ++ [(⟨r0, r1, r2, r3⟩ : S27)], qVal y := fun y hy => by
            rcases List.mem_append.1 hy with hy | hy
            · exact hq y hy
            · rw [List.mem_singleton.1 hy]; exact g4
          have hv2 : r6 = false → 2 * ((acc ++ [(⟨r0, r1, r2, r3⟩ : S27)]).map vsize).sum + 3 ≤ (T2 ++ T3).length := by
            intro h6
            have g5 := g5 h6
            simp only [List.map_append, List.sum_append, List.map_cons, List.map_nil, List.sum_cons, List.sum_nil, List.length_append]
            by_cases ha : acc = []
            · subst ha
              simp only [List.map_nil, List.sum_nil]
              omega
            · have := hl2 ha
              omega
          cases r6 with
          | true => exact stop _ _ _ g1 (by simp; omega) hq2
          | false => exact ihd _ _ _ (by simp; omega) g1 hq2 (hv2 rfl) (by simp; omega)
        refine EvP.succ ?_
        simp only [spec_l2Rd_value.l0]
        refine EvP.neg (by simp) ?_
        by_cases c5 : R'.head? = some 41
        · obtain ⟨R1, rfl⟩ := head_some c5
          have hT5 : s.data.toList = (A ++ (T ++ [41])) ++ R1 := by rw [hT]; simp
          have e5 : (A ++ T).length + 1 = (A ++ (T ++ [(41 : UInt8)])).length := by simp; omega
          refine EvP.call (next_hit hT hs false rfl) (EvP.succ ?_)
          simp only [spec_l2Rd_value.j3]
          refine EvP.neg (by simp) (EvP.ret _ ?_)
          rw [e5]
          exact out _ _ _ acc hT5 (by omega) hq (fun _ => by simp; omega)
        · refine EvP.call (next_miss (c := 41) hT hs false rfl c5) (EvP.succ ?_)
          simp only [spec_l2Rd_value.j3]
          refine EvP.pos rfl (EvP.ite (fun ha => EvP.neg (by simp) ?_) (fun ha => EvP.neg (by simp) (EvP.neg (by omega) ?_)))
          · by_cases c6 : R'.head? = some 32
            · obtain ⟨R1, rfl⟩ := head_some c6
              have hT5 : s.data.toList = (A ++ (T ++ [32])) ++ R1 := by rw [hT]; simp
              have e5 : (A ++ T).length + 1 = (A ++ (T ++ [(32 : UInt8)])).length := by simp; omega
              refine EvP.call (next_hit hT hs false rfl) (EvP.pos rfl (EvP.neg (by omega) ?_))
              dsimp only
              rw [hd3, e5]
              exact one _ _ hT5 (by simp) (fun _ => by simp)
            · exact EvP.call (next_miss (c := 32) hT hs false rfl c6) (EvP.neg (by simp) (stop _ _ acc hT (by omega) hq))
          · rw [hd3]
            have : acc = [] := List.eq_nil_of_length_eq_zero (by omega)
            exact one _ _ hT (Nat.le_refl _) (fun h => absurd this h)
    have j1 : ∀ (b : Bool) (T R' : List UInt8), s.data.toList = (A ++ T) ++ R' → (b = false → 4 ≤ T.length) → EvP (fun k => spec_l2Rd_value.j1 k s ((A ++ T).length : Int) b t 0) (RdS s A) := by
      intro b T R' hT h3T
      refine EvP.succ ?_
      simp only [spec_l2Rd_value.j1]
      cases b with
      | true => exact stop T R' [] hT (by simp) (fun y hy => by cases hy)
      | false => exact loop 4 [] T R' rfl hT (fun y hy => by cases hy) (by have := h3T rfl; simp; omega) (h3T rfl)
    by_cases c4 : R3.head? = some 40
    · obtain ⟨R4, rfl⟩ := head_some c4
      have s4 := next_hit h3 hs false (ci := 40) rfl
      rw [el] at s4
      refine EvP.call s4 ?_
      have e4 : A.length + 3 + 1 = (A ++ [x0, x1, x2, 40]).length := by simp
      dsimp only
      rw [e4]
      exact j1 _ [x0, x1, x2, 40] R4 (by rw [h]; simp) (fun _ => by simp)
    · have s4 := next_miss (c := 40) h3 hs false rfl c4
      rw [el] at s4
      refine EvP.call s4 ?_
      dsimp only
      rw [← el]
      exact j1 _ _ R3 h3 (fun h => by cases h)

-- nstop bt_mid
/-- The reference reads a number that is written as numbers are. -/
theorem ev_snum {s : ByteArray} (hs : s.size ≤ 100000000000000) {A D R : List UInt8} (h : s.data.toList = A ++ (D ++ R)) (hn : isNum D = true) (hl : D.length ≤ 8) (hR : nstop R) : EvP (fun k => spec_l2Rd_number.f k s (A.length : Int) false) (· = (((val D : Nat) : Int), s, ((A.length + D.length : Nat) : Int), false)) := by
  have e := size_of_list h
  simp only [List.length_append] at e
  unfold isNum at hn
  rw [Bool.and_eq_true, Bool.and_eq_true, Bool.or_eq_true] at hn
  obtain ⟨⟨h0, h1⟩, hd⟩ := hn
  have h0 := of_decide_eq_true h0
  obtain ⟨d0, D0, hD0⟩ : ∃ d0 D0, D = d0 :: D0 := by
    cases D with
    | nil => exact absurd rfl h0
    | cons d0 D0 => exact ⟨d0, D0, rfl⟩
  have hp1 : 1 ≤ D.length := by rw [hD0]; simp
  have hb0 : D.length > 1 → (bt s (A.length : Int) == 48) = false := by
    intro h2
    rw [bt_mid (c := d0) (R := D0 ++ R) (by rw [h, hD0]; rfl), beq_eq_false_iff_ne]
    intro h3
    rcases h1 with h1 | h1
    · have := of_decide_eq_true h1; omega
    · refine of_decide_eq_true h1 ?_
      have : d0 = 48 := UInt8.toNat_inj.1 (by have : (48 : UInt8).toNat = 48 := rfl; omega)
      rw [hD0, this]
      rfl
  have key : ∀ i, i ≤ D.length → ∀ n : Nat, n + 1 ≤ 10 ^ i → EvP (fun k => spec_l2Rd_number.l0 k (n : Int) (A.length : Int) s ((A.length + i : Nat) : Int) false) (· = ((((D.drop i).foldl valF n : Nat) : Int), s, ((A.length + D.length : Nat) : Int), false)) := by
    refine upInd ?_ ?_
    · intro n hn
      have ew : wrap64 (((A.length + D.length : Nat) : Int) - (A.length : Int)) = (D.length : Int) := by rw [w64 (by omega) (by omega)]; omega
      refine EvP.succ ?_
      simp only [spec_l2Rd_number.l0]
      rw [ew, List.drop_length]
      cases R with
      | nil =>
        rw [List.length_nil] at e
        refine EvP.neg (by omega) (EvP.neg (by simp) (EvP.neg (by omega) (EvP.ite (fun h1 => EvP.pos (by omega) (EvP.pos (by omega) (EvP.ret _ ?_))) (fun h1 => EvP.ret _ rfl))))
        rw [hb0 (by omega)]
        rfl
      | cons c R =>
        have hb : bt s ((A.length + D.length : Nat) : Int) = (c.toNat : Int) := by
          have := bt_mid (A := A ++ D) (R := R) (c := c) (s := s) (by rw [h, List.append_assoc])
          rwa [List.length_append] at this
        rw [List.length_cons] at e
        have hc : ¬ (48 ≤ c.toNat ∧ c.toNat ≤ 57) := of_decide_eq_false (hR c rfl)
        rw [hb]
        refine EvP.pos (by omega) (EvP.pos (by omega) ?_)
        by_cases h48 : 48 ≤ c.toNat
        · refine EvP.pos (by omega) (EvP.neg (by omega) (EvP.neg (by simp) (EvP.neg (by omega) (EvP.ite (fun h1 => EvP.pos (by omega) (EvP.pos (by omega) (EvP.ret _ ?_))) (fun h1 => EvP.ret _ rfl)))))
          rw [hb0 (by omega)]
          rfl
        · refine EvP.neg (by omega) (EvP.neg (by simp) (EvP.neg (by omega) (EvP.ite (fun h1 => EvP.pos (by omega) (EvP.pos (by omega) (EvP.ret _ ?_))) (fun h1 => EvP.ret _ rfl))))
          rw [hb0 (by omega)]
          rfl
    · intro i hi ih n hn
      have ew : wrap64 (((A.length + i : Nat) : Int) - (A.length : Int)) = (i : Int) := by rw [w64 (by omega) (by omega)]; omega
      refine EvP.succ ?_
      simp only [spec_l2Rd_number.l0]
      have hb : bt s ((A.length + i : Nat) : Int) = ((D[i]).toNat : Int) := by
        have := bt_mid (A := A ++ D.take i) (R := D.drop (i + 1) ++ R) (c := D[i]) (s := s) (by
          rw [h, List.append_assoc]
          congr 1
          rw [← List.cons_append, ← List.append_assoc, ← List.drop_eq_getElem_cons hi, List.take_append_drop])
        rw [List.length_append, List.length_take, Nat.min_eq_left (by omega)] at this
        exact this
      have hdi : digit D[i] = true := List.all_eq_true.1 hd _ (List.getElem_mem hi)
      have hdi := of_decide_eq_true hdi
      have q1 : ((A.length + i : Nat) : Int) < (s.size : Int) := by omega
      have q2 : 0 ≤ ((A.length + i : Nat) : Int) := by omega
      have q3 : (i : Int) < 8 := by omega
      have hn2 : n < 1000000000 := Nat.lt_of_lt_of_le hn (pow_nine (by omega))
      rw [ew, hb, List.drop_eq_getElem_cons hi, List.foldl_cons]
      generalize D[i] = c at hdi
      have q4 : (c.toNat : Int) ≥ 48 := by omega
      have q5 : (c.toNat : Int) ≤ 57 := by omega
      have q6 : valF n c + 1 ≤ 10 ^ (i + 1) := by
        rw [Nat.pow_succ]
        unfold valF
        generalize 10 ^ i = m at hn
        omega
      have e1 : wrap64 (((A.length + i : Nat) : Int) + 1) = ((A.length + (i + 1) : Nat) : Int) := by rw [w64 (by omega) (by omega)]; omega
      have e2 : wrap64 ((wrap64 ((n : Int) * 10)) + (((c.toNat : Int) - 48) % 256)) = ((valF n c : Nat) : Int) := by
        unfold valF
        rw [w64 (n := (n : Int) * 10) (by omega) (by omega), w64 (by omega) (by omega)]
        omega
      rw [e1, e2]
      exact EvP.pos q1 (EvP.pos q2 (EvP.pos q4 (EvP.pos q5 (EvP.pos q3 (ih (valF n c) q6)))))
  exact key 0 (by omega) 0 (by simp)

theorem dec_num {n : Int} (h0 : 0 ≤ n) (h1 : n ≤ 1000001) : isNum (dec n).data.toList = true ∧ (dec n).data.toList.length ≤ 8 ∧ ((val (dec n).data.toList : Nat) : Int) = n ∧ ∃ c r, (dec n).data.toList = c :: r ∧ digit c = true := by
  have en : ((n.toNat : Nat) : Int) = n := by omega
  have hl := dig_len 7 n.toNat (by omega)
  have hm := all_dig n.toNat
  have hne := dig_ne n.toNat
  rw [← en, dec_list, val_dig]
  refine ⟨num_dig _, by omega, rfl, ?_⟩
  cases hd : Lib.decDigits n.toNat with
  | nil => exact absurd hd hne
  | cons c r =>
    rw [hd, List.all_cons, Bool.and_eq_true] at hm
    exact ⟨c, r, rfl, hm.1⟩

-- fits_deep dec_num kindText
theorem vtext_head {K : Kinds} (x : S27) (hf : fits K x = true) : ∃ c r, (vtext x).data.toList = c :: r ∧ c ≠ 41 := by
  obtain ⟨t, n, ps, path⟩ := x
  obtain ⟨rfl, hd⟩ := fits_deep hf
  have b1 : (⟨#[98]⟩ : ByteArray).toList = [98] := by rw [ByteArray.toList_eq]
  have b2 : (⟨#[111]⟩ : ByteArray).toList = [111] := by rw [ByteArray.toList_eq]
  rcases hd with ⟨rfl, rfl, h2, h3⟩ | ⟨rfl, rfl, h2⟩ | ⟨rfl, rfl, h2, h3⟩ | ⟨h1, h2, h3, rfl, y, hy, hl, hps⟩
  · obtain ⟨c, r, h4, h5⟩ := (dec_num h2 (by omega)).2.2.2
    refine ⟨c, r, by rw [vtext_eq, if_pos (by rw [ByteArray.toList_eq])]; exact h4, fun h => ?_⟩
    rw [h] at h5
    cases h5
  · rcases h2 with rfl | rfl
    · exact ⟨45, [], by rw [vtext_eq, b1, if_neg (by decide), if_pos rfl, if_pos rfl], by decide⟩
    · exact ⟨43, [], by rw [vtext_eq, b1, if_neg (by decide), if_pos rfl, if_neg (show ¬ (1 : Int) = 0 by decide)], by decide⟩
  · refine ⟨64, (dec n).data.toList, by rw [vtext_eq, b2, if_neg (by decide), if_neg (by decide), if_pos rfl, ByteArray.data_append, Array.toList_append]; rfl, by decide⟩
  · obtain ⟨a, b, ht⟩ := kind_text hy
    exact ⟨83, _, by rw [vtext_list K t 0 ps [] h1 h2 h3, ht]; rfl, by decide⟩

-- eq_next ev_snum dec_num vtext_head kindText kGet_small
theorem ev_spec_read (K : Kinds) (hK : kOk K = true) {s : ByteArray} (hs : s.size ≤ 100000000000000) (x : S27) : fits K x = true → qVal x → ∀ A R : List UInt8, s.data.toList = A ++ ((vtext x).data.toList ++ R) → isStop R → EvP (fun k => spec_l2Rd_value.f k s (A.length : Int) false) (· = (x.f0, x.f1, x.f2, x.f3, s, ((s.size - R.length : Nat) : Int), false)) := by
  refine ival_ind (P := fun x => fits K x = true → qVal x → ∀ A R : List UInt8, s.data.toList = A ++ ((vtext x).data.toList ++ R) → isStop R → EvP (fun k => spec_l2Rd_value.f k s (A.length : Int) false) (· = (x.f0, x.f1, x.f2, x.f3, s, ((s.size - R.length : Nat) : Int), false))) ?_ x
  intro t n ps path ih hf hq A R h hR
  obtain ⟨hp, hd⟩ := fits_deep hf
  subst hp
  rw [qVal] at hq
  show EvP _ (· = (t, n, ps, [], s, ((s.size - R.length : Nat) : Int), false))
  have e := size_of_list h
  rcases hd with ⟨rfl, rfl, h2, h3⟩ | ⟨rfl, rfl, h2⟩ | ⟨rfl, rfl, h2, h3⟩ | ⟨h1, h2, h3, rfl, y, hy, hl, hps⟩
  · have ev : vtext ⟨⟨#[110]⟩, n, [], []⟩ = dec n := by rw [vtext_eq, if_pos (by rw [ByteArray.toList_eq])]
    rw [ev] at h e
    rw [List.length_append, List.length_append] at e
    obtain ⟨g1, g2, g3, c, r, g4, g5⟩ := dec_num h2 (by omega)
    have hn := ev_snum hs h g1 g2 (stop_n hR)
    have g5' := of_decide_eq_true g5
    have no : ∀ d : UInt8, digit d = false → ¬ ((dec n).data.toList ++ R).head? = some d := by
      intro d hd h6
      rw [g4] at h6
      injection h6 with h6
      rw [h6, hd] at g5
      cases g5
    have hb := bt_mid (s := s) (A := A) (c := c) (R := r ++ R) (by rw [h, g4]; rfl)
    have hlen : 1 ≤ (dec n).data.toList.length := by rw [g4]; simp
    refine EvP.succ ?_
    simp only [spec_l2Rd_value.f]
    refine EvP.call (next_miss (c := 45) h hs false rfl (no _ rfl)) (EvP.neg (by simp) ?_)
    refine EvP.call (next_miss (c := 43) h hs false rfl (no _ rfl)) (EvP.neg (by simp) ?_)
    refine EvP.call (next_miss (c := 64) h hs false rfl (no _ rfl)) (EvP.neg (by simp) ?_)
    dsimp only
    have h83 : ((c.toNat : Int) != 83) = true := by
      rw [bne_iff_ne]
      omega
    rw [hb, h83]
    refine EvP.neg (by omega) (EvP.pos (by omega) (EvP.pos (by omega) (EvP.succ ?_)))
    simp only [spec_l2Rd_value.j0]
    refine EvP.pos trivial (EvP.bind hn (fun r hr => EvP.ret _ ?_))
    rw [hr]
    dsimp only
    rw [g3, show A.length + (dec n).data.toList.length = s.size - R.length by omega]
  · have b1 : (⟨#[98]⟩ : ByteArray).toList = [98] := by rw [ByteArray.toList_eq]
    rcases h2 with rfl | rfl
    · have ev : vtext ⟨⟨#[98]⟩, 0, [], []⟩ = ⟨#[45]⟩ := by rw [vtext_eq, b1, if_neg (by decide), if_pos rfl, if_pos rfl]
      rw [ev] at h e
      rw [List.length_append, List.length_append] at e
      have h' : s.data.toList = A ++ (45 :: R) := h
      refine EvP.succ ?_
      simp only [spec_l2Rd_value.f]
      refine EvP.call (next_hit h' hs false rfl) (EvP.pos rfl (EvP.ret _ ?_))
      have : A.length + 1 = s.size - R.length := by have : ((⟨#[45]⟩ : ByteArray).data.toList).length = 1 := rfl; omega
      rw [this]
    · have ev : vtext ⟨⟨#[98]⟩, 1, [], []⟩ = ⟨#[43]⟩ := by rw [vtext_eq, b1, if_neg (by decide), if_pos rfl, if_neg (show ¬ (1 : Int) = 0 by decide)]
      rw [ev] at h e
      rw [List.length_append, List.length_append] at e
      have h' : s.data.toList = A ++ (43 :: R) := h
      refine EvP.succ ?_
      simp only [spec_l2Rd_value.f]
      refine EvP.call (next_miss (c := 45) h' hs false rfl (show ¬ some (43 : UInt8) = some 45 by decide)) (EvP.neg (by simp) (EvP.call (next_hit h' hs false rfl) (EvP.pos rfl (EvP.ret _ ?_))))
      have : A.length + 1 = s.size - R.length := by have : ((⟨#[43]⟩ : ByteArray).data.toList).length = 1 := rfl; omega
      rw [this]
  · have b2 : (⟨#[111]⟩ : ByteArray).toList = [111] := by rw [ByteArray.toList_eq]
    have ev : (vtext ⟨⟨#[111]⟩, n, [], []⟩).data.toList = 64 :: (dec n).data.toList := by
      rw [vtext_eq, b2, if_neg (by decide), if_neg (by decide), if_pos rfl]
      simp
    rw [ev] at h e
    simp only [List.length_append, List.length_cons] at e
    have h' : s.data.toList = A ++ (64 :: ((dec n).data.toList ++ R)) := h
    have h'' : s.data.toList = (A ++ [64]) ++ ((dec n).data.toList ++ R) := by rw [h', List.append_assoc]; rfl
    obtain ⟨g1, g2, g3, g4⟩ := dec_num h2 (by omega)
    have hn := ev_snum hs h'' g1 g2 (stop_n hR)
    have el : (A ++ [(64 : UInt8)]).length = A.length + 1 := by simp
    rw [el] at hn
    refine EvP.succ ?_
    simp only [spec_l2Rd_value.f]
    refine EvP.call (next_miss (c := 45) h' hs false rfl (show ¬ some (64 : UInt8) = some 45 by decide)) (EvP.neg (by simp) ?_)
    refine EvP.call (next_miss (c := 43) h' hs false rfl (show ¬ some (64 : UInt8) = some 43 by decide)) (EvP.neg (by simp) ?_)
    refine EvP.call (next_hit h' hs false rfl) (EvP.pos rfl (EvP.bind hn (fun r hr => EvP.ret _ ?_)))
    rw [hr]
    dsimp only
    rw [g3, show A.length + 1 + (dec n).data.toList.length = s.size - R.length by omega]
  · obtain ⟨a, b, ht⟩ := kind_text hy
    have htl : t = ⟨([83, a, b] : List UInt8).toArray⟩ := by rw [← ht]
    have hx3 := kGet_small hK hy
    have hnm : ∀ y : S27, (⟨y.f0, y.f1, y.f2, y.f3⟩ : S27) = y := fun y => by cases y; rfl
    rw [vtext_list K t 0 ps [] h1 h2 h3, ht] at h
    clear e
    generalize hJ : (ps.map vtext).map (·.data.toList) = L at h
    have h0 : s.data.toList = A ++ (83 :: (a :: b :: 40 :: (Lib.join L [32] ++ (41 :: R)))) := by rw [h]; simp
    have h4 : s.data.toList = (A ++ [83, a, b]) ++ (40 :: (Lib.join L [32] ++ (41 :: R))) := by rw [h0]; simp
    have h5 : s.data.toList = (A ++ [83, a, b, 40]) ++ (Lib.join L [32] ++ (41 :: R)) := by rw [h0]; simp
    have e0 := size_of_list h0
    simp only [List.length_append, List.length_cons] at e0
    have el : (A ++ [(83 : UInt8), a, b]).length = A.length + 3 := by simp
    have el4 : (A ++ [(83 : UInt8), a, b, 40]).length = A.length + 4 := by simp
    have e3 : wrap64 ((A.length : Int) + 3) = ((A.length + 3 : Nat) : Int) := by rw [w64 (by omega) (by omega)]; rfl
    have hx : s.extract ((A.length : Nat) : Int).toNat ((A.length + 3 : Nat) : Int).toNat = t := by
      have := cut_mid (s := s) (A := A) (T := [83, a, b]) (R := 40 :: (Lib.join L [32] ++ (41 :: R))) (by rw [h0]; simp)
      rw [Int.toNat_natCast, Int.toNat_natCast, htl]
      exact this
    have close : ∀ (A' : List UInt8), s.data.toList = A' ++ (41 :: R) → EvP (fun k => spec_l2Rd_value.l0 k s (A'.length : Int) false t 0 ps) (· = (t, 0, ps, [], s, ((s.size - R.length : Nat) : Int), false)) := by
      intro A' hA
      have e1 := size_of_list hA
      rw [List.length_append, List.length_cons] at e1
      refine EvP.succ ?_
      simp only [spec_l2Rd_value.l0]
      refine EvP.neg (by simp) (EvP.call (next_hit hA hs false rfl) (EvP.succ ?_))
      simp only [spec_l2Rd_value.j3]
      refine EvP.neg (by simp) (EvP.ret _ ?_)
      have : A'.length + 1 = s.size - R.length := by omega
      rw [this]
    have tail : ∀ j, j ≤ ps.length → 1 ≤ j → ∀ (A' : List UInt8) (acc : List S27), acc ++ ps.drop j = ps → s.data.toList = A' ++ (Lib.joinTail [32] (L.drop j) ++ (41 :: R)) → EvP (fun k => spec_l2Rd_value.l0 k s (A'.length : Int) false t 0 acc) (· = (t, 0, ps, [], s, ((s.size - R.length : Nat) : Int), false)) := by
      refine upInd ?_ ?_
      · intro _ A' acc hacc hA
        have ea : acc = ps := by simpa using hacc
        subst ea
        have eL : L.drop acc.length = [] := by rw [← hJ]; simp
        rw [eL] at hA
        exact close A' hA
      · intro j hj ih2 h1j A' acc hacc hA
        have hll := congrArg List.length hacc
        rw [List.length_append, List.length_drop] at hll
        rw [List.drop_eq_getElem_cons hj] at hacc
        have eL : L.drop j = (vtext ps[j]).data.toList :: L.drop (j + 1) := by
          rw [← hJ, List.drop_eq_getElem_cons (by simpa using hj)]
          simp
        rw [eL, tail_cons] at hA
        have e1 := size_of_list hA
        simp only [List.length_append, List.length_cons] at e1
        have hd3 : decide ((acc.length : Int) > 3) = false := decide_eq_false (by omega)
        have hA2 : s.data.toList = (A' ++ [32]) ++ ((vtext ps[j]).data.toList ++ (Lib.joinTail [32] (L.drop (j + 1)) ++ (41 :: R))) := by rw [hA]; simp
        have hv := ih _ (List.getElem_mem hj) (hps _ (List.getElem_mem hj)) (qValS_mem hq.1.2 _ (List.getElem_mem hj)) (A' ++ [32]) _ hA2 (tail_stop _ _)
        have el1 : (A' ++ [(32 : UInt8)]).length = A'.length + 1 := by simp
        rw [el1] at hv
        refine EvP.succ ?_
        simp only [spec_l2Rd_value.l0]
        refine EvP.neg (by simp) (EvP.call (next_miss (c := 41) hA hs false rfl (show ¬ some (32 : UInt8) = some 41 by decide)) (EvP.succ ?_))
        simp only [spec_l2Rd_value.j3]
        refine EvP.pos rfl (EvP.pos (by omega) (EvP.neg (by simp) (EvP.call (next_hit hA hs false rfl) (EvP.pos rfl (EvP.neg (by omega) ?_)))))
        dsimp only
        rw [hd3]
        refine EvP.bind hv (fun r hr => ?_)
        subst hr
        refine EvP.pos (by omega) ?_
        rw [hnm]
        have hA3 : s.data.toList = ((A' ++ [32]) ++ (vtext ps[j]).data.toList) ++ (Lib.joinTail [32] (L.drop (j + 1)) ++ (41 :: R)) := by rw [hA2]; simp
        have ep : s.size - (Lib.joinTail [32] (L.drop (j + 1)) ++ (41 :: R)).length = ((A' ++ [32]) ++ (vtext ps[j]).data.toList).length := by
          simp only [List.length_append, List.length_cons, List.length_nil]
          omega
        rw [ep]
        exact ih2 (by omega) _ _ (by rw [List.append_assoc]; exact hacc) hA3
    have head : EvP (fun k => spec_l2Rd_value.l0 k s ((A.length + 4 : Nat) : Int) false t 0 []) (· = (t, 0, ps, [], s, ((s.size - R.length : Nat) : Int), false)) := by
      cases ps with
      | nil =>
        have eL : L = [] := by rw [← hJ]; rfl
        subst eL
        rw [← el4]
        exact close _ h5
      | cons p ps =>
        have eL : L = (vtext p).data.toList :: L.drop 1 := by rw [← hJ]; rfl
        have hA2 : s.data.toList = (A ++ [83, a, b, 40]) ++ ((vtext p).data.toList ++ (Lib.joinTail [32] (L.drop 1) ++ (41 :: R))) := by
          rw [h5, eL, Lib.join_cons]
          simp
        have e1 := size_of_list hA2
        simp only [List.length_append, List.length_cons] at e1
        have hv := ih p (by simp) (hps _ (by simp)) (qValS_mem hq.1.2 _ (by simp)) _ _ hA2 (tail_stop _ _)
        rw [el4] at hv
        obtain ⟨c, r, hc, hc41⟩ := vtext_head p (hps _ (by simp))
        have hm := next_miss (c := 41) hA2 hs false (ci := 41) rfl (by rw [hc]; exact fun h => hc41 (Option.some.inj h))
        rw [el4] at hm
        have hd3 : decide ((([] : List S27).length : Int) > 3) = false := rfl
        refine EvP.succ ?_
        simp only [spec_l2Rd_value.l0]
        refine EvP.neg (by simp) (EvP.call hm (EvP.succ ?_))
        simp only [spec_l2Rd_value.j3]
        refine EvP.pos rfl (EvP.neg (by simp) (EvP.neg (by simp) (EvP.neg (by simp) ?_)))
        rw [hd3]
        refine EvP.bind hv (fun r hr => ?_)
        subst hr
        refine EvP.pos (by simp) ?_
        have hA3 : s.data.toList = ((A ++ [83, a, b, 40]) ++ (vtext p).data.toList) ++ (Lib.joinTail [32] (L.drop 1) ++ (41 :: R)) := by rw [hA2]; simp
        have ep : s.size - (Lib.joinTail [32] (L.drop 1) ++ (41 :: R)).length = ((A ++ [83, a, b, 40]) ++ (vtext p).data.toList).length := by
          simp only [List.length_append, List.length_cons, List.length_nil]
          simp only [List.length_append, List.length_cons, List.length_nil] at e1
          omega
        rw [ep, hnm]
        exact tail 1 (by simp) (by omega) _ _ rfl hA3
    have no : ∀ d : UInt8, d ≠ 83 → ¬ (83 :: (a :: b :: 40 :: (Lib.join L [32] ++ (41 :: R)))).head? = some d := fun d hd h => hd (Option.some.inj h).symm
    refine EvP.succ ?_
    simp only [spec_l2Rd_value.f]
    refine EvP.call (next_miss (c := 45) h0 hs false rfl (no _ (by decide))) (EvP.neg (by simp) ?_)
    refine EvP.call (next_miss (c := 43) h0 hs false rfl (no _ (by decide))) (EvP.neg (by simp) ?_)
    refine EvP.call (next_miss (c := 64) h0 hs false rfl (no _ (by decide))) (EvP.neg (by simp) ?_)
    dsimp only
    have h83 : (((83 : UInt8).toNat : Int) != 83) = false := rfl
    rw [bt_mid h0, h83]
    refine EvP.neg (by omega) (EvP.pos (by omega) (EvP.pos (by omega) (EvP.succ ?_)))
    simp only [spec_l2Rd_value.j0]
    rw [e3, hx]
    have s4 := next_hit h4 hs false (ci := 40) rfl
    rw [el] at s4
    refine EvP.neg (by simp) (EvP.neg (by omega) (EvP.pos (by omega) (EvP.pos (by omega) (EvP.pos (by omega) (EvP.neg (by simp) (EvP.call s4 (EvP.succ ?_)))))))
    simp only [spec_l2Rd_value.j1]
    exact head

-- fits_deep qVal_flat kGet_small
theorem fits_q {K : Kinds} (hK : kOk K = true) (x : S27) : fits K x = true → qVal x := by
  refine ival_ind (P := fun x => fits K x = true → qVal x) ?_ x
  intro t n ps path ih hf
  obtain ⟨rfl, hd⟩ := fits_deep hf
  rcases hd with ⟨rfl, rfl, h2, h3⟩ | ⟨rfl, rfl, h2⟩ | ⟨rfl, rfl, h2, h3⟩ | ⟨h1, h2, h3, rfl, y, hy, hl, hps⟩
  · exact qVal_flat _ _
  · exact qVal_flat _ _
  · exact qVal_flat _ _
  · exact qVal_parts (by have := kGet_small hK hy; omega) (fun z hz => ih z hz (hps z hz))

-- ev_read_any ev_spec_any ev_spec_read ev_read fits_q
abbrev RdVal := ByteArray × Int × (List S27) × List Int × Bool
/-- What a text is read as, of kinds: the value whose text it is, or none. -/
def readOf (K : Kinds) (s : ByteArray) (o : RdVal) : Prop := (o = (⟨#[]⟩, 0, [], [], false) ∧ ∀ v, valOk K v = true → vtext v ≠ s) ∨ ∃ v, o = (v.f0, v.f1, v.f2, v.f3, true) ∧ valOk K v = true ∧ vtext v = s ∧ qVal v ∧ vsize v ≤ 2000000
theorem both {α : Type} {g : Nat → Option α} {Q Q' : α → Prop} (h : EvP g Q) (h' : EvP g Q') : EvP g (fun r => Q r ∧ Q' r) := by
  obtain ⟨r, hr, hq⟩ := h
  obtain ⟨r', hr', hq'⟩ := h'
  have e : r = r' := by
    obtain ⟨k, hk⟩ := hr
    obtain ⟨k', hk'⟩ := hr'
    have h1 := hk (k + k') (by omega)
    rw [hk' (k + k') (by omega)] at h1
    exact (Option.some.inj h1).symm
  subst e
  exact ⟨r, hr, hq, hq'⟩
theorem text_eq {v s : ByteArray} (h : v.data.toList = s.data.toList) : v = s := by
  apply ByteArray.ext
  exact Array.toList_inj.1 h
theorem read_same (K : Kinds) (s : ByteArray) (hs : s.size ≤ 3999998) : ∃ o : RdVal, EvP (fun k => impl_ValueRead.f k K s) (· = o) ∧ EvP (fun k => spec_ValueRead.f k K s) (· = o) ∧ readOf K s o := by
  have hs2 : s.size ≤ 100000000000000 := by omega
  have hA : s.data.toList = [] ++ s.data.toList := rfl
  by_cases hv : ∃ v, valOk K v = true ∧ vtext v = s
  · obtain ⟨v, h1, h2⟩ := hv
    have h1' := h1
    unfold valOk at h1'
    rw [Bool.and_eq_true] at h1'
    obtain ⟨hK, hf⟩ := h1'
    have hq := fits_q hK v hf
    have h : s.data.toList = [] ++ ((vtext v).data.toList ++ []) := by rw [h2]; simp
    have hvs : vsize v ≤ 2000000 := by
      obtain ⟨r, _, rfl, T, R', g1, _, _, _, g5⟩ := both (ev_spec_read K hK hs2 v hf hq [] [] h (.inl rfl)) (ev_spec_any hs2 _ [] _ rfl hA)
      have g5 := g5 rfl
      have e := size_of_list g1
      simp only [List.length_append, List.length_nil] at e
      have hnm : (⟨v.f0, v.f1, v.f2, v.f3⟩ : S27) = v := by cases v; rfl
      dsimp only at g5
      rw [hnm] at g5
      omega
    refine ⟨(v.f0, v.f1, v.f2, v.f3, true), ?_, ?_, .inr ⟨v, rfl, h1, h2, hq, hvs⟩⟩
    · unfold impl_ValueRead.f
      refine EvP.bind (ev_impl_KindsOk K) (fun t ht => ?_)
      subst ht
      refine EvP.pos hK (EvP.bind (ev_read K hs2 v hf hq [] [] h (.inl rfl)) (fun r hr => ?_))
      subst hr
      refine EvP.pos rfl (EvP.pos (by simp) (EvP.bind (ev_impl_valueFits K v hq) (fun u hu => ?_)))
      subst hu
      exact EvP.pos hf (EvP.ret _ rfl)
    · unfold spec_ValueRead.f
      refine EvP.bind (ev_spec_read K hK hs2 v hf hq [] [] h (.inl rfl)) (fun r hr => ?_)
      subst hr
      refine EvP.neg (by simp) (EvP.pos (by simp) (EvP.bind (ev_spec_ValueOk K v hq) (fun u hu => ?_)))
      subst hu
      refine EvP.pos h1 (EvP.bind (ev_spec_l2Text K v hq hf hvs) (fun u hu => EvP.pos ?_ (EvP.ret _ rfl)))
      rw [hu, h2]
  · have hno : ∀ v, valOk K v = true → vtext v ≠ s := fun v h1 h2 => hv ⟨v, h1, h2⟩
    refine ⟨(⟨#[]⟩, 0, [], [], false), ?_, ?_, .inl ⟨rfl, hno⟩⟩
    · unfold impl_ValueRead.f
      refine EvP.bind (ev_impl_KindsOk K) (fun t ht => ?_)
      subst ht
      refine EvP.ite (fun hK => EvP.bind (ev_read_any K hK hs2 _ [] _ rfl hA) (fun r hr => ?_)) (fun _ => EvP.ret _ rfl)
      obtain ⟨r0, r1, r2, r3, r4, r5, r6⟩ := r
      obtain ⟨T, R', g1, g2, g3, g4⟩ := hr
      obtain ⟨rfl, rfl⟩ := Prod.mk.inj g2
      dsimp only at g1 g3 g4 ⊢
      refine EvP.ite (fun hok => EvP.ite (fun hp => EvP.bind (ev_impl_valueFits K ⟨r0, r1, r2, r3⟩ g3) (fun u hu => ?_)) (fun _ => EvP.ret _ rfl)) (fun _ => EvP.ret _ rfl)
      subst hu
      refine EvP.ite (fun hf => ?_) (fun _ => EvP.ret _ rfl)
      have e := size_of_list g1
      simp only [List.length_append, List.length_nil] at e hp
      have hR : R' = [] := List.eq_nil_of_length_eq_zero (by omega)
      subst hR
      refine absurd (text_eq ?_) (hno ⟨r0, r1, r2, r3⟩ (by unfold valOk; rw [hK, hf]; rfl))
      rw [g1, ← g4 hok]
      simp
    · unfold spec_ValueRead.f
      refine EvP.bind (ev_spec_any hs2 _ [] _ rfl hA) (fun r hr => ?_)
      obtain ⟨r0, r1, r2, r3, r4, r5, r6⟩ := r
      obtain ⟨T, R', g1, g2, g3, g4, g5⟩ := hr
      dsimp only at g1 g2 g3 g4 g5 ⊢
      subst g2
      subst g3
      refine EvP.ite (fun _ => EvP.ret _ rfl) (fun hb => EvP.ite (fun hp => EvP.bind (ev_spec_ValueOk K ⟨r0, r1, r2, r3⟩ g4) (fun u hu => ?_)) (fun _ => EvP.ret _ rfl))
      subst hu
      have g5 := g5 (Bool.eq_false_iff.2 hb)
      have e := size_of_list g1
      simp only [List.length_append, List.length_nil] at e
      refine EvP.ite (fun hf => ?_) (fun _ => EvP.ret _ rfl)
      have hf2 := hf
      unfold valOk at hf2
      rw [Bool.and_eq_true] at hf2
      refine EvP.bind (ev_spec_l2Text K ⟨r0, r1, r2, r3⟩ g4 hf2.2 (by omega)) (fun u hu => EvP.neg (fun h => ?_) (EvP.ret _ rfl))
      subst hu
      rw [ByteArray.toList_eq, ByteArray.toList_eq] at h
      exact hno _ hf (text_eq h)

-- read_same qKinds_c ev_laws_szRecordSS ev_laws_toRecordSS ev_laws_eqRecordSS ev_laws_eqValue fits_deep qVal_flat
theorem cnt_kinds (l : List (List S124)) : ((l.map (List.map cRecord)).map fun x => (x.map fun y => 1 + (y.f1.map fun _ => 1).sum).sum).sum ≤ wl (wl wRecord) l := by
  have h1 : ∀ x : List S124, ((x.map cRecord).map fun y => 1 + (y.f1.map fun _ => 1).sum).sum ≤ wl wRecord x := fun x => by
    induction x with
    | nil => exact Nat.zero_le _
    | cons y ys ih =>
      have h2 : (y.f1.map fun _ => 1).sum = y.f1.length := by rw [List.map_const', List.sum_replicate_nat, Nat.mul_one]
      have h3 : y.f1.length ≤ wRecord y := len_wl
      unfold wl at ih ⊢
      simp only [List.map_cons, List.sum_cons, List.length_cons, cRecord] at ih ⊢
      rw [h2]
      omega
  induction l with
  | nil => exact Nat.zero_le _
  | cons x xs ih =>
    have h2 := h1 x
    unfold wl at ih ⊢
    simp only [List.map_cons, List.sum_cons, List.length_cons] at ih ⊢
    unfold wl at h2
    omega
theorem cnt_fits (K : Kinds) (c : Nat → S27 → Nat) (h0 : ∀ x, c 0 x = 0) (h1 : ∀ n x, c (n + 1) x = 1 + (1 + ((x.f2.map (c n)).sum + (x.f3.map fun _ => 1).sum))) : ∀ (n : Nat) (x : S27), fits K x = true → c n x ≤ 2 * vsize x
  | 0, x, _ => by rw [h0]; exact Nat.zero_le _
  | n + 1, ⟨t, m, ps, path⟩, hf => by
    obtain ⟨rfl, hd⟩ := fits_deep hf
    have hp : ∀ y ∈ ps, fits K y = true := by
      rcases hd with ⟨rfl, rfl, h2, h3⟩ | ⟨rfl, rfl, h2⟩ | ⟨rfl, rfl, h2, h3⟩ | ⟨h1, h2, h3, rfl, y, hy, hl, hps⟩
      · intro y hy; cases hy
      · intro y hy; cases hy
      · intro y hy; cases hy
      · exact hps
    rw [h1, vsize_eq]
    have hs : ∀ l : List S27, (∀ y ∈ l, fits K y = true) → (l.map (c n)).sum ≤ 2 * (l.map vsize).sum := by
      intro l
      induction l with
      | nil => intro _; simp
      | cons y ys ih =>
        intro hl
        have e1 := cnt_fits K c h0 h1 n y (hl y (by simp))
        have e2 := ih (fun z hz => hl z (by simp [hz]))
        simp only [List.map_cons, List.sum_cons]
        omega
    have := hs ps hp
    simp only [List.map_nil, List.sum_nil]
    omega
theorem FnExactValueRead (l : List (List S124)) (s : ByteArray) (g : gL (gL gRecord) l) (hs : s.size ≤ 1048576) : ∃ L : Int, (∃ k, laws_szRecordSS.f k l 1048576 = some L) ∧ (0 ≤ L → ∃ (K : Kinds) (t : ByteArray) (n : Int) (ps : List S27) (b : Bool), (∃ k, laws_toRecordSS.f k l = some K) ∧ (∃ k, laws_eqRecordSS.f k K K = some true) ∧
    (∃ k, impl_ValueRead.f k K s = some (t, n, ps, [], b)) ∧ (∃ k, spec_ValueRead.f k K s = some (t, n, ps, [], b)) ∧ (∃ k, laws_eqValue.f k t n ps [] t n ps [] = some true) ∧
    (K.map fun x => (x.map fun y => 1 + (y.f1.map fun _ => 1).sum).sum).sum ≤ 8999998 ∧
    ∀ c : Nat → S27 → Nat, (∀ x, c 0 x = 0) → (∀ n x, c (n + 1) x = 1 + (1 + ((x.f2.map (c n)).sum + (x.f3.map fun _ => 1).sum))) → ∀ n, (ps.map (c n)).sum ≤ 8999998) := by
  obtain ⟨L, hL, h⟩ := ev_laws_szRecordSS l g 1048576 (by omega) (by omega)
  refine ⟨L, hL.rounds, fun h0 => ?_⟩
  have ht := h h0
  have w0 : wl (wl wRecord) l ≤ 1048576 := by omega
  obtain ⟨o, h1, h2, h3⟩ := read_same (l.map (List.map cRecord)) s (by omega)
  have hc := cnt_kinds l
  rcases h3 with ⟨rfl, _⟩ | ⟨⟨t, n, ps, path⟩, rfl, h4, h5, h6, h7⟩
  · exact ⟨_, ⟨#[]⟩, 0, [], false, (ev_laws_toRecordSS l w0).eq.rounds, (ev_laws_eqRecordSS _ (qKinds_c w0)).eq.rounds, h1.eq.rounds, h2.eq.rounds, (ev_laws_eqValue _ (qVal_flat _ _)).eq.rounds, Nat.le_trans hc (by omega), fun c _ _ n => Nat.zero_le _⟩
  · unfold valOk at h4
    rw [Bool.and_eq_true] at h4
    obtain ⟨rfl, _⟩ := fits_deep h4.2
    refine ⟨_, t, n, ps, true, (ev_laws_toRecordSS l w0).eq.rounds, (ev_laws_eqRecordSS _ (qKinds_c w0)).eq.rounds, h1.eq.rounds, h2.eq.rounds, (ev_laws_eqValue _ h6).eq.rounds, Nat.le_trans hc (by omega), fun c c0 c1 m => ?_⟩
    have e1 := cnt_fits _ c c0 c1 (m + 1) _ h4.2
    rw [c1] at e1
    have e2 : (ps.map (c m)).sum ≤ 2 * vsize ⟨t, n, ps, []⟩ := by
      refine Nat.le_trans ?_ e1
      dsimp only
      omega
    omega
theorem markText_any (n : Nat) (h0 : 1 ≤ n) (h1 : n ≤ 9000001) : ∃ k, laws_markText.f k (n : Int) = some (mtx n) := (ev_laws_markText n h0 h1).eq.rounds


end Go.Proofs.Ytdgmlakgnbmbbaa.Pure
