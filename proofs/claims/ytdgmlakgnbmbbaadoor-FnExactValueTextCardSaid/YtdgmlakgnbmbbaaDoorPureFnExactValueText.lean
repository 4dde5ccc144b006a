/- ValueText of the program and of the reference give the same for every kinds and every value; the arguments stay as they were. -/
import Derived.Test.YtdgmlakgnbmbbaaDoorOFnExactValueTextx1
import Derived.Test.YtdgmlakgnbmbbaaDoorOFnExactValueTextx2
import Derived.Test.YtdgmlakgnbmbbaaDoorOFnExactValueTextx3
import Derived.Test.YtdgmlakgnbmbbaaDoorOFnExactValueTextx4
import Derived.Test.YtdgmlakgnbmbbaaDoorOFnExactValueTextx5
import Derived.Test.YtdgmlakgnbmbbaaDoorOFnExactValueTextx6
import Derived.Test.YtdgmlakgnbmbbaaDoorOFnExactValueTextx7
import Derived.Test.YtdgmlakgnbmbbaaDoorOFnExactValueTextx8
import Derived.Test.YtdgmlakgnbmbbaaDoorOFnExactValueTextx9
import Derived.Test.YtdgmlakgnbmbbaaDoorOFnExactValueTextx10
import Derived.Test.YtdgmlakgnbmbbaaDoorOFnExactValueTextx11
import Derived.Test.YtdgmlakgnbmbbaaDoorOFnExactValueTextx12
import Derived.Test.YtdgmlakgnbmbbaaDoorOFnExactValueTextx13
import Derived.Test.YtdgmlakgnbmbbaaDoorOFnExactValueTextx14
import Derived.Test.YtdgmlakgnbmbbaaDoorBase
namespace Go.Proofs.YtdgmlakgnbmbbaaDoor.Pure
open Go.RowKit Go.Proofs.YtdgmlakgnbmbbaaDoor.OFnExactValueText Go.Proofs.YtdgmlakgnbmbbaaDoorW.PrintWords Go.Proofs.YtdgmlakgnbmbbaaDoorW.PrintLast Go.Proofs.YtdgmlakgnbmbbaaDoorW.PrintMore Go.Proofs.YtdgmlakgnbmbbaaDoor.Base
set_option linter.unusedVariables false
set_option linter.unusedSimpArgs false

theorem take_step {α β : Type} {c : α → β} {xs : List α} {out : List β} {i : Nat} (hi : i < xs.length) (hl : out.length = xs.length) (h : out.take i = (xs.take i).map c) : (out.set i (c xs[i])).take (i + 1) = (xs.take (i + 1)).map c := by
  rw [take_set_succ (by omega), h, List.take_succ_eq_append_getElem hi, List.map_append]
  rfl


def gRecord (x : S99) : Prop := gInt x.f0 ∧ (gL gStr) x.f1

def wRecord (x : S99) : Nat := wl ByteArray.size x.f1

def cRecord (x : S99) : S81 := ⟨x.f0, x.f1⟩

theorem ev_laws_szStringS_l0 (xs : List ByteArray) (hx : gL gStr xs) : ∀ i, i ≤ xs.length → ∀ a : Int, 0 ≤ a → a ≤ 1048576 → EvP (fun k => laws_szStringS.l0 k xs a i) (fun r => 0 ≤ r → r = a - ((((xs.drop i).map ByteArray.size).sum : Nat) : Int)) := by
  refine upInd ?_ ?_
  · intro a h0 h1
    refine EvP.succ ?_
    simp only [laws_szStringS.l0]
    exact EvP.neg (by omega) (EvP.ret _ (fun _ => by simp))
  · intro i hi ih a h0 h1
    refine EvP.succ ?_
    simp only [laws_szStringS.l0]
    have e : rdOf ByteArray.empty xs (i : Int) = xs[i] := getDn hi
    have hb := hx.2 _ (List.getElem_mem hi)
    unfold gStr at hb
    rw [e, w64s hi hx.1, w64 (n := a - (xs[i].size : Int)) (by omega) (by omega)]
    refine EvP.pos (by omega) (EvP.pos (by omega) (EvP.ite (fun hc => EvP.ret _ (fun h => absurd h (by omega))) (fun hc => ?_)))
    refine (ih _ (by omega) (by omega)).mono (fun r hr h => ?_)
    rw [hr h, List.drop_eq_getElem_cons hi]
    simp only [List.map_cons, List.sum_cons]
    omega
theorem ev_laws_szStringS (xs : List ByteArray) (hx : gL gStr xs) (a : Int) (h0 : 0 ≤ a) (h1 : a ≤ 1048576) : EvP (fun k => laws_szStringS.f k xs a) (fun r => 0 ≤ r → r = a - ((wl ByteArray.size xs : Nat) : Int)) := by
  have h2 := hx.1
  unfold laws_szStringS.f
  rw [w64 (by omega) (by omega)]
  refine EvP.ite (fun hc => EvP.ret _ (fun h => absurd h (by omega))) (fun hc => ?_)
  refine (ev_laws_szStringS_l0 xs hx 0 (by omega) _ (by omega) (by omega)).mono (fun r hr h => ?_)
  rw [hr h]
  simp only [List.drop_zero]
  unfold wl
  omega

theorem ev_laws_szRecord (a0 : Int) (l1 : List ByteArray) (hl1 : (gL gStr) l1) (a : Int) (h0 : 0 ≤ a) (h1 : a ≤ 1048576) : EvP (fun k => laws_szRecord.f k a0 l1 a) (fun r => 0 ≤ r → r = a - ((wl ByteArray.size l1 : Nat) : Int)) := by
  unfold laws_szRecord.f
  refine EvP.bind (ev_laws_szStringS l1 hl1 a (by omega) (by omega)) (fun tl1 htl1 => EvP.ite (fun hc => EvP.ret _ (fun h => absurd h (by omega))) (fun hc => ?_))
  have htl1 := htl1 (by omega)
  exact EvP.ret _ (fun _ => by omega)

theorem ev_laws_toStringS_l0 (xs : List ByteArray) (hx : wl ByteArray.size xs ≤ 1048576) : ∀ i, i ≤ xs.length → ∀ out : List ByteArray, out.length = xs.length → out.take i = (xs.take i).map id → EvP (fun k => laws_toStringS.l0 k xs out i) (· = xs.map id) := by
  have hn := Nat.le_trans len_wl hx
  refine upInd ?_ ?_
  · intro out hl ht
    refine EvP.succ ?_
    simp only [laws_toStringS.l0]
    refine EvP.neg (by omega) (EvP.ret _ ?_)
    rw [List.take_of_length_le (by omega), List.take_of_length_le (by omega)] at ht
    exact ht
  · intro i hi ih out hl ht
    refine EvP.succ ?_
    simp only [laws_toStringS.l0]
    have e : rdOf ByteArray.empty xs (i : Int) = xs[i] := getDn hi
    rw [e, w64s hi (by omega), Int.toNat_natCast]
    exact EvP.pos (by omega) (EvP.pos (by omega) (EvP.pos (by omega) (ih _ (by simpa using hl) (take_step (c := id) hi hl ht))))
theorem ev_laws_toStringS (xs : List ByteArray) (hx : wl ByteArray.size xs ≤ 1048576) : EvP (fun k => laws_toStringS.f k xs) (· = xs) := by
  have hn := Nat.le_trans len_wl hx
  unfold laws_toStringS.f
  refine EvP.pos (by omega) (EvP.pos (by rw [Int.toNat_natCast]; omega) ?_)
  refine (ev_laws_toStringS_l0 xs hx 0 (by omega) _ (by simp) rfl).mono (fun r hr => ?_)
  rw [hr]
  first | rfl | simp

theorem ev_laws_toRecord (a0 : Int) (l1 : List ByteArray) (hl1 : wl ByteArray.size l1 ≤ 1048576) : EvP (fun k => laws_toRecord.f k a0 l1) (· = (a0, l1)) := by
  unfold laws_toRecord.f
  refine EvP.bind (ev_laws_toStringS l1 hl1) (fun tl1 htl1 => ?_)
  subst htl1
  exact EvP.ret _ rfl

def qStringS (xs : List ByteArray) : Prop := xs.length ≤ 9223372036854775807

def qRecord (x : S81) : Prop := qStringS x.f1

theorem ev_laws_eqStringS_l0 (xs : List ByteArray) (hx : qStringS xs) : ∀ i, i ≤ xs.length → EvP (fun k => laws_eqStringS.l0 k xs xs i) (· = true) := by
  refine upInd ?_ ?_
  · refine EvP.succ ?_
    simp only [laws_eqStringS.l0]
    exact EvP.neg (by omega) (EvP.ret _ rfl)
  · intro i hi ih
    refine EvP.succ ?_
    simp only [laws_eqStringS.l0]
    rw [w64s hi hx]
    exact EvP.pos (by omega) (EvP.pos (by omega) (EvP.pos (by omega) (EvP.pos (by trivial) ih)))
theorem ev_laws_eqStringS (xs : List ByteArray) (hx : qStringS xs) : EvP (fun k => laws_eqStringS.f k xs xs) (· = true) := by
  unfold laws_eqStringS.f
  exact EvP.pos (by trivial) (ev_laws_eqStringS_l0 xs hx 0 (by omega))

theorem ev_laws_eqRecord (a0 : Int) (l1 : List ByteArray) (hl1 : qStringS l1) : EvP (fun k => laws_eqRecord.f k a0 l1 a0 l1) (· = true) := by
  unfold laws_eqRecord.f
  refine EvP.pos (by trivial) ?_
  refine EvP.bind (ev_laws_eqStringS l1 hl1) (fun tl1 htl1 => ?_)
  subst htl1
  refine EvP.pos (by trivial) ?_
  exact EvP.ret _ rfl

theorem ev_laws_szIntS (xs : List Int) (hx : gL gInt xs) (a : Int) (h0 : 0 ≤ a) (h1 : a ≤ 1048576) : EvP (fun _ => laws_szIntS.f xs a) (fun r => 0 ≤ r → r = a - ((wl (fun _ : Int => 0) xs : Nat) : Int)) := by
  have h2 := hx.1
  unfold laws_szIntS.f
  rw [w64 (by omega) (by omega)]
  refine EvP.ite (fun hc => EvP.ret _ (fun h => absurd h (by omega))) (fun hc => EvP.ret _ (fun _ => ?_))
  unfold wl
  have := sum_map_zero xs
  omega

theorem ev_laws_toIntS_l0 (xs : List Int) (hx : wl (fun _ : Int => 0) xs ≤ 1048576) : ∀ i, i ≤ xs.length → ∀ out : List Int, out.length = xs.length → out.take i = (xs.take i).map id → EvP (fun k => laws_toIntS.l0 k xs out i) (· = xs.map id) := by
  have hn := Nat.le_trans len_wl hx
  refine upInd ?_ ?_
  · intro out hl ht
    refine EvP.succ ?_
    simp only [laws_toIntS.l0]
    refine EvP.neg (by omega) (EvP.ret _ ?_)
    rw [List.take_of_length_le (by omega), List.take_of_length_le (by omega)] at ht
    exact ht
  · intro i hi ih out hl ht
    refine EvP.succ ?_
    simp only [laws_toIntS.l0]
    have e : rd xs (i : Int) = xs[i] := getDn hi
    rw [e, w64s hi (by omega), Int.toNat_natCast]
    exact EvP.pos (by omega) (EvP.pos (by omega) (EvP.pos (by omega) (ih _ (by simpa using hl) (take_step (c := id) hi hl ht))))
theorem ev_laws_toIntS (xs : List Int) (hx : wl (fun _ : Int => 0) xs ≤ 1048576) : EvP (fun k => laws_toIntS.f k xs) (· = xs) := by
  have hn := Nat.le_trans len_wl hx
  unfold laws_toIntS.f
  refine EvP.pos (by omega) (EvP.pos (by rw [Int.toNat_natCast]; omega) ?_)
  refine (ev_laws_toIntS_l0 xs hx 0 (by omega) _ (by simp) rfl).mono (fun r hr => ?_)
  rw [hr]
  first | rfl | simp

def qIntS (xs : List Int) : Prop := xs.length ≤ 9223372036854775807

theorem ev_laws_eqIntS_l0 (xs : List Int) (hx : qIntS xs) : ∀ i, i ≤ xs.length → EvP (fun k => laws_eqIntS.l0 k xs xs i) (· = true) := by
  refine upInd ?_ ?_
  · refine EvP.succ ?_
    simp only [laws_eqIntS.l0]
    exact EvP.neg (by omega) (EvP.ret _ rfl)
  · intro i hi ih
    refine EvP.succ ?_
    simp only [laws_eqIntS.l0]
    rw [w64s hi hx]
    exact EvP.pos (by omega) (EvP.pos (by omega) (EvP.pos (by omega) (EvP.pos (by trivial) ih)))
theorem ev_laws_eqIntS (xs : List Int) (hx : qIntS xs) : EvP (fun k => laws_eqIntS.f k xs xs) (· = true) := by
  unfold laws_eqIntS.f
  exact EvP.pos (by trivial) (ev_laws_eqIntS_l0 xs hx 0 (by omega))

theorem ev_laws_szRecordS_l0 (xs : List (S99)) (hx : gL gRecord xs) : ∀ i, i ≤ xs.length → ∀ a : Int, 0 ≤ a → a ≤ 1048576 → EvP (fun k => laws_szRecordS.l0 k xs a i) (fun r => 0 ≤ r → r = a - ((((xs.drop i).map wRecord).sum : Nat) : Int)) := by
  refine upInd ?_ ?_
  · intro a h0 h1
    refine EvP.succ ?_
    simp only [laws_szRecordS.l0]
    exact EvP.neg (by omega) (EvP.ret _ (fun _ => by simp))
  · intro i hi ih a h0 h1
    refine EvP.succ ?_
    simp only [laws_szRecordS.l0]
    have e : rd_T99 xs (i : Int) = xs[i] := getDn hi
    have hb := hx.2 _ (List.getElem_mem hi)
    rw [e, w64s hi hx.1]
    refine EvP.pos (by omega) (EvP.pos (by omega) (EvP.bind (ev_laws_szRecord xs[i].f0 xs[i].f1 hb.2 a h0 h1) (fun t ht => EvP.ite (fun hc => EvP.ret _ (fun h => absurd h (by omega))) (fun hc => ?_))))
    have ht := ht (by omega)
    refine (ih _ (by omega) (by omega)).mono (fun r hr h => ?_)
    have hw : wRecord xs[i] = wl ByteArray.size xs[i].f1 := rfl
    rw [hr h, List.drop_eq_getElem_cons hi]
    simp only [List.map_cons, List.sum_cons]
    omega
theorem ev_laws_szRecordS (xs : List (S99)) (hx : gL gRecord xs) (a : Int) (h0 : 0 ≤ a) (h1 : a ≤ 1048576) : EvP (fun k => laws_szRecordS.f k xs a) (fun r => 0 ≤ r → r = a - ((wl wRecord xs : Nat) : Int)) := by
  have h2 := hx.1
  unfold laws_szRecordS.f
  rw [w64 (by omega) (by omega)]
  refine EvP.ite (fun hc => EvP.ret _ (fun h => absurd h (by omega))) (fun hc => ?_)
  refine (ev_laws_szRecordS_l0 xs hx 0 (by omega) _ (by omega) (by omega)).mono (fun r hr h => ?_)
  rw [hr h]
  simp only [List.drop_zero]
  unfold wl
  omega

theorem ev_laws_toRecordS_l0 (xs : List (S99)) (hx : wl wRecord xs ≤ 1048576) : ∀ i, i ≤ xs.length → ∀ out : List (S81), out.length = xs.length → out.take i = (xs.take i).map cRecord → EvP (fun k => laws_toRecordS.l0 k xs out i) (· = xs.map cRecord) := by
  have hn := Nat.le_trans len_wl hx
  refine upInd ?_ ?_
  · intro out hl ht
    refine EvP.succ ?_
    simp only [laws_toRecordS.l0]
    refine EvP.neg (by omega) (EvP.ret _ ?_)
    rw [List.take_of_length_le (by omega), List.take_of_length_le (by omega)] at ht
    exact ht
  · intro i hi ih out hl ht
    refine EvP.succ ?_
    simp only [laws_toRecordS.l0]
    have e : rd_T99 xs (i : Int) = xs[i] := getDn hi
    rw [e, w64s hi (by omega), Int.toNat_natCast]
    have hm := mem_wl (f := wRecord) (List.getElem_mem hi)
    have hw : wRecord xs[i] = wl ByteArray.size xs[i].f1 := rfl
    refine EvP.pos (by omega) (EvP.pos (by omega) (EvP.bind (ev_laws_toRecord xs[i].f0 xs[i].f1 (by omega)) (fun t ht2 => ?_)))
    subst ht2
    exact EvP.pos (by omega) (ih _ (by simpa using hl) (take_step (c := cRecord) hi hl ht))
theorem ev_laws_toRecordS (xs : List (S99)) (hx : wl wRecord xs ≤ 1048576) : EvP (fun k => laws_toRecordS.f k xs) (· = (xs.map cRecord)) := by
  have hn := Nat.le_trans len_wl hx
  unfold laws_toRecordS.f
  refine EvP.pos (by omega) (EvP.pos (by rw [Int.toNat_natCast]; omega) ?_)
  refine (ev_laws_toRecordS_l0 xs hx 0 (by omega) _ (by simp) rfl).mono (fun r hr => ?_)
  rw [hr]

def qRecordS (xs : List (S81)) : Prop := xs.length ≤ 9223372036854775807 ∧ ∀ x ∈ xs, qRecord x

theorem ev_laws_eqRecordS_l0 (xs : List (S81)) (hx : qRecordS xs) : ∀ i, i ≤ xs.length → EvP (fun k => laws_eqRecordS.l0 k xs xs i) (· = true) := by
  refine upInd ?_ ?_
  · refine EvP.succ ?_
    simp only [laws_eqRecordS.l0]
    exact EvP.neg (by omega) (EvP.ret _ rfl)
  · intro i hi ih
    refine EvP.succ ?_
    simp only [laws_eqRecordS.l0]
    rw [w64s hi hx.1]
    have e : rd_T81 xs (i : Int) = xs[i] := getDn hi
    have hb := hx.2 _ (List.getElem_mem hi)
    rw [e]
    refine EvP.pos (by omega) (EvP.pos (by omega) (EvP.pos (by omega) (EvP.bind (ev_laws_eqRecord xs[i].f0 xs[i].f1 hb) (fun t ht => ?_))))
    subst ht
    exact EvP.pos (by trivial) ih
theorem ev_laws_eqRecordS (xs : List (S81)) (hx : qRecordS xs) : EvP (fun k => laws_eqRecordS.f k xs xs) (· = true) := by
  unfold laws_eqRecordS.f
  exact EvP.pos (by trivial) (ev_laws_eqRecordS_l0 xs hx 0 (by omega))

theorem ev_laws_szRecordSS_l0 (xs : List (List S99)) (hx : gL (gL gRecord) xs) : ∀ i, i ≤ xs.length → ∀ a : Int, 0 ≤ a → a ≤ 1048576 → EvP (fun k => laws_szRecordSS.l0 k xs a i) (fun r => 0 ≤ r → r = a - ((((xs.drop i).map (wl wRecord)).sum : Nat) : Int)) := by
  refine upInd ?_ ?_
  · intro a h0 h1
    refine EvP.succ ?_
    simp only [laws_szRecordSS.l0]
    exact EvP.neg (by omega) (EvP.ret _ (fun _ => by simp))
  · intro i hi ih a h0 h1
    refine EvP.succ ?_
    simp only [laws_szRecordSS.l0]
    have e : rd_L9 xs (i : Int) = xs[i] := getDn hi
    rw [e, w64s hi hx.1]
    refine EvP.pos (by omega) (EvP.pos (by omega) (EvP.bind (ev_laws_szRecordS xs[i] (hx.2 _ (List.getElem_mem hi)) a h0 h1) (fun t ht => EvP.ite (fun hc => EvP.ret _ (fun h => absurd h (by omega))) (fun hc => ?_))))
    have ht := ht (by omega)
    refine (ih _ (by omega) (by omega)).mono (fun r hr h => ?_)
    rw [hr h, List.drop_eq_getElem_cons hi]
    simp only [List.map_cons, List.sum_cons]
    omega
theorem ev_laws_szRecordSS (xs : List (List S99)) (hx : gL (gL gRecord) xs) (a : Int) (h0 : 0 ≤ a) (h1 : a ≤ 1048576) : EvP (fun k => laws_szRecordSS.f k xs a) (fun r => 0 ≤ r → r = a - ((wl (wl wRecord) xs : Nat) : Int)) := by
  have h2 := hx.1
  unfold laws_szRecordSS.f
  rw [w64 (by omega) (by omega)]
  refine EvP.ite (fun hc => EvP.ret _ (fun h => absurd h (by omega))) (fun hc => ?_)
  refine (ev_laws_szRecordSS_l0 xs hx 0 (by omega) _ (by omega) (by omega)).mono (fun r hr h => ?_)
  rw [hr h]
  simp only [List.drop_zero]
  unfold wl
  omega

theorem ev_laws_toRecordSS_l0 (xs : List (List S99)) (hx : wl (wl wRecord) xs ≤ 1048576) : ∀ i, i ≤ xs.length → ∀ out : List (List S81), out.length = xs.length → out.take i = (xs.take i).map (List.map cRecord) → EvP (fun k => laws_toRecordSS.l0 k xs out i) (· = xs.map (List.map cRecord)) := by
  have hn := Nat.le_trans len_wl hx
  refine upInd ?_ ?_
  · intro out hl ht
    refine EvP.succ ?_
    simp only [laws_toRecordSS.l0]
    refine EvP.neg (by omega) (EvP.ret _ ?_)
    rw [List.take_of_length_le (by omega), List.take_of_length_le (by omega)] at ht
    exact ht
  · intro i hi ih out hl ht
    refine EvP.succ ?_
    simp only [laws_toRecordSS.l0]
    have e : rd_L9 xs (i : Int) = xs[i] := getDn hi
    rw [e, w64s hi (by omega), Int.toNat_natCast]
    have hm := mem_wl (f := wl wRecord) (List.getElem_mem hi)
    refine EvP.pos (by omega) (EvP.pos (by omega) (EvP.bind (ev_laws_toRecordS xs[i] (by omega)) (fun t ht2 => ?_)))
    subst ht2
    exact EvP.pos (by omega) (ih _ (by simpa using hl) (take_step (c := List.map cRecord) hi hl ht))
theorem ev_laws_toRecordSS (xs : List (List S99)) (hx : wl (wl wRecord) xs ≤ 1048576) : EvP (fun k => laws_toRecordSS.f k xs) (· = xs.map (List.map cRecord)) := by
  have hn := Nat.le_trans len_wl hx
  unfold laws_toRecordSS.f
  refine EvP.pos (by omega) (EvP.pos (by rw [Int.toNat_natCast]; omega) ?_)
  refine (ev_laws_toRecordSS_l0 xs hx 0 (by omega) _ (by simp) rfl).mono (fun r hr => ?_)
  rw [hr]

def qRecordSS (xs : List (List S81)) : Prop := xs.length ≤ 9223372036854775807 ∧ ∀ x ∈ xs, qRecordS x

theorem ev_laws_eqRecordSS_l0 (xs : List (List S81)) (hx : qRecordSS xs) : ∀ i, i ≤ xs.length → EvP (fun k => laws_eqRecordSS.l0 k xs xs i) (· = true) := by
  refine upInd ?_ ?_
  · refine EvP.succ ?_
    simp only [laws_eqRecordSS.l0]
    exact EvP.neg (by omega) (EvP.ret _ rfl)
  · intro i hi ih
    refine EvP.succ ?_
    simp only [laws_eqRecordSS.l0]
    have e : rd_L4 xs (i : Int) = xs[i] := getDn hi
    rw [e, w64s hi hx.1]
    refine EvP.pos (by omega) (EvP.pos (by omega) (EvP.pos (by omega) (EvP.bind (ev_laws_eqRecordS _ (hx.2 _ (List.getElem_mem hi))) (fun t ht => ?_))))
    subst ht
    exact EvP.pos (by trivial) ih
theorem ev_laws_eqRecordSS (xs : List (List S81)) (hx : qRecordSS xs) : EvP (fun k => laws_eqRecordSS.f k xs xs) (· = true) := by
  unfold laws_eqRecordSS.f
  exact EvP.pos (by trivial) (ev_laws_eqRecordSS_l0 xs hx 0 (by omega))

theorem qKinds_c {xs : List (List S99)} (h : wl (wl wRecord) xs ≤ 1048576) : qRecordSS (xs.map (List.map cRecord)) := by
  have hn := Nat.le_trans len_wl h
  refine ⟨by simp; omega, fun x hx => ?_⟩
  obtain ⟨y, hy, rfl⟩ := List.mem_map.1 hx
  have h2 := mem_wl (f := wl wRecord) hy
  have h3 := len_wl (f := wRecord) (xs := y)
  refine ⟨by simp; omega, fun z hz => ?_⟩
  obtain ⟨u, hu, rfl⟩ := List.mem_map.1 hz
  have h4 := mem_wl (f := wRecord) hu
  have h5 : wRecord u = wl ByteArray.size u.f1 := rfl
  have h6 := len_wl (f := ByteArray.size) (xs := u.f1)
  show u.f1.length ≤ _
  omega

abbrev Rec := S81

abbrev Kinds := List (List Rec)

/-- The module and the record that a text names. -/
def kAt (s : ByteArray) : Option (Nat × Nat) :=
  if s.size = 3 ∧ bt s 0 = 83 ∧ 48 ≤ bt s 1 ∧ bt s 1 ≤ 57 ∧ 48 ≤ bt s 2 ∧ bt s 2 ≤ 57 then some ((bt s 1 - 48).toNat, (bt s 2 - 48).toNat) else none

def kTup : Option (Nat × Nat) → Int × Int × Bool
  | none => (0, 0, false)
  | some p => ((p.1 : Int), (p.2 : Int), true)

theorem eq_impl_kindAt (s : ByteArray) : impl_kindAt.f s = some (kTup (kAt s)) := by
  unfold impl_kindAt.f kAt
  by_cases h0 : s.size = 3
  · rw [if_pos (by omega), if_pos (by omega)]
    by_cases h1 : bt s 0 = 83
    · rw [if_pos h1, if_pos (by omega)]
      by_cases h2 : bt s 1 < 48
      · rw [if_pos h2, if_neg (by omega)]
        rfl
      · rw [if_neg h2]
        by_cases h3 : bt s 1 > 57
        · rw [if_pos h3, if_neg (by omega)]
          rfl
        · rw [if_neg h3, if_pos (by omega)]
          by_cases h4 : bt s 2 < 48
          · rw [if_pos h4, if_neg (by omega)]
            rfl
          · rw [if_neg h4]
            by_cases h5 : bt s 2 > 57
            · rw [if_pos h5, if_neg (by omega)]
              rfl
            · rw [if_neg h5, if_pos (by omega)]
              have e1 : (bt s 1 - 48) % 256 = ((bt s 1 - 48).toNat : Int) := by omega
              have e2 : (bt s 2 - 48) % 256 = ((bt s 2 - 48).toNat : Int) := by omega
              rw [e1, e2]
              rfl
    · rw [if_neg h1, if_neg (by omega)]
      rfl
  · rw [if_neg (by omega), if_neg (by omega)]
    rfl

theorem eq_spec_l1Kind (s : ByteArray) : spec_l1Kind.f s = some (kTup (kAt s)) := eq_impl_kindAt s

/-- The record of a kind. -/
def kGet (K : Kinds) (s : ByteArray) : Option Rec := (kAt s).bind fun p => (K[p.1]?).bind fun l => l[p.2]?

theorem kGet_some {K : Kinds} {s : ByteArray} {x : Rec} (h : kGet K s = some x) : ∃ a b, kAt s = some (a, b) ∧ ∃ ha : a < K.length, ∃ hb : b < K[a].length, K[a][b] = x := by
  unfold kGet at h
  obtain ⟨⟨a, b⟩, h1, h2⟩ := Option.bind_eq_some_iff.1 h
  obtain ⟨l, h3, h4⟩ := Option.bind_eq_some_iff.1 h2
  obtain ⟨ha, rfl⟩ := List.getElem?_eq_some_iff.1 h3
  obtain ⟨hb, h5⟩ := List.getElem?_eq_some_iff.1 h4
  exact ⟨a, b, h1, ha, hb, h5⟩

theorem eq_impl_kindIn (K : Kinds) (s : ByteArray) : impl_kindIn.f K s = some (kGet K s).isSome := by
  unfold impl_kindIn.f kGet
  rw [eq_impl_kindAt]
  simp only [Option.bind_some]
  cases h : kAt s with
  | none => rfl
  | some p =>
    obtain ⟨a, b⟩ := p
    by_cases ha : a < K.length
    · have e : rd_L4 K (a : Int) = K[a] := getDn ha
      simp only [kTup, Option.bind_some, e, List.getElem?_eq_getElem ha]
      by_cases hb : b < K[a].length
      · simp [ha, hb]
      · simp [ha, hb]
    · simp [kTup, ha]

def isBase (s : ByteArray) : Bool := s.toList == [110] || (s.toList == [98] || s.toList == [111])

def plain (K : Kinds) (s : ByteArray) : Bool := isBase s || (kGet K s).isSome

theorem eq_impl_plainOk (K : Kinds) (s : ByteArray) : impl_plainOk.f K s = some (plain K s) := by
  unfold impl_plainOk.f plain isBase
  rw [eq_impl_kindIn]
  by_cases h1 : s.toList = [110]
  · simp [h1]
  · by_cases h2 : s.toList = [98]
    · simp [h2]
    · by_cases h3 : s.toList = [111]
      · simp [h3]
      · simp [h1, h2, h3]

theorem eq_spec_l1Base (s : ByteArray) : spec_l1Base.f s = some (isBase s) := by
  unfold spec_l1Base.f isBase
  by_cases h1 : s.toList = [110]
  · simp [h1]
  · by_cases h2 : s.toList = [98]
    · simp [h2]
    · have k1 : (s.toList == [110]) = false := beq_eq_false_iff_ne.2 h1
      have k2 : (s.toList == [98]) = false := beq_eq_false_iff_ne.2 h2
      rw [if_neg h1, if_neg h2, k1, k2]
      rfl

theorem eq_spec_l1Has (K : Kinds) (s : ByteArray) (a b : Nat) (h : kAt s = some (a, b)) : spec_l1Has.f K a b = some (kGet K s).isSome := by
  unfold spec_l1Has.f kGet
  rw [h]
  simp only [Option.bind_some]
  by_cases ha : a < K.length
  · rw [if_pos (by omega), if_pos (by omega)]
    have e : rd_L4 K (a : Int) = K[a] := getDn ha
    rw [e, List.getElem?_eq_getElem ha]
    simp only [Option.bind_some]
    by_cases hb : b < K[a].length
    · rw [List.getElem?_eq_getElem hb]
      simp [hb]
    · rw [List.getElem?_eq_none (by omega)]
      simp [hb]
  · rw [if_neg (by omega), List.getElem?_eq_none (by omega)]
    rfl

theorem list_size (s : ByteArray) : s.toList.length = s.size := by
  rw [ByteArray.toList_eq, Array.length_toList]
  rfl

theorem bt_one {s : ByteArray} {c : UInt8} (h : s.toList = [c]) : s.size = 1 ∧ bt s 0 = (c.toNat : Int) := by
  have h1 : s.size = 1 := by rw [← list_size, h]; rfl
  refine ⟨h1, ?_⟩
  rw [ByteArray.toList_eq] at h
  have h0 : (0 : Int).toNat < s.size := by rw [h1]; decide
  unfold bt
  rw [dif_pos h0]
  have h2 : s.data.toList[0]? = some c := by rw [h]; rfl
  rw [Array.getElem?_toList] at h2
  obtain ⟨h3, h4⟩ := Array.getElem?_eq_some_iff.1 h2
  have h5 : s[(0 : Int).toNat]'h0 = c := h4
  rw [h5]

theorem base_size {s : ByteArray} (h : isBase s = true) : s.size = 1 ∧ (bt s 0 = 110 ∨ bt s 0 = 98 ∨ bt s 0 = 111) := by
  unfold isBase at h
  simp only [Bool.or_eq_true, beq_iff_eq] at h
  rcases h with h | h | h
  · have := bt_one h
    exact ⟨this.1, .inl this.2⟩
  · have := bt_one h
    exact ⟨this.1, .inr (.inl this.2)⟩
  · have := bt_one h
    exact ⟨this.1, .inr (.inr this.2)⟩

theorem base_kAt {s : ByteArray} (h : isBase s = true) : kAt s = none := by
  have := base_size h
  unfold kAt
  rw [if_neg (by omega)]

theorem kAt_base {s : ByteArray} {p : Nat × Nat} (h : kAt s = some p) : isBase s = false := by
  cases hb : isBase s with
  | false => rfl
  | true => rw [base_kAt hb] at h; cases h

theorem kAt_size {s : ByteArray} {p : Nat × Nat} (h : kAt s = some p) : s.size = 3 ∧ bt s 0 = 83 := by
  unfold kAt at h
  split at h
  · rename_i hc
    exact ⟨hc.1, hc.2.1⟩
  · cases h

def isRef (s : ByteArray) : Bool := decide (0 < s.size) && (bt s 0 == 38 || bt s 0 == 33)

def strip (s : ByteArray) : ByteArray := if isRef s = true then s.extract 1 s.size else s

def sgn (s : ByteArray) : ByteArray := if isRef s = true then s.extract 0 1 else (⟨#[]⟩ : ByteArray)

theorem eq_impl_signOf (s : ByteArray) : impl_signOf.f s = some (sgn s, strip s) := by
  unfold impl_signOf.f sgn strip isRef
  have hs := list_size s
  by_cases h0 : s.toList = []
  · rw [if_pos h0]
    rw [h0] at hs
    have : ¬ 0 < s.size := by simp at hs; omega
    simp [this]
  · rw [if_neg h0]
    have h1 : 0 < s.size := by
      rcases Nat.eq_zero_or_pos s.size with h | h
      · rw [h] at hs
        exact absurd (List.eq_nil_of_length_eq_zero hs) h0
      · exact h
    rw [if_pos (by omega)]
    by_cases h2 : bt s 0 = 38
    · rw [if_pos h2, if_pos (by omega), if_pos (by omega)]
      simp [h1, h2]
    · rw [if_neg h2]
      by_cases h3 : bt s 0 = 33
      · rw [if_pos h3, if_pos (by omega), if_pos (by omega)]
        simp [h1, h3]
      · rw [if_neg h3]
        simp [h2, h3]

theorem eq_spec_l1RefR (s : ByteArray) : spec_l1Ref.f s = some (isRef s) := by
  unfold spec_l1Ref.f isRef
  by_cases h : 0 < s.size
  · rw [if_pos (by omega), if_pos (by omega)]
    by_cases h2 : bt s 0 = 38
    · rw [if_pos h2]
      simp [h, h2]
    · rw [if_neg h2]
      simp [h, h2]
  · rw [if_neg (by omega)]
    simp [h]

theorem first_byte {s : ByteArray} (h : 0 < s.size) (c : UInt8) : (s.extract 0 1).toList = [c] ↔ bt s 0 = (c.toNat : Int) := by
  have h0 : (0 : Int).toNat < s.size := h
  have e : (s.extract 0 1).toList = [s[(0 : Int).toNat]'h0] := by
    rw [ByteArray.toList_eq, ByteArray.data_extract]
    apply List.ext_getElem
    · have : s.data.size = s.size := rfl
      simp
      omega
    · intro i h1 h2
      have hi : i = 0 := by simpa using h2
      subst hi
      simp
      rfl
  rw [e]
  unfold bt
  rw [dif_pos h0]
  constructor
  · intro h
    injection h with h
    rw [h]
  · intro h
    have : s[(0 : Int).toNat]'h0 = c := by
      apply UInt8.toNat_inj.1
      exact_mod_cast h
    rw [this]

/-- The abilities of a type. -/
def able (K : Kinds) (s : ByteArray) : Int := if isRef s = true then (if bt s 0 = 38 then 3 else 2) else match kGet K s with | some x => x.f0 | none => 7

theorem eq_impl_recordOf (K : Kinds) (s : ByteArray) (x : Rec) (h : kGet K s = some x) : impl_recordOf.f K s = some (x.f0, x.f1) := by
  obtain ⟨a, b, h1, ha, hb, rfl⟩ := kGet_some h
  unfold impl_recordOf.f
  rw [eq_impl_kindAt, h1]
  simp only [Option.bind_some, kTup]
  have e : rd_L4 K (a : Int) = K[a] := getDn ha
  have e2 : rd_T81 K[a] (b : Int) = K[a][b] := getDn hb
  rw [e, e2, if_pos (by omega), if_pos (by omega), if_pos (by omega), if_pos (by omega)]

theorem eq_impl_ableOf (K : Kinds) (s : ByteArray) : impl_ableOf.f K s = some (able K s) := by
  unfold impl_ableOf.f able
  rw [eq_impl_signOf]
  simp only [Option.bind_some]
  by_cases hr : isRef s = true
  · have h0 : 0 < s.size ∧ (bt s 0 = 38 ∨ bt s 0 = 33) := by
      unfold isRef at hr
      simpa using hr
    have e1 := first_byte h0.1 38
    have e2 := first_byte h0.1 33
    have k1 : ((38 : UInt8).toNat : Int) = 38 := rfl
    have k2 : ((33 : UInt8).toNat : Int) = 33 := rfl
    rw [k1] at e1
    rw [k2] at e2
    unfold sgn
    rw [if_pos hr, if_pos hr]
    by_cases h1 : bt s 0 = 38
    · rw [if_pos (e1.2 h1), if_pos h1]
    · rw [if_neg (fun h => h1 (e1.1 h)), if_pos (e2.2 (by omega)), if_neg h1]
  · have hs : strip s = s := by unfold strip; rw [if_neg hr]
    have hg : (sgn s).toList = [] := by
      unfold sgn
      rw [if_neg hr, ByteArray.toList_eq]
    rw [if_neg hr, if_neg (by rw [hg]; simp), if_neg (by rw [hg]; simp), hs, eq_impl_kindIn]
    simp only [Option.bind_some]
    cases hk : kGet K s with
    | none => rfl
    | some x =>
      simp only [Option.isSome_some, if_true, eq_impl_recordOf K s x hk, Option.bind_some]

/-- May a text be the type of a field of the record (m, r)? -/
def fieldOk (K : Kinds) (m r : Nat) (t : ByteArray) : Bool := match kAt t with | some p => (kGet K t).isSome && decide (p.1 < m ∨ (p.1 = m ∧ p.2 < r)) | none => isBase t

theorem field_ref {K : Kinds} {m r : Nat} {t : ByteArray} (h : fieldOk K m r t = true) : isRef t = false := by
  unfold fieldOk at h
  cases hk : kAt t with
  | some p =>
    have := kAt_size hk
    unfold isRef
    simp [this.2]
  | none =>
    rw [hk] at h
    have := base_size h
    unfold isRef
    rcases this.2 with h | h | h <;> simp [h]

def abOk (A b : Int) : Bool := decide ((Go.bits .andNot .i64 (Go.bits .and .i64 A 7) b) = 0) && (decide ((Go.bits .and .i64 A 8) = 0) || !decide ((Go.bits .and .i64 b 4) = 0))

def can (a o : Int) : Bool := (Int.tmod (wrap64 (Int.tdiv a o)) 2) == 1

def abSpec (A b : Int) : Bool := (!((can A 1 && !can b 1) || (can A 2 && !can b 2))) && (!(decide (A ≥ 4)) || can b 4)

def valF (n : Nat) (c : UInt8) : Nat := 10 * n + (c.toNat - 48)

def val (l : List UInt8) : Nat := l.foldl valF 0

theorem ab_fin : ∀ a b : Fin 16, abSpec (a.val : Int) (b.val : Int) = abOk (a.val : Int) (b.val : Int) := by decide +kernel
theorem ab_same {A b : Int} (h0 : 0 ≤ A) (h1 : A ≤ 15) (h2 : 0 ≤ b) (h3 : b ≤ 15) : abSpec A b = abOk A b := by
  have := ab_fin ⟨A.toNat, by omega⟩ ⟨b.toNat, by omega⟩
  have e1 : ((A.toNat : Nat) : Int) = A := by omega
  have e2 : ((b.toNat : Nat) : Int) = b := by omega
  simp only [e1, e2] at this
  exact this

/-- Is the record x one, as the record (m, r)? -/
def recOk (K : Kinds) (m r : Nat) (x : Rec) : Bool := decide (0 ≤ x.f0 ∧ x.f0 ≤ 15 ∧ x.f1.length ≤ 3) && x.f1.all fun t => fieldOk K m r t && abOk x.f0 (able K t)

theorem ev_impl_recordOk (K : Kinds) (m r : Nat) (hm : m < K.length) (hr : r < K[m].length) : EvP (fun k => impl_recordOk.f k K m r) (· = recOk K m r K[m][r]) := by
  have e1 : rd_L4 K (m : Int) = K[m] := getDn hm
  have e2 : rd_T81 K[m] (r : Int) = K[m][r] := getDn hr
  generalize hx : K[m][r] = x at e2 ⊢
  have loop : x.f1.length ≤ 3 → ∀ i, i ≤ x.f1.length → EvP (fun k => impl_recordOk.l0 k K m r x.f1 (x.f1.length : Int) i x.f0 x.f1) (· = (x.f1.drop i).all fun t => fieldOk K m r t && abOk x.f0 (able K t)) := by
    intro h3
    refine upInd ?_ ?_
    · refine EvP.succ ?_
      simp only [impl_recordOk.l0]
      exact EvP.neg (by omega) (EvP.ret _ (by simp))
    · intro i hi ih
      refine EvP.succ ?_
      simp only [impl_recordOk.l0]
      have e : rdOf ByteArray.empty x.f1 (i : Int) = x.f1[i] := getDn hi
      rw [e, List.drop_eq_getElem_cons hi]
      generalize x.f1[i] = t
      have j2 : ∀ bad : Bool, bad = !fieldOk K m r t → EvP (fun k => impl_recordOk.j2 k K m r t x.f1 (x.f1.length : Int) i bad x.f0 x.f1) (· = (t :: x.f1.drop (i + 1)).all fun t => fieldOk K m r t && abOk x.f0 (able K t)) := by
        intro bad hb
        subst hb
        refine EvP.succ ?_
        simp only [impl_recordOk.j2]
        refine EvP.ite (fun h => EvP.ret _ (by simp at h; simp [h])) (fun h => ?_)
        have hf : fieldOk K m r t = true := by simpa using h
        refine EvP.call (eq_impl_ableOf K t) ?_
        rw [w64s hi (by omega)]
        refine EvP.ite (fun h1 => EvP.ite (fun h2 => ?_) (fun h2 => EvP.ite (fun h4 => EvP.ret _ ?_) (fun h4 => ?_))) (fun h1 => EvP.ret _ ?_)
        · refine ih.mono (fun q hq => ?_)
          rw [hq]
          simp [hf, abOk, h1, h2]
        · simp [hf, abOk, h1, h2, h4]
        · refine ih.mono (fun q hq => ?_)
          rw [hq]
          simp [hf, abOk, h1, h2, h4]
        · simp [hf, abOk, h1]
      refine EvP.pos (by omega) (EvP.pos (by omega) (EvP.pos (by omega) (EvP.call (eq_impl_kindAt t) ?_)))
      cases hk : kAt t with
      | none =>
        refine EvP.neg (by simp [kTup]) (EvP.call (eq_impl_plainOk K t) (j2 _ ?_))
        unfold fieldOk plain kGet
        rw [hk]
        simp
      | some p =>
        obtain ⟨a, b⟩ := p
        simp only [kTup]
        have hbf := kAt_base hk
        refine EvP.pos (by trivial) (EvP.ite (fun h => j2 _ ?_) (fun h => EvP.ite (fun h1 => EvP.ite (fun h2 => j2 _ ?_) (fun h2 => EvP.call (eq_impl_plainOk K t) (j2 _ ?_))) (fun h1 => EvP.call (eq_impl_plainOk K t) (j2 _ ?_))))
        · unfold fieldOk
          rw [hk]
          have : ¬ (a < m ∨ (a = m ∧ b < r)) := by omega
          simp [this]
        · unfold fieldOk
          rw [hk]
          have : ¬ (a < m ∨ (a = m ∧ b < r)) := by omega
          simp [this]
        · unfold fieldOk plain
          rw [hk, hbf]
          have : (a < m ∨ (a = m ∧ b < r)) := by omega
          simp [this]
        · unfold fieldOk plain
          rw [hk, hbf]
          have : (a < m ∨ (a = m ∧ b < r)) := by omega
          simp [this]
  have j0 : ∀ bad : Bool, bad = !decide (0 ≤ x.f0 ∧ x.f0 ≤ 15 ∧ x.f1.length ≤ 3) → EvP (fun k => impl_recordOk.j0 k K m r bad x.f0 x.f1) (· = recOk K m r x) := by
    intro bad hb
    subst hb
    refine EvP.succ ?_
    simp only [impl_recordOk.j0]
    unfold recOk
    refine EvP.ite (fun h => EvP.ret _ ?_) (fun h => ?_)
    · simp at h
      have : ¬ (0 ≤ x.f0 ∧ x.f0 ≤ 15 ∧ x.f1.length ≤ 3) := by omega
      simp [this]
    · simp at h
      refine (loop (by omega) 0 (by omega)).mono (fun q hq => ?_)
      rw [hq]
      have : (0 ≤ x.f0 ∧ x.f0 ≤ 15 ∧ x.f1.length ≤ 3) := by omega
      simp [this]
  unfold impl_recordOk.f
  rw [e1, e2]
  refine EvP.pos (by omega) (EvP.pos (by omega) (EvP.pos (by omega) (EvP.pos (by omega) ?_)))
  refine EvP.ite (fun h => j0 _ ?_) (fun h => EvP.ite (fun h1 => j0 _ ?_) (fun h1 => j0 _ ?_))
  · have : ¬ (0 ≤ x.f0 ∧ x.f0 ≤ 15 ∧ x.f1.length ≤ 3) := by omega
    simp [this]
  · have : ¬ (0 ≤ x.f0 ∧ x.f0 ≤ 15 ∧ x.f1.length ≤ 3) := by omega
    simp [this]
  · by_cases h2 : x.f1.length ≤ 3
    · have : (0 ≤ x.f0 ∧ x.f0 ≤ 15 ∧ x.f1.length ≤ 3) := by omega
      have h3 : ¬ ((x.f1.length : Int) > 3) := by omega
      simp [this]
      omega
    · have : ¬ (0 ≤ x.f0 ∧ x.f0 ≤ 15 ∧ x.f1.length ≤ 3) := by omega
      simp [this]
      omega

/-- The records ahead of (m, r) have abilities. -/
def Below16 (K : Kinds) (m r : Nat) : Prop := ∀ a b (ha : a < K.length) (hb : b < K[a].length), (a < m ∨ (a = m ∧ b < r)) → 0 ≤ K[a][b].f0 ∧ K[a][b].f0 ≤ 15

theorem able_field {K : Kinds} {m r : Nat} {t : ByteArray} (hI : Below16 K m r) (h : fieldOk K m r t = true) : 0 ≤ able K t ∧ able K t ≤ 15 := by
  have hr := field_ref h
  unfold able
  rw [hr]
  simp only [Bool.false_eq_true, if_false]
  cases hg : kGet K t with
  | none => simp
  | some x =>
    obtain ⟨a, b, h1, ha, hb, rfl⟩ := kGet_some hg
    unfold fieldOk at h
    rw [h1] at h
    simp at h
    exact hI a b ha hb h.2

theorem ev_spec_l1Able (K : Kinds) (t : ByteArray) (h : ∀ p, kAt t = some p → (kGet K t).isSome = true) : EvP (fun k => spec_l1Able.f k K t) (· = able K t) := by
  have j0 : ∀ c : Bool, c = (isRef t && (bt t 0 == 38)) → EvP (fun k => spec_l1Able.j0 k K t c) (· = able K t) := by
    intro c hc
    subst hc
    refine EvP.succ ?_
    simp only [spec_l1Able.j0]
    unfold able
    refine EvP.ite (fun h1 => EvP.ret _ (by simp at h1; simp [h1])) (fun h1 => EvP.call (eq_spec_l1RefR t) (EvP.ite (fun h2 => EvP.ret _ (by simp at h1; simp [h2, h1 h2])) (fun h2 => EvP.call (eq_spec_l1Kind t) ?_)))
    have h2 : isRef t = false := by simpa using h2
    cases hk : kAt t with
    | none =>
      refine EvP.neg (by simp [kTup]) (EvP.ret _ ?_)
      simp [h2, kGet, hk]
    | some p =>
      obtain ⟨x, hx⟩ := Option.isSome_iff_exists.1 (h p hk)
      obtain ⟨a, b, h3, ha, hb, rfl⟩ := kGet_some hx
      rw [h3] at hk
      obtain rfl := Option.some.inj hk
      simp only [kTup]
      have e : rd_L4 K (a : Int) = K[a] := getDn ha
      have e2 : rd_T81 K[a] (b : Int) = K[a][b] := getDn hb
      simp only [e, e2]
      refine EvP.pos (by trivial) (EvP.pos (by omega) (EvP.pos (by omega) (EvP.pos (by omega) (EvP.pos (by omega) (EvP.ret _ ?_)))))
      simp [h2, hx]
  unfold spec_l1Able.f
  refine EvP.call (eq_spec_l1RefR t) (EvP.ite (fun h1 => EvP.pos ?_ (j0 _ ?_)) (fun h1 => j0 _ ?_))
  · unfold isRef at h1
    simp at h1
    omega
  · simp [h1]
  · simp at h1
    simp [h1]

theorem eq_spec_l1Field (K : Kinds) (m r : Nat) (t : ByteArray) : spec_l1Field.f K m r t = some (fieldOk K m r t) := by
  unfold spec_l1Field.f fieldOk
  rw [eq_spec_l1Kind]
  simp only [Option.bind_some]
  cases hk : kAt t with
  | none =>
    rw [if_neg (by simp [kTup]), eq_spec_l1Base]
    rfl
  | some p =>
    obtain ⟨a, b⟩ := p
    simp only [kTup]
    rw [if_pos trivial, eq_spec_l1Has K t a b hk]
    simp only [Option.bind_some]
    cases hg : (kGet K t).isSome with
    | false => simp
    | true =>
      by_cases h1 : a < m
      · simp [h1]
      · by_cases h2 : a = m
        · simp [h2]
        · have h3 : ¬ ((a : Int) = (m : Int)) := by omega
          simp [h1, h2, h3]

theorem eq_spec_l1Can (a o : Int) (h : o ≠ 0) : spec_l1Can.f a o = some (can a o) := by
  unfold spec_l1Can.f can
  rw [if_neg h]

theorem ev_spec_l1Record (K : Kinds) (m r : Nat) (hm : m < K.length) (hr : r < K[m].length) (hI : Below16 K m r) : EvP (fun k => spec_l1Record.f k K m r) (· = recOk K m r K[m][r]) := by
  have e1 : rd_L4 K (m : Int) = K[m] := getDn hm
  have e2 : rd_T81 K[m] (r : Int) = K[m][r] := getDn hr
  generalize hx : K[m][r] = x at e2 ⊢
  have loop : (0 ≤ x.f0 ∧ x.f0 ≤ 15 ∧ x.f1.length ≤ 3) → ∀ i, i ≤ x.f1.length → EvP (fun k => spec_l1Record.l0 k K m r i x.f0 x.f1) (· = (x.f1.drop i).all fun t => fieldOk K m r t && abOk x.f0 (able K t)) := by
    intro h3
    refine upInd ?_ ?_
    · refine EvP.succ ?_
      simp only [spec_l1Record.l0]
      exact EvP.neg (by omega) (EvP.ret _ (by simp))
    · intro i hi ih
      refine EvP.succ ?_
      simp only [spec_l1Record.l0]
      have e : rdOf ByteArray.empty x.f1 (i : Int) = x.f1[i] := getDn hi
      rw [e, List.drop_eq_getElem_cons hi]
      generalize x.f1[i] = t
      refine EvP.pos (by omega) (EvP.pos (by omega) (EvP.call (eq_spec_l1Field K m r t) (EvP.ite (fun hf => ?_) (fun hf => EvP.ret _ (by simp at hf; simp [hf])))))
      have hA := able_field hI hf
      have hS := ab_same h3.1 h3.2.1 hA.1 hA.2
      refine EvP.bind (ev_spec_l1Able K t (fun p hp => by unfold fieldOk at hf; rw [hp] at hf; simp at hf; exact hf.1)) (fun w hw => ?_)
      subst hw
      have hall : ∀ q : Bool, q = (x.f1.drop (i + 1)).all (fun t => fieldOk K m r t && abOk x.f0 (able K t)) → ∀ c, c = abSpec x.f0 (able K t) → (c && q) = (t :: x.f1.drop (i + 1)).all (fun t => fieldOk K m r t && abOk x.f0 (able K t)) := by
        intro q hq c hc
        rw [hc, hS, hq, List.all_cons, hf, Bool.true_and]
      have j2 : ∀ bad : Bool, bad = ((can x.f0 1 && !can (able K t) 1) || (can x.f0 2 && !can (able K t) 2)) → EvP (fun k => spec_l1Record.j2 k K m r i (able K t) bad x.f0 x.f1) (· = (t :: x.f1.drop (i + 1)).all fun t => fieldOk K m r t && abOk x.f0 (able K t)) := by
        intro bad hb
        refine EvP.succ ?_
        simp only [spec_l1Record.j2]
        rw [w64s hi (by omega)]
        refine EvP.ite (fun h => EvP.ret _ ?_) (fun h => EvP.ite (fun h1 => EvP.call (eq_spec_l1Can _ 4 (by decide)) (EvP.ite (fun h2 => ih.mono (fun q hq => ?_)) (fun h2 => EvP.ret _ ?_))) (fun h1 => ih.mono (fun q hq => ?_)))
        · rw [← hall _ rfl _ rfl]
          unfold abSpec
          rw [← hb, h]
          simp
        · rw [← hall q hq _ rfl]
          unfold abSpec
          rw [← hb]
          simp [h, h2]
        · rw [← hall _ rfl _ rfl]
          unfold abSpec
          simp at h2
          simp [h1, h2]
        · rw [← hall q hq _ rfl]
          unfold abSpec
          rw [← hb]
          simp [h, h1]
      refine EvP.call (eq_spec_l1Can _ 1 (by decide)) (EvP.ite (fun c1 => EvP.call (eq_spec_l1Can _ 1 (by decide)) (EvP.ite (fun c2 => EvP.call (eq_spec_l1Can _ 2 (by decide)) (EvP.ite (fun c3 => EvP.call (eq_spec_l1Can _ 2 (by decide)) (j2 _ (by simp [c1, c2, c3]))) (fun c3 => j2 _ (by simp [c1, c2, c3])))) (fun c2 => j2 _ (by simp [c1, c2])))) (fun c1 => EvP.call (eq_spec_l1Can _ 2 (by decide)) (EvP.ite (fun c3 => EvP.call (eq_spec_l1Can _ 2 (by decide)) (j2 _ (by simp [c1, c3]))) (fun c3 => j2 _ (by simp [c1, c3])))))
  have j0 : ∀ bad : Bool, (bad = !decide (0 ≤ x.f0 ∧ x.f0 ≤ 15 ∧ x.f1.length ≤ 3)) → EvP (fun k => spec_l1Record.j0 k K m r bad x.f0 x.f1) (· = recOk K m r x) := by
    intro bad hb
    subst hb
    refine EvP.succ ?_
    simp only [spec_l1Record.j0]
    unfold recOk
    refine EvP.ite (fun h => EvP.ret _ ?_) (fun h => ?_)
    · simp at h
      have : ¬ (0 ≤ x.f0 ∧ x.f0 ≤ 15 ∧ x.f1.length ≤ 3) := by omega
      simp [this]
    · simp at h
      refine (loop (by omega) 0 (by omega)).mono (fun q hq => ?_)
      rw [hq]
      have : (0 ≤ x.f0 ∧ x.f0 ≤ 15 ∧ x.f1.length ≤ 3) := by omega
      simp [this]
  unfold spec_l1Record.f
  rw [e1, e2]
  refine EvP.pos (by omega) (EvP.pos (by omega) (EvP.pos (by omega) (EvP.pos (by omega) ?_)))
  have h6 : spec_l6In.f x.f0 0 15 = some (decide (0 ≤ x.f0 ∧ x.f0 ≤ 15)) := by
    unfold spec_l6In.f
    by_cases h : x.f0 ≥ 0
    · rw [if_pos h]
      simp [h]
    · rw [if_neg h]
      have : ¬ 0 ≤ x.f0 := by omega
      simp [this]
  refine EvP.call h6 (EvP.ite (fun h => j0 _ ?_) (fun h => j0 _ ?_))
  · simp at h
    by_cases h2 : x.f1.length ≤ 3
    · have : (0 ≤ x.f0 ∧ x.f0 ≤ 15 ∧ x.f1.length ≤ 3) := by omega
      have h3 : ¬ ((x.f1.length : Int) > 3) := by omega
      simp [this]
      omega
    · have : ¬ (0 ≤ x.f0 ∧ x.f0 ≤ 15 ∧ x.f1.length ≤ 3) := by omega
      simp [this]
      omega
  · have : ¬ (0 ≤ x.f0 ∧ x.f0 ≤ 15 ∧ x.f1.length ≤ 3) := by
      simp at h
      omega
    simp [this]

/-- The first record of module m, from r on, that is none. -/
def kbIn (K : Kinds) (m : Nat) : Nat → Nat → Option Nat
  | 0, _ => none
  | d + 1, r => if recOk K m r ((K.getD m []).getD r z81) = true then kbIn K m d (r + 1) else some r

/-- The first bad place, from module m on. -/
def kbFrom (K : Kinds) : Nat → Nat → Int × Int
  | 0, _ => (-1, -1)
  | d + 1, m => if (K.getD m []).length > 3 then ((m : Int), 3) else match kbIn K m (K.getD m []).length 0 with | some r => ((m : Int), (r : Int)) | none => kbFrom K d (m + 1)

def kBad (K : Kinds) : Int × Int := if K.length > 3 then (3, 0) else kbFrom K K.length 0

def kOk (K : Kinds) : Bool := (kBad K).1 == -1

theorem ev_impl_KindsBad (K : Kinds) : EvP (fun k => impl_KindsBad.f k K) (· = kBad K) := by
  unfold impl_KindsBad.f kBad
  refine EvP.ite (fun h => EvP.ret _ (by rw [if_pos (by omega)])) (fun h => ?_)
  rw [if_neg (by omega)]
  have outer : ∀ d m, m + d = K.length → EvP (fun k => impl_KindsBad.l0 k K K (K.length : Int) m) (· = kbFrom K d m) := by
    intro d
    induction d with
    | zero =>
      intro m hm
      refine EvP.succ ?_
      simp only [impl_KindsBad.l0]
      exact EvP.neg (by omega) (EvP.ret _ rfl)
    | succ d ih =>
      intro m hm
      refine EvP.succ ?_
      simp only [impl_KindsBad.l0]
      have hlt : m < K.length := by omega
      have e1 : rd_L4 K (m : Int) = K[m] := getDn hlt
      have e3 : K.getD m [] = K[m] := by simp [List.getD_eq_getElem?_getD, List.getElem?_eq_getElem hlt]
      rw [e1]
      unfold kbFrom
      rw [e3]
      refine EvP.pos (by omega) (EvP.pos (by omega) (EvP.pos (by omega) (EvP.ite (fun h2 => EvP.ret _ (by rw [if_pos (by omega)])) (fun h2 => ?_))))
      rw [if_neg (by omega)]
      have inner : ∀ e r, r + e = K[m].length → EvP (fun k => impl_KindsBad.l1 k K m K (K.length : Int) m (K[m].length : Int) r) (· = match kbIn K m e r with | some r => ((m : Int), (r : Int)) | none => kbFrom K d (m + 1)) := by
        intro e
        induction e with
        | zero =>
          intro r hr
          refine EvP.succ ?_
          simp only [impl_KindsBad.l1]
          rw [w64s hlt (by omega)]
          exact EvP.neg (by omega) (ih (m + 1) (by omega))
        | succ e ih2 =>
          intro r hr
          refine EvP.succ ?_
          simp only [impl_KindsBad.l1]
          have hrl : r < K[m].length := by omega
          have e4 : K[m].getD r z81 = K[m][r] := by simp [List.getD_eq_getElem?_getD, List.getElem?_eq_getElem hrl]
          rw [w64s hrl (by omega)]
          unfold kbIn
          rw [e3, e4]
          refine EvP.pos (by omega) (EvP.bind (ev_impl_recordOk K m r hlt hrl) (fun t ht => ?_))
          subst ht
          refine EvP.ite (fun h3 => ?_) (fun h3 => EvP.ret _ (by rw [if_neg h3]))
          rw [if_pos h3]
          exact ih2 (r + 1) (by omega)
      exact inner _ 0 (by omega)
  exact outer _ 0 (by omega)

theorem recOk_range {K : Kinds} {m r : Nat} {x : Rec} (h : recOk K m r x = true) : 0 ≤ x.f0 ∧ x.f0 ≤ 15 ∧ x.f1.length ≤ 3 := by
  unfold recOk at h
  simp at h
  omega

theorem ev_spec_KindsBad (K : Kinds) : EvP (fun k => spec_KindsBad.f k K) (· = kBad K) := by
  unfold spec_KindsBad.f kBad
  refine EvP.ite (fun h => EvP.ret _ (by rw [if_pos (by omega)])) (fun h => ?_)
  rw [if_neg (by omega)]
  have outer : ∀ d m, m + d = K.length → Below16 K m 0 → EvP (fun k => spec_KindsBad.l0 k K m) (· = kbFrom K d m) := by
    intro d
    induction d with
    | zero =>
      intro m hm _
      refine EvP.succ ?_
      simp only [spec_KindsBad.l0]
      exact EvP.neg (by omega) (EvP.ret _ rfl)
    | succ d ih =>
      intro m hm hI
      refine EvP.succ ?_
      simp only [spec_KindsBad.l0]
      have hlt : m < K.length := by omega
      have e1 : rd_L4 K (m : Int) = K[m] := getDn hlt
      have e3 : K.getD m [] = K[m] := by simp [List.getD_eq_getElem?_getD, List.getElem?_eq_getElem hlt]
      rw [e1]
      unfold kbFrom
      rw [e3]
      refine EvP.pos (by omega) (EvP.pos (by omega) (EvP.ite (fun h2 => EvP.ret _ (by rw [if_pos (by omega)])) (fun h2 => ?_)))
      rw [if_neg (by omega)]
      have inner : ∀ e r, r + e = K[m].length → Below16 K m r → EvP (fun k => spec_KindsBad.l1 k K m r) (· = match kbIn K m e r with | some r => ((m : Int), (r : Int)) | none => kbFrom K d (m + 1)) := by
        intro e
        induction e with
        | zero =>
          intro r hr hI
          refine EvP.succ ?_
          simp only [spec_KindsBad.l1]
          rw [e1, w64s hlt (by omega)]
          refine EvP.pos (by omega) (EvP.pos (by omega) (EvP.neg (by omega) (ih (m + 1) (by omega) ?_)))
          intro a b ha hb hab
          refine hI a b ha hb ?_
          rcases Nat.lt_or_ge a m with h5 | h5
          · exact .inl h5
          · obtain rfl : a = m := by omega
            exact .inr ⟨rfl, by omega⟩
        | succ e ih2 =>
          intro r hr hI
          refine EvP.succ ?_
          simp only [spec_KindsBad.l1]
          have hrl : r < K[m].length := by omega
          have e4 : K[m].getD r z81 = K[m][r] := by simp [List.getD_eq_getElem?_getD, List.getElem?_eq_getElem hrl]
          rw [e1, w64s hrl (by omega)]
          unfold kbIn
          rw [e3, e4]
          refine EvP.pos (by omega) (EvP.pos (by omega) (EvP.pos (by omega) (EvP.bind (ev_spec_l1Record K m r hlt hrl hI) (fun t ht => ?_))))
          subst ht
          refine EvP.ite (fun h3 => ?_) (fun h3 => EvP.ret _ (by rw [if_neg h3]))
          rw [if_pos h3]
          refine ih2 (r + 1) (by omega) ?_
          intro a b ha hb hab
          by_cases h6 : a = m ∧ b = r
          · obtain ⟨rfl, rfl⟩ := h6
            have := recOk_range h3
            omega
          · exact hI a b ha hb (by omega)
      exact inner _ 0 (by omega) hI
  exact outer _ 0 (by omega) (fun a b ha hb hab => by omega)

theorem ev_impl_KindsOk (K : Kinds) : EvP (fun k => impl_KindsOk.f k K) (· = kOk K) := by
  unfold impl_KindsOk.f
  refine EvP.bind (ev_impl_KindsBad K) (fun t ht => EvP.ret _ ?_)
  rw [ht]
  rfl

theorem kbFrom_neg (K : Kinds) : ∀ d m, (kbFrom K d m).1 = -1 ∨ 0 ≤ (kbFrom K d m).1 := by
  intro d
  induction d with
  | zero => exact fun m => .inl rfl
  | succ d ih =>
    intro m
    unfold kbFrom
    split
    · exact .inr (by show (0 : Int) ≤ (m : Int); omega)
    · split
      · exact .inr (by show (0 : Int) ≤ (m : Int); omega)
      · exact ih (m + 1)
theorem kBad_neg (K : Kinds) : (kBad K).1 = -1 ∨ 0 ≤ (kBad K).1 := by
  unfold kBad
  split
  · exact .inr (by decide)
  · exact kbFrom_neg K _ _

theorem ev_spec_KindsOk (K : Kinds) : EvP (fun k => spec_KindsOk.f k K) (· = kOk K) := by
  unfold spec_KindsOk.f
  refine EvP.bind (ev_spec_KindsBad K) (fun t ht => EvP.ret _ ?_)
  rw [ht]
  unfold kOk
  rcases kBad_neg K with h | h
  · rw [h]
    rfl
  · have h1 : ¬ (kBad K).1 < 0 := by omega
    have h2 : ¬ (kBad K).1 = -1 := by omega
    simp [h1, h2]

theorem lval_ind {P : S39 → Prop} (h : ∀ s n ps path, (∀ x ∈ ps, P x) → P ⟨s, n, ps, path⟩) (x : S39) : P x := by
  match x with
  | ⟨s, n, ps, path⟩ => exact h s n ps path (fun y hy => lval_ind h y)
termination_by SizeOf.sizeOf x
decreasing_by
  have := List.sizeOf_lt_of_mem hy
  simp
  omega

theorem ival_ind {P : S27 → Prop} (h : ∀ s n ps path, (∀ x ∈ ps, P x) → P ⟨s, n, ps, path⟩) (x : S27) : P x := by
  match x with
  | ⟨s, n, ps, path⟩ => exact h s n ps path (fun y hy => ival_ind h y)
termination_by SizeOf.sizeOf x
decreasing_by
  have := List.sizeOf_lt_of_mem hy
  simp
  omega

mutual
def wVal : S39 → Nat
  | ⟨s, _, ps, path⟩ => s.size + (ps.length + wValS ps) + wl (fun _ : Int => 0) path
def wValS : List S39 → Nat
  | [] => 0
  | x :: xs => wVal x + wValS xs
end
theorem wValS_sum : ∀ xs, wValS xs = (xs.map wVal).sum
  | [] => by simp [wValS]
  | x :: xs => by simp [wValS, wValS_sum xs]
theorem wVal_eq (s : ByteArray) (n : Int) (ps : List S39) (path : List Int) : wVal ⟨s, n, ps, path⟩ = s.size + wl wVal ps + wl (fun _ : Int => 0) path := by
  unfold wl
  rw [← wValS_sum, wVal]
  rfl

mutual
def gVal : S39 → Prop
  | ⟨s, n, ps, path⟩ => gStr s ∧ gInt n ∧ (ps.length ≤ 9223372036854775807 ∧ gValS ps) ∧ gL gInt path
def gValS : List S39 → Prop
  | [] => True
  | x :: xs => gVal x ∧ gValS xs
end
theorem gValS_mem : ∀ {xs : List S39}, gValS xs → ∀ x ∈ xs, gVal x
  | [], _, _, hx => by simp at hx
  | y :: ys, h, x, hx => by
    rw [gValS] at h
    rcases List.mem_cons.1 hx with rfl | hx
    · exact h.1
    · exact gValS_mem h.2 x hx
theorem gValS_of : ∀ {xs : List S39}, (∀ x ∈ xs, gVal x) → gValS xs
  | [], _ => by rw [gValS]; trivial
  | y :: ys, h => by
    rw [gValS]
    exact ⟨h y (by simp), gValS_of (fun x hx => h x (by simp [hx]))⟩

mutual
def cVal : S39 → S27
  | ⟨s, n, ps, path⟩ => ⟨s, n, cValS ps, path⟩
def cValS : List S39 → List S27
  | [] => []
  | x :: xs => cVal x :: cValS xs
end
theorem cValS_map : ∀ xs, cValS xs = xs.map cVal
  | [] => by simp [cValS]
  | x :: xs => by simp [cValS, cValS_map xs]
theorem cVal_eq (s : ByteArray) (n : Int) (ps : List S39) (path : List Int) : cVal ⟨s, n, ps, path⟩ = ⟨s, n, ps.map cVal, path⟩ := by
  rw [cVal, cValS_map]

theorem szValueS_l0 (k : Nat) (x0 : List S39) (x1 x5 : Int) : laws_szValueS.l0 (k + 1) x0 x1 x5 = if x5 < (x0.length : Int) then (if 0 ≤ x5 then ((laws_szValue.f k ((rd_T39 x0 x5).f0) ((rd_T39 x0 x5).f1) ((rd_T39 x0 x5).f2) ((rd_T39 x0 x5).f3) x1).bind fun t => (if t < 0 then (some (-1)) else (laws_szValueS.l0 k x0 t (wrap64 (x5 + 1))))) else (none)) else (some x1) := rfl

theorem ev_laws_szValueS_l0 (xs : List S39) (hl : xs.length ≤ 9223372036854775807) (hx : ∀ x ∈ xs, ∀ a : Int, 0 ≤ a → a ≤ 1048576 → EvP (fun k => laws_szValue.f k x.f0 x.f1 x.f2 x.f3 a) (fun r => 0 ≤ r → r = a - ((wVal x : Nat) : Int))) : ∀ i, i ≤ xs.length → ∀ a : Int, 0 ≤ a → a ≤ 1048576 → EvP (fun k => laws_szValueS.l0 k xs a i) (fun r => 0 ≤ r → r = a - ((((xs.drop i).map wVal).sum : Nat) : Int)) := by
  refine upInd ?_ ?_
  · intro a h0 h1
    refine EvP.succ ?_
    simp only [szValueS_l0]
    exact EvP.neg (by omega) (EvP.ret _ (fun _ => by simp))
  · intro i hi ih a h0 h1
    refine EvP.succ ?_
    simp only [szValueS_l0]
    have e : rd_T39 xs (i : Int) = xs[i] := getDn hi
    have hb := hx _ (List.getElem_mem hi)
    rw [e, w64s hi hl]
    refine EvP.pos (by omega) (EvP.pos (by omega) (EvP.bind (hb a h0 h1) (fun t ht => EvP.ite (fun hc => EvP.ret _ (fun h => absurd h (by omega))) (fun hc => ?_))))
    have ht := ht (by omega)
    refine (ih _ (by omega) (by omega)).mono (fun r hr h => ?_)
    rw [hr h, List.drop_eq_getElem_cons hi]
    simp only [List.map_cons, List.sum_cons]
    omega
theorem ev_laws_szValueS_of (xs : List S39) (h2 : xs.length ≤ 9223372036854775807) (hx : ∀ x ∈ xs, ∀ a : Int, 0 ≤ a → a ≤ 1048576 → EvP (fun k => laws_szValue.f k x.f0 x.f1 x.f2 x.f3 a) (fun r => 0 ≤ r → r = a - ((wVal x : Nat) : Int))) (a : Int) (h0 : 0 ≤ a) (h1 : a ≤ 1048576) : EvP (fun k => laws_szValueS.f k xs a) (fun r => 0 ≤ r → r = a - ((wl wVal xs : Nat) : Int)) := by
  unfold laws_szValueS.f
  rw [w64 (by omega) (by omega)]
  refine EvP.ite (fun hc => EvP.ret _ (fun h => absurd h (by omega))) (fun hc => ?_)
  refine (ev_laws_szValueS_l0 xs h2 hx 0 (by omega) _ (by omega) (by omega)).mono (fun r hr h => ?_)
  rw [hr h]
  simp only [List.drop_zero]
  unfold wl
  omega

theorem ev_laws_szValue (x : S39) : gVal x → ∀ a : Int, 0 ≤ a → a ≤ 1048576 → EvP (fun k => laws_szValue.f k x.f0 x.f1 x.f2 x.f3 a) (fun r => 0 ≤ r → r = a - ((wVal x : Nat) : Int)) := by
  refine lval_ind (P := fun x => gVal x → ∀ a : Int, 0 ≤ a → a ≤ 1048576 → EvP (fun k => laws_szValue.f k x.f0 x.f1 x.f2 x.f3 a) (fun r => 0 ≤ r → r = a - ((wVal x : Nat) : Int))) ?_ x
  intro s n ps path ih hg a h0 h1
  rw [gVal] at hg
  obtain ⟨hs, _, ⟨hl, hps⟩, hpath⟩ := hg
  show EvP (fun k => laws_szValue.f k s n ps path a) _
  unfold laws_szValue.f
  unfold gStr at hs
  rw [w64 (n := a - (s.size : Int)) (by omega) (by omega)]
  refine EvP.ite (fun hc => EvP.ret _ (fun h => absurd h (by omega))) (fun hc => ?_)
  obtain ⟨ts0, hts0⟩ : ∃ t : Int, t = a - (s.size : Int) := ⟨_, rfl⟩
  rw [← hts0] at hc ⊢
  refine EvP.bind (ev_laws_szValueS_of ps hl (fun y hy => ih y hy (gValS_mem hps y hy)) ts0 (by omega) (by omega)) (fun t2 ht2 => EvP.ite (fun hc => EvP.ret _ (fun h => absurd h (by omega))) (fun hc => ?_))
  have ht2 := ht2 (by omega)
  refine EvP.bind (ev_laws_szIntS path hpath t2 (by omega) (by omega)) (fun t3 ht3 => EvP.ite (fun hc => EvP.ret _ (fun h => absurd h (by omega))) (fun hc => ?_))
  have ht3 := ht3 (by omega)
  refine EvP.ret _ (fun _ => ?_)
  rw [wVal_eq]
  omega

theorem ival_eta (x : S27) : (⟨x.f0, x.f1, x.f2, x.f3⟩ : S27) = x := by
  cases x
  rfl

theorem toValueS_l0 (k : Nat) (x0 : List S39) (x3 : List S27) (x4 : Int) : laws_toValueS.l0 (k + 1) x0 x3 x4 = if x4 < (x0.length : Int) then (if 0 ≤ x4 then ((laws_toValue.f k ((rd_T39 x0 x4).f0) ((rd_T39 x0 x4).f1) ((rd_T39 x0 x4).f2) ((rd_T39 x0 x4).f3)).bind fun bt => (if x4 < (x3.length : Int) then (laws_toValueS.l0 k x0 (x3.set (x4 : Int).toNat (⟨bt.1, bt.2.1, bt.2.2.1, bt.2.2.2⟩ : S27)) (wrap64 (x4 + 1))) else (none))) else (none)) else (some x3) := rfl

theorem ev_laws_toValueS_l0 (xs : List S39) (hn : xs.length ≤ 1048576) (hx : ∀ x ∈ xs, EvP (fun k => laws_toValue.f k x.f0 x.f1 x.f2 x.f3) (· = ((cVal x).f0, (cVal x).f1, (cVal x).f2, (cVal x).f3))) : ∀ i, i ≤ xs.length → ∀ out : List (S27), out.length = xs.length → out.take i = (xs.take i).map cVal → EvP (fun k => laws_toValueS.l0 k xs out i) (· = xs.map cVal) := by
  refine upInd ?_ ?_
  · intro out hl ht
    refine EvP.succ ?_
    simp only [toValueS_l0]
    refine EvP.neg (by omega) (EvP.ret _ ?_)
    rw [List.take_of_length_le (by omega), List.take_of_length_le (by omega)] at ht
    exact ht
  · intro i hi ih out hl ht
    refine EvP.succ ?_
    simp only [toValueS_l0]
    have e : rd_T39 xs (i : Int) = xs[i] := getDn hi
    rw [e, w64s hi (by omega), Int.toNat_natCast]
    refine EvP.pos (by omega) (EvP.pos (by omega) (EvP.bind (hx _ (List.getElem_mem hi)) (fun t ht2 => ?_)))
    subst ht2
    simp only [ival_eta]
    exact EvP.pos (by omega) (ih _ (by simpa using hl) (take_step (c := cVal) hi hl ht))
theorem ev_laws_toValueS_of (xs : List S39) (hn : xs.length ≤ 1048576) (hx : ∀ x ∈ xs, EvP (fun k => laws_toValue.f k x.f0 x.f1 x.f2 x.f3) (· = ((cVal x).f0, (cVal x).f1, (cVal x).f2, (cVal x).f3))) : EvP (fun k => laws_toValueS.f k xs) (· = (xs.map cVal)) := by
  unfold laws_toValueS.f
  refine EvP.pos (by omega) (EvP.pos (by rw [Int.toNat_natCast]; omega) ?_)
  refine (ev_laws_toValueS_l0 xs hn hx 0 (by omega) _ (by simp) rfl).mono (fun r hr => ?_)
  rw [hr]

theorem ev_laws_toValue (x : S39) : wVal x ≤ 1048576 → EvP (fun k => laws_toValue.f k x.f0 x.f1 x.f2 x.f3) (· = ((cVal x).f0, (cVal x).f1, (cVal x).f2, (cVal x).f3)) := by
  refine lval_ind (P := fun x => wVal x ≤ 1048576 → EvP (fun k => laws_toValue.f k x.f0 x.f1 x.f2 x.f3) (· = ((cVal x).f0, (cVal x).f1, (cVal x).f2, (cVal x).f3))) ?_ x
  intro s n ps path ih hw
  rw [wVal_eq] at hw
  have hn := len_wl (f := wVal) (xs := ps)
  show EvP (fun k => laws_toValue.f k s n ps path) _
  rw [cVal_eq]
  unfold laws_toValue.f
  refine EvP.bind (ev_laws_toValueS_of ps (by omega) (fun y hy => ih y hy (by have := mem_wl (f := wVal) hy; omega))) (fun t2 h2 => ?_)
  subst h2
  refine EvP.bind (ev_laws_toIntS path (by omega)) (fun t3 h3 => ?_)
  subst h3
  exact EvP.ret _ rfl

mutual
def qVal : S27 → Prop
  | ⟨_, _, ps, path⟩ => (ps.length ≤ 1048576 ∧ qValS ps) ∧ path.length ≤ 1048576
def qValS : List S27 → Prop
  | [] => True
  | x :: xs => qVal x ∧ qValS xs
end
theorem qValS_mem : ∀ {xs : List S27}, qValS xs → ∀ x ∈ xs, qVal x
  | [], _, _, hx => by simp at hx
  | y :: ys, h, x, hx => by
    rw [qValS] at h
    rcases List.mem_cons.1 hx with rfl | hx
    · exact h.1
    · exact qValS_mem h.2 x hx
theorem qValS_of : ∀ {xs : List S27}, (∀ x ∈ xs, qVal x) → qValS xs
  | [], _ => by rw [qValS]; trivial
  | y :: ys, h => by
    rw [qValS]
    exact ⟨h y (by simp), qValS_of (fun x hx => h x (by simp [hx]))⟩

theorem qVal_c (x : S39) : wVal x ≤ 1048576 → qVal (cVal x) := by
  refine lval_ind (P := fun x => wVal x ≤ 1048576 → qVal (cVal x)) ?_ x
  intro s n ps path ih hw
  rw [wVal_eq] at hw
  have hn := len_wl (f := wVal) (xs := ps)
  have hp := len_wl (f := fun _ : Int => 0) (xs := path)
  rw [cVal_eq, qVal]
  refine ⟨⟨by rw [List.length_map]; omega, qValS_of (fun y hy => ?_)⟩, by omega⟩
  obtain ⟨z, hz, rfl⟩ := List.mem_map.1 hy
  exact ih z hz (by have := mem_wl (f := wVal) hz; omega)

theorem eqValueS_l0 (k : Nat) (x0 x1 : List S27) (x5 : Int) : laws_eqValueS.l0 (k + 1) x0 x1 x5 = if x5 < (x0.length : Int) then (if 0 ≤ x5 then (if x5 < (x1.length : Int) then ((laws_eqValue.f k ((rd_T27 x0 x5).f0) ((rd_T27 x0 x5).f1) ((rd_T27 x0 x5).f2) ((rd_T27 x0 x5).f3) ((rd_T27 x1 x5).f0) ((rd_T27 x1 x5).f1) ((rd_T27 x1 x5).f2) ((rd_T27 x1 x5).f3)).bind fun t => (if t = true then (laws_eqValueS.l0 k x0 x1 (wrap64 (x5 + 1))) else (some false))) else (none)) else (none)) else (some true) := rfl

theorem ev_laws_eqValueS_of (xs : List S27) (hl : xs.length ≤ 1048576) (hx : ∀ x ∈ xs, EvP (fun k => laws_eqValue.f k x.f0 x.f1 x.f2 x.f3 x.f0 x.f1 x.f2 x.f3) (· = true)) : EvP (fun k => laws_eqValueS.f k xs xs) (· = true) := by
  have key : ∀ i, i ≤ xs.length → EvP (fun k => laws_eqValueS.l0 k xs xs i) (· = true) := by
    refine upInd ?_ ?_
    · refine EvP.succ ?_
      simp only [eqValueS_l0]
      exact EvP.neg (by omega) (EvP.ret _ rfl)
    · intro i hi ih
      refine EvP.succ ?_
      simp only [eqValueS_l0]
      rw [w64s hi (by omega)]
      have e : rd_T27 xs (i : Int) = xs[i] := getDn hi
      rw [e]
      refine EvP.pos (by omega) (EvP.pos (by omega) (EvP.pos (by omega) (EvP.bind (hx _ (List.getElem_mem hi)) (fun t ht => ?_))))
      subst ht
      exact EvP.pos (by trivial) ih
  unfold laws_eqValueS.f
  exact EvP.pos (by trivial) (key 0 (by omega))
theorem ev_laws_eqValue (x : S27) : qVal x → EvP (fun k => laws_eqValue.f k x.f0 x.f1 x.f2 x.f3 x.f0 x.f1 x.f2 x.f3) (· = true) := by
  refine ival_ind (P := fun x => qVal x → EvP (fun k => laws_eqValue.f k x.f0 x.f1 x.f2 x.f3 x.f0 x.f1 x.f2 x.f3) (· = true)) ?_ x
  intro s n ps path ih hq
  rw [qVal] at hq
  show EvP (fun k => laws_eqValue.f k s n ps path s n ps path) _
  unfold laws_eqValue.f
  refine EvP.pos rfl (EvP.pos rfl (EvP.bind (ev_laws_eqValueS_of ps hq.1.1 (fun y hy => ih y hy (qValS_mem hq.1.2 y hy))) (fun t ht => EvP.pos ht ?_)))
  exact EvP.bind (ev_laws_eqIntS path (by show path.length ≤ _; omega)) (fun t ht => EvP.pos ht (EvP.ret _ rfl))

/-- A value fits its type. -/
def baseFits (t : ByteArray) (n : Int) : Bool := if t.toList = [110] then decide (0 ≤ n ∧ n ≤ 1000000) else if t.toList = [98] then decide (n = 0 ∨ n = 1) else decide (0 ≤ n ∧ n < 4)
mutual
def fits (K : Kinds) : S27 → Bool
  | ⟨t, n, ps, path⟩ => (path.length == 0) && (if isBase t = true then baseFits t n && (ps.length == 0) else match kGet K t with
    | some x => decide (n = 0) && ((ps.length == x.f1.length) && fitsS K x.f1 ps)
    | none => false)
def fitsS (K : Kinds) : List ByteArray → List S27 → Bool
  | f :: fs, p :: ps => decide (p.f0.toList = f.toList) && (fits K p && fitsS K fs ps)
  | _, [] => true
  | [], _ :: _ => false
end

def valOk (K : Kinds) (x : S27) : Bool := kOk K && fits K x

mutual
def vsize : S27 → Nat
  | ⟨_, _, ps, _⟩ => 1 + vsizeS ps
def vsizeS : List S27 → Nat
  | [] => 0
  | x :: xs => vsize x + vsizeS xs
end
theorem vsizeS_sum : ∀ xs, vsizeS xs = (xs.map vsize).sum
  | [] => by simp [vsizeS]
  | x :: xs => by simp [vsizeS, vsizeS_sum xs]
theorem vsize_eq (s : ByteArray) (n : Int) (ps : List S27) (path : List Int) : vsize ⟨s, n, ps, path⟩ = 1 + (ps.map vsize).sum := by
  rw [← vsizeS_sum, vsize]

theorem vsize_c (x : S39) : vsize (cVal x) ≤ 1 + wVal x := by
  refine lval_ind (P := fun x => vsize (cVal x) ≤ 1 + wVal x) ?_ x
  intro s n ps path ih
  rw [cVal_eq, vsize_eq, wVal_eq, List.map_map]
  have h : ∀ l : List S39, (∀ y ∈ l, vsize (cVal y) ≤ 1 + wVal y) → (l.map (vsize ∘ cVal)).sum ≤ wl wVal l := by
    intro l hl
    induction l with
    | nil => simp [wl]
    | cons y ys ihl =>
      have h1 := hl y (by simp)
      have h2 := ihl (fun z hz => hl z (by simp [hz]))
      unfold wl at h2 ⊢
      simp only [List.map_cons, List.sum_cons, List.length_cons, Function.comp]
      omega
  have := h ps ih
  omega

theorem fits_eq (K : Kinds) (t : ByteArray) (n : Int) (ps : List S27) (path : List Int) : fits K ⟨t, n, ps, path⟩ = ((path.length == 0) && (if isBase t = true then baseFits t n && (ps.length == 0) else match kGet K t with
    | some x => decide (n = 0) && ((ps.length == x.f1.length) && fitsS K x.f1 ps)
    | none => false)) := by rw [fits]
theorem fitsS_cons (K : Kinds) (f : ByteArray) (fs : List ByteArray) (p : S27) (ps : List S27) : fitsS K (f :: fs) (p :: ps) = (decide (p.f0.toList = f.toList) && (fits K p && fitsS K fs ps)) := by rw [fitsS]
theorem fitsS_nil (K : Kinds) (fs : List ByteArray) : fitsS K fs [] = true := by cases fs <;> rw [fitsS]

theorem ev_impl_valueFits (K : Kinds) (x : S27) : qVal x → EvP (fun k => impl_valueFits.f k K x.f0 x.f1 x.f2 x.f3) (· = fits K x) := by
  refine ival_ind (P := fun x => qVal x → EvP (fun k => impl_valueFits.f k K x.f0 x.f1 x.f2 x.f3) (· = fits K x)) ?_ x
  intro t n ps path ih hq
  rw [qVal] at hq
  obtain ⟨⟨hl, hps⟩, hpath⟩ := hq
  show EvP (fun k => impl_valueFits.f k K t n ps path) _
  rw [fits_eq]
  have loop : ∀ fs : List ByteArray, ps.length = fs.length → EvP (fun k => impl_valueFits.l0 k K fs ps (ps.length : Int) 0) (· = fitsS K fs ps) := by
    intro fs hf
    have key : ∀ i, i ≤ ps.length → EvP (fun k => impl_valueFits.l0 k K fs ps (ps.length : Int) i) (· = fitsS K (fs.drop i) (ps.drop i)) := by
      refine upInd ?_ ?_
      · refine EvP.succ ?_
        simp only [impl_valueFits.l0]
        exact EvP.neg (by omega) (EvP.ret _ (by rw [List.drop_length, fitsS_nil]))
      · intro i hi ih2
        refine EvP.succ ?_
        simp only [impl_valueFits.l0]
        have e : rd_T27 ps (i : Int) = ps[i] := getDn hi
        have e2 : rdOf ByteArray.empty fs (i : Int) = fs[i]'(by omega) := getDn (by omega)
        rw [e, e2, w64s hi (by omega), List.drop_eq_getElem_cons hi, List.drop_eq_getElem_cons (show i < fs.length by omega), fitsS_cons]
        refine EvP.pos (by omega) (EvP.pos (by omega) (EvP.pos (by omega) (EvP.pos (by omega) (EvP.ite (fun hc => ?_) (fun hc => EvP.ret _ (by rw [decide_eq_false hc, Bool.false_and]))))))
        rw [decide_eq_true hc, Bool.true_and]
        refine EvP.bind (ih _ (List.getElem_mem hi) (qValS_mem hps _ (List.getElem_mem hi))) (fun r hr => EvP.ite (fun h => ih2.mono (fun u hu => ?_)) (fun h => EvP.ret _ ?_))
        · rw [hu, ← hr, h, Bool.true_and]
        · rw [Bool.not_eq_true] at h
          rw [← hr, h, Bool.false_and]
    exact (key 0 (by omega)).mono (fun r hr => by simpa using hr)
  refine EvP.succ ?_
  simp only [impl_valueFits.f]
  refine EvP.ite (fun h => EvP.succ ?_) (fun h => ?_)
  · simp only [impl_valueFits.j0]
    refine EvP.pos trivial (EvP.ret _ ?_)
    have : (path.length == 0) = false := by rw [beq_eq_false_iff_ne]; omega
    rw [this, Bool.false_and]
  · have hp0 : (path.length == 0) = true := by rw [beq_iff_eq]; omega
    rw [hp0, Bool.true_and]
    refine EvP.call (eq_impl_plainOk K t) (EvP.succ ?_)
    simp only [impl_valueFits.j0]
    refine EvP.ite (fun h2 => EvP.ret _ ?_) (fun h2 => ?_)
    · have h2 : plain K t = false := by simpa using h2
      unfold plain at h2
      rw [Bool.or_eq_false_iff] at h2
      rw [if_neg (by rw [h2.1]; simp)]
      cases hk : kGet K t with
      | none => rfl
      | some x => rw [hk] at h2; simp at h2
    · have h2 : plain K t = true := by simpa using h2
      have lz : ((ps.length : Int) == 0) = (ps.length == 0) := by
        rw [Bool.eq_iff_iff, beq_iff_eq, beq_iff_eq]
        omega
      refine EvP.ite (fun h3 => ?_) (fun h3 => EvP.ite (fun h4 => ?_) (fun h4 => EvP.ite (fun h5 => ?_) (fun h5 => ?_)))
      · have hb : isBase t = true := by unfold isBase; rw [h3]; rfl
        have hf : baseFits t n = decide (0 ≤ n ∧ n ≤ 1000000) := by unfold baseFits; rw [if_pos h3]
        rw [if_pos hb, hf, lz]
        refine EvP.ite (fun h6 => EvP.ite (fun h7 => EvP.ret _ ?_) (fun h7 => EvP.ret _ ?_)) (fun h6 => EvP.ret _ ?_)
        · rw [decide_eq_true (by omega), Bool.true_and]
        · rw [decide_eq_false (by omega), Bool.false_and]
        · rw [decide_eq_false (by omega), Bool.false_and]
      · have hb : isBase t = true := by unfold isBase; rw [h4]; rfl
        have hf : baseFits t n = decide (n = 0 ∨ n = 1) := by unfold baseFits; rw [if_neg h3, if_pos h4]
        rw [if_pos hb, hf, lz]
        refine EvP.ite (fun h6 => EvP.ret _ ?_) (fun h6 => EvP.ite (fun h7 => EvP.ret _ ?_) (fun h7 => EvP.ret _ ?_))
        · rw [decide_eq_true (by omega), Bool.true_and]
        · rw [decide_eq_true (by omega), Bool.true_and]
        · rw [decide_eq_false (by omega), Bool.false_and]
      · have hb : isBase t = true := by unfold isBase; rw [h5]; rfl
        have hf : baseFits t n = decide (0 ≤ n ∧ n < 4) := by unfold baseFits; rw [if_neg h3, if_neg h4]
        rw [if_pos hb, hf, lz]
        refine EvP.ite (fun h6 => EvP.ite (fun h7 => EvP.ret _ ?_) (fun h7 => EvP.ret _ ?_)) (fun h6 => EvP.ret _ ?_)
        · rw [decide_eq_true (by omega), Bool.true_and]
        · rw [decide_eq_false (by omega), Bool.false_and]
        · rw [decide_eq_false (by omega), Bool.false_and]
      · have hb : isBase t = false := by
          unfold isBase
          rw [beq_eq_false_iff_ne.2 h3, beq_eq_false_iff_ne.2 h4, beq_eq_false_iff_ne.2 h5]
          rfl
        rw [if_neg (by rw [hb]; simp)]
        unfold plain at h2
        rw [hb, Bool.false_or] at h2
        obtain ⟨x, hx⟩ := Option.isSome_iff_exists.1 h2
        rw [hx]
        refine EvP.call (eq_impl_recordOf K t x hx) (EvP.ite (fun h6 => EvP.succ ?_) (fun h6 => EvP.succ ?_))
        · simp only [impl_valueFits.j1]
          show EvP _ (· = (decide (n = 0) && ((ps.length == x.f1.length) && fitsS K x.f1 ps)))
          rw [decide_eq_true h6, Bool.true_and]
          refine EvP.ite (fun h7 => EvP.ret _ ?_) (fun h7 => ?_)
          · have h7 : ¬ ((ps.length : Int) = (x.f1.length : Int)) := by simpa using h7
            rw [beq_eq_false_iff_ne.2 (show ps.length ≠ x.f1.length by omega), Bool.false_and]
          · have h7 : (ps.length : Int) = (x.f1.length : Int) := by simpa using h7
            rw [beq_iff_eq.2 (show ps.length = x.f1.length by omega), Bool.true_and]
            exact loop x.f1 (by omega)
        · simp only [impl_valueFits.j1]
          refine EvP.pos trivial (EvP.ret _ ?_)
          show false = (decide (n = 0) && _)
          rw [decide_eq_false h6, Bool.false_and]

theorem ev_spec_l2Ok (K : Kinds) (x : S27) : qVal x → EvP (fun k => spec_l2Ok.f k K x.f0 x.f1 x.f2 x.f3) (· = fits K x) := by
  refine ival_ind (P := fun x => qVal x → EvP (fun k => spec_l2Ok.f k K x.f0 x.f1 x.f2 x.f3) (· = fits K x)) ?_ x
  intro t n ps path ih hq
  rw [qVal] at hq
  obtain ⟨⟨hl, hps⟩, hpath⟩ := hq
  show EvP (fun k => spec_l2Ok.f k K t n ps path) _
  rw [fits_eq]
  refine EvP.succ ?_
  simp only [spec_l2Ok.f]
  have pl : spec_l2Plain.f t n ps path = some ((path.length == 0) && (ps.length == 0)) := by
    unfold spec_l2Plain.f
    have lz : ((path.length : Int) == 0) = (path.length == 0) := by
      rw [Bool.eq_iff_iff, beq_iff_eq, beq_iff_eq]
      omega
    by_cases h : (ps.length : Int) = 0
    · rw [if_pos h, lz, beq_iff_eq.2 (show ps.length = 0 by omega), Bool.and_true]
    · rw [if_neg h, beq_eq_false_iff_ne.2 (show ps.length ≠ 0 by omega), Bool.and_false]
  have inn : ∀ b : Int, spec_l6In.f n 0 b = some (decide (0 ≤ n ∧ n ≤ b)) := by
    intro b
    unfold spec_l6In.f
    by_cases h : n ≥ 0
    · rw [if_pos h]
      congr 1
      rw [decide_eq_decide]
      omega
    · rw [if_neg h, decide_eq_false (by omega)]
  have base : ∀ (b : Int) (B : Bool), decide (0 ≤ n ∧ n ≤ b) = B → EvP (fun _ : Nat => (spec_l2Plain.f t n ps path).bind fun t1 => if t1 = true then (spec_l6In.f n 0 b).bind fun t2 => some t2 else some false) (· = ((path.length == 0) && (B && (ps.length == 0)))) := by
    intro b B hB
    refine EvP.call pl (EvP.ite (fun h => EvP.call (inn b) (EvP.ret _ ?_)) (fun h => EvP.ret _ ?_))
    · rw [Bool.and_eq_true] at h
      rw [h.1, h.2, hB, Bool.true_and, Bool.and_true]
    · cases h1 : (path.length == 0) <;> cases h2 : (ps.length == 0) <;> simp_all
  refine EvP.ite (fun h3 => ?_) (fun h3 => EvP.ite (fun h4 => ?_) (fun h4 => EvP.ite (fun h5 => ?_) (fun h5 => ?_)))
  · have hb : isBase t = true := by unfold isBase; rw [h3]; rfl
    have hf : baseFits t n = decide (0 ≤ n ∧ n ≤ 1000000) := by unfold baseFits; rw [if_pos h3]
    rw [if_pos hb, hf]
    exact base 1000000 _ rfl
  · have hb : isBase t = true := by unfold isBase; rw [h4]; rfl
    have hf : baseFits t n = decide (n = 0 ∨ n = 1) := by unfold baseFits; rw [if_neg h3, if_pos h4]
    rw [if_pos hb, hf]
    exact base 1 _ (by rw [decide_eq_decide]; omega)
  · have hb : isBase t = true := by unfold isBase; rw [h5]; rfl
    have hf : baseFits t n = decide (0 ≤ n ∧ n < 4) := by unfold baseFits; rw [if_neg h3, if_neg h4]
    rw [if_pos hb, hf]
    exact base 3 _ (by rw [decide_eq_decide]; omega)
  · have hb : isBase t = false := by
      unfold isBase
      rw [beq_eq_false_iff_ne.2 h3, beq_eq_false_iff_ne.2 h4, beq_eq_false_iff_ne.2 h5]
      rfl
    rw [if_neg (by rw [hb]; simp)]
    refine EvP.call (eq_spec_l1Kind t) ?_
    have bad : ∀ a b : Int, EvP (fun k => spec_l2Ok.j0 k K a b true t n ps path) (· = false) := by
      intro a b
      refine EvP.succ ?_
      simp only [spec_l2Ok.j0]
      exact EvP.pos trivial (EvP.ret _ rfl)
    cases hk : kAt t with
    | none =>
      have hg : kGet K t = none := by unfold kGet; rw [hk]; rfl
      rw [hg]
      refine EvP.neg (by simp [kTup]) ((bad _ _).mono (fun r hr => by rw [hr, Bool.and_false]))
    | some p =>
      obtain ⟨a, b⟩ := p
      refine EvP.pos rfl (EvP.call (eq_spec_l1Has K t a b hk) (EvP.ite (fun h6 => ?_) (fun h6 => ?_)))
      · obtain ⟨x, hx⟩ := Option.isSome_iff_exists.1 h6
        obtain ⟨a', b', hk', ha, hb', hxe⟩ := kGet_some hx
        rw [hk] at hk'
        injection hk' with hk'
        injection hk' with e1 e2
        subst e1
        subst e2
        rw [hx]
        have eL : rd_L4 K (a : Int) = K[a] := getDn ha
        have eR : rd_T81 K[a] (b : Int) = x := by rw [← hxe]; exact getDn hb'
        show EvP _ (· = ((path.length == 0) && (decide (n = 0) && ((ps.length == x.f1.length) && fitsS K x.f1 ps))))
        refine EvP.ite (fun h7 => ?_) (fun h7 => (bad _ _).mono (fun r hr => by rw [hr, decide_eq_false h7, Bool.false_and, Bool.and_false]))
        rw [decide_eq_true h7, Bool.true_and]
        refine EvP.ite (fun h8 => (bad _ _).mono (fun r hr => ?_)) (fun h8 => ?_)
        · rw [hr, beq_eq_false_iff_ne.2 (show path.length ≠ 0 by omega), Bool.false_and]
        · rw [beq_iff_eq.2 (show path.length = 0 by omega), Bool.true_and]
          refine EvP.pos (by show (0 : Int) ≤ (a : Int); omega) (EvP.pos (by show (a : Int) < _; omega) (EvP.pos (by show (0 : Int) ≤ (b : Int); omega) (EvP.pos ?_ (EvP.succ ?_))))
          · show (b : Int) < ((rd_L4 K (a : Int)).length : Int)
            rw [eL]
            omega
          · simp only [spec_l2Ok.j0, kTup]
            simp only [eL, eR]
            refine EvP.ite (fun h9 => EvP.ret _ ?_) (fun h9 => ?_)
            · have h9 : ¬ ((ps.length : Int) = (x.f1.length : Int)) := by simpa using h9
              rw [beq_eq_false_iff_ne.2 (show ps.length ≠ x.f1.length by omega), Bool.false_and]
            · have h9 : (ps.length : Int) = (x.f1.length : Int) := by simpa using h9
              rw [beq_iff_eq.2 (show ps.length = x.f1.length by omega), Bool.true_and]
              have key : ∀ i, i ≤ ps.length → EvP (fun k => spec_l2Ok.l0 k K a b i t n ps path) (· = fitsS K (x.f1.drop i) (ps.drop i)) := by
                refine upInd ?_ ?_
                · refine EvP.succ ?_
                  simp only [spec_l2Ok.l0]
                  exact EvP.neg (by omega) (EvP.ret _ (by rw [List.drop_length, fitsS_nil]))
                · intro i hi ih2
                  refine EvP.succ ?_
                  simp only [spec_l2Ok.l0]
                  simp only [eL, eR]
                  have e : rd_T27 ps (i : Int) = ps[i] := getDn hi
                  have e2 : rdOf ByteArray.empty x.f1 (i : Int) = x.f1[i]'(by omega) := getDn (by omega)
                  rw [e, e2, w64s hi (by omega), List.drop_eq_getElem_cons hi, List.drop_eq_getElem_cons (show i < x.f1.length by omega), fitsS_cons]
                  refine EvP.pos (by omega) (EvP.pos (by omega) (EvP.pos (by omega) (EvP.pos (by omega) (EvP.pos (by omega) (EvP.pos (by omega) (EvP.pos (by omega) (EvP.ite (fun hc => ?_) (fun hc => EvP.ret _ (by rw [decide_eq_false hc, Bool.false_and])))))))))
                  rw [decide_eq_true hc, Bool.true_and]
                  refine EvP.bind (ih _ (List.getElem_mem hi) (qValS_mem hps _ (List.getElem_mem hi))) (fun r hr => EvP.ite (fun h => ih2.mono (fun u hu => ?_)) (fun h => EvP.ret _ ?_))
                  · rw [hu, ← hr, h, Bool.true_and]
                  · rw [Bool.not_eq_true] at h
                    rw [← hr, h, Bool.false_and]
              exact (key 0 (by omega)).mono (fun r hr => by simpa using hr)
      · rw [Bool.not_eq_true] at h6
        have hg : kGet K t = none := by
          cases e : kGet K t with
          | none => rfl
          | some y => rw [e] at h6; cases h6
        rw [hg]
        exact (bad _ _).mono (fun r hr => by rw [hr, Bool.and_false])

theorem ev_impl_ValueOk (K : Kinds) (x : S27) (hq : qVal x) : EvP (fun k => impl_ValueOk.f k K x.f0 x.f1 x.f2 x.f3) (· = valOk K x) := by
  unfold impl_ValueOk.f valOk
  refine EvP.bind (ev_impl_KindsOk K) (fun b hb => EvP.ite (fun h => EvP.bind (ev_impl_valueFits K x hq) (fun t ht => EvP.ret _ ?_)) (fun h => EvP.ret _ ?_))
  · rw [ht, ← hb, h, Bool.true_and]
  · rw [Bool.not_eq_true] at h
    rw [← hb, h, Bool.false_and]

theorem ev_spec_ValueOk (K : Kinds) (x : S27) (hq : qVal x) : EvP (fun k => spec_ValueOk.f k K x.f0 x.f1 x.f2 x.f3) (· = valOk K x) := by
  unfold spec_ValueOk.f valOk
  refine EvP.bind (ev_spec_KindsOk K) (fun b hb => EvP.ite (fun h => EvP.bind (ev_spec_l2Ok K x hq) (fun t ht => EvP.ret _ ?_)) (fun h => EvP.ret _ ?_))
  · rw [ht, ← hb, h, Bool.true_and]
  · rw [Bool.not_eq_true] at h
    rw [← hb, h, Bool.false_and]

theorem fitsS_mem (K : Kinds) : ∀ (ps : List S27) (fs : List ByteArray), fitsS K fs ps = true → ∀ y ∈ ps, fits K y = true
  | [], _, _, _, hy => by simp at hy
  | p :: ps, [], h, _, _ => by rw [fitsS] at h; cases h
  | p :: ps, f :: fs, h, y, hy => by
    rw [fitsS_cons, Bool.and_eq_true, Bool.and_eq_true] at h
    rcases List.mem_cons.1 hy with rfl | hy
    · exact h.2.1
    · exact fitsS_mem K ps fs h.2.2 y hy
theorem fits_parts {K : Kinds} {t : ByteArray} {n : Int} {ps : List S27} {path : List Int} (h : valOk K ⟨t, n, ps, path⟩ = true) : ∀ y ∈ ps, valOk K y = true := by
  unfold valOk at h ⊢
  rw [Bool.and_eq_true] at h
  intro y hy
  rw [h.1, Bool.true_and]
  have h2 := h.2
  rw [fits_eq, Bool.and_eq_true] at h2
  have h3 := h2.2
  split at h3
  · rw [Bool.and_eq_true, beq_iff_eq] at h3
    have e := List.eq_nil_of_length_eq_zero h3.2
    subst e
    simp at hy
  · split at h3
    · rw [Bool.and_eq_true, Bool.and_eq_true] at h3
      exact fitsS_mem K ps _ h3.2.2 y hy
    · cases h3

/-- A number's text. -/
def dec (n : Int) : ByteArray := ⟨(Lib.itoa n).toArray⟩

theorem dec_small {n : Nat} (h : n < 10) : dec (n : Int) = strOfNums [(wrap64 (48 + (n : Int))) % 256] := by
  unfold dec Lib.itoa
  rw [if_neg (by omega), Int.toNat_natCast, Lib.decDigits, dif_pos h]
  have h2 : n = 0 ∨ n = 1 ∨ n = 2 ∨ n = 3 ∨ n = 4 ∨ n = 5 ∨ n = 6 ∨ n = 7 ∨ n = 8 ∨ n = 9 := by omega
  rcases h2 with e | e | e | e | e | e | e | e | e | e <;> subst e <;> simp [strOfNums, wrap64]

theorem dec_step {n : Nat} (h : ¬ n < 10) : dec (n : Int) = dec ((n / 10 : Nat) : Int) ++ dec ((n % 10 : Nat) : Int) := by
  have h1 : Lib.decDigits (n % 10) = [UInt8.ofNat (48 + n % 10)] := by rw [Lib.decDigits, dif_pos (by omega)]
  unfold dec Lib.itoa
  rw [if_neg (by omega), if_neg (by omega), if_neg (by omega), Int.toNat_natCast, Int.toNat_natCast, Int.toNat_natCast, h1, Lib.decDigits, dif_neg h]
  apply ByteArray.ext
  simp

theorem dec_size : ∀ n : Nat, (dec (n : Int)).size ≤ n + 1 := by
  intro n
  induction n using Nat.strongRecOn with
  | _ n ih =>
    by_cases h : n < 10
    · rw [dec_small h]
      have : (strOfNums [(wrap64 (48 + (n : Int))) % 256]).size = 1 := rfl
      omega
    · rw [dec_step h, ByteArray.size_append]
      have h1 := ih (n / 10) (by omega)
      have h2 : (dec ((n % 10 : Nat) : Int)).size = 1 := by rw [dec_small (by omega)]; rfl
      omega

theorem ev_dec_all : ∀ n : Nat, n ≤ 1000001 → EvP (fun k => spec_l6Dec.f k (n : Int)) (· = dec (n : Int)) := by
  intro n
  induction n using Nat.strongRecOn with
  | _ n ih =>
    intro hn
    refine EvP.succ ?_
    simp only [spec_l6Dec.f]
    refine EvP.neg (by omega) (EvP.neg (by omega) (EvP.ite (fun h => EvP.ret _ (dec_small (by omega)).symm) (fun h => ?_)))
    have e1 : wrap64 (Int.tdiv (n : Int) 10) = ((n / 10 : Nat) : Int) := by
      have : Int.tdiv (n : Int) 10 = ((n / 10 : Nat) : Int) := rfl
      rw [this, w64 (by omega) (by omega)]
    have e2 : Int.tmod (n : Int) 10 = ((n % 10 : Nat) : Int) := rfl
    rw [e1, e2]
    refine EvP.bind (ih (n / 10) (by omega) (by omega)) (fun t ht => ?_)
    simp only [Option.bind_some]
    have hs := dec_size (n / 10)
    have h1 : (strOfNums [(wrap64 (48 + ((n % 10 : Nat) : Int))) % 256]).size = 1 := rfl
    refine EvP.pos (by rw [ht]; omega) (EvP.ret _ ?_)
    rw [ht, ← dec_small (by omega : n % 10 < 10), ← dec_step (by omega)]

theorem eq_itoa {a : Int} (h0 : 0 ≤ a) (h1 : a ≤ 1000001) : strconv_Itoa.f a = some (dec a) := by
  unfold strconv_Itoa.f
  rw [if_pos (by omega)]
  rfl

/-- Texts joined with blanks. -/
def joinB (l : List ByteArray) : ByteArray := ⟨(Lib.join (l.map (·.data.toList)) (⟨#[32]⟩ : ByteArray).data.toList).toArray⟩

def joinT (a : ByteArray) : List ByteArray → ByteArray
  | [] => a
  | t :: r => joinT ((a ++ (⟨#[32]⟩ : ByteArray)) ++ t) r
theorem joinT_eq : ∀ (r : List ByteArray) (a : ByteArray), (joinT a r).data.toList = a.data.toList ++ Lib.joinTail (⟨#[32]⟩ : ByteArray).data.toList (r.map (·.data.toList))
  | [], a => by simp [joinT, Lib.joinTail]
  | t :: r, a => by
    rw [joinT, joinT_eq r]
    simp [Lib.joinTail]
theorem joinB_nil : joinB [] = ⟨#[]⟩ := by
  unfold joinB
  rw [List.map_nil, Lib.join_nil]
theorem joinB_cons (a t : ByteArray) (r : List ByteArray) : joinT (a ++ t) r = a ++ joinB (t :: r) := by
  apply ByteArray.ext
  apply Array.toList_inj.1
  rw [joinT_eq]
  unfold joinB
  rw [List.map_cons, Lib.join_cons]
  simp

theorem joinT_size : ∀ (r : List ByteArray) (a : ByteArray), (joinT a r).size = a.size + (r.map fun t => t.size + 1).sum
  | [], a => by simp [joinT]
  | t :: r, a => by
    rw [joinT, joinT_size r]
    have : (⟨#[32]⟩ : ByteArray).size = 1 := rfl
    simp only [ByteArray.size_append, List.map_cons, List.sum_cons]
    omega
theorem joinB_size : ∀ (l : List ByteArray), (joinB l).size ≤ (l.map fun t => t.size + 1).sum
  | [] => by rw [joinB_nil]; exact Nat.zero_le _
  | t :: r => by
    have h := joinB_cons ⟨#[]⟩ t r
    have h0 : (⟨#[]⟩ : ByteArray).size = 0 := rfl
    have h2 := congrArg ByteArray.size h
    rw [joinT_size, ByteArray.size_append, ByteArray.size_append] at h2
    simp only [List.map_cons, List.sum_cons]
    omega

-- The text of a value.
mutual
def vtext : S27 → ByteArray
  | ⟨t, n, ps, _⟩ => if t.toList = [110] then dec n else if t.toList = [98] then (if n = 0 then ⟨#[45]⟩ else ⟨#[43]⟩) else if t.toList = [111] then (⟨#[64]⟩ : ByteArray) ++ dec n else ((t ++ (⟨#[40]⟩ : ByteArray)) ++ joinB (vtextS ps)) ++ (⟨#[41]⟩ : ByteArray)
def vtextS : List S27 → List ByteArray
  | [] => []
  | x :: xs => vtext x :: vtextS xs
end
theorem vtextS_map : ∀ xs, vtextS xs = xs.map vtext
  | [] => by simp [vtextS]
  | x :: xs => by simp [vtextS, vtextS_map xs]
theorem vtext_eq (t : ByteArray) (n : Int) (ps : List S27) (path : List Int) : vtext ⟨t, n, ps, path⟩ = if t.toList = [110] then dec n else if t.toList = [98] then (if n = 0 then ⟨#[45]⟩ else ⟨#[43]⟩) else if t.toList = [111] then (⟨#[64]⟩ : ByteArray) ++ dec n else ((t ++ (⟨#[40]⟩ : ByteArray)) ++ joinB (ps.map vtext)) ++ (⟨#[41]⟩ : ByteArray) := by
  rw [vtext, vtextS_map]

/-- What a value that fits is: one of the three plain ones, or a record (fits_parts: its parts fit). -/
theorem fits_open {K : Kinds} {t : ByteArray} {n : Int} {ps : List S27} {path : List Int} (h : fits K ⟨t, n, ps, path⟩ = true) :
    (t.toList = [110] ∧ 0 ≤ n ∧ n ≤ 1000000) ∨ (t.toList ≠ [110] ∧ t.toList = [98] ∧ (n = 0 ∨ n = 1)) ∨ (t.toList ≠ [110] ∧ t.toList ≠ [98] ∧ t.toList = [111] ∧ 0 ≤ n ∧ n < 4) ∨ (t.toList ≠ [110] ∧ t.toList ≠ [98] ∧ t.toList ≠ [111] ∧ t.size = 3 ∧ ∀ y ∈ ps, fits K y = true) := by
  rw [fits_eq, Bool.and_eq_true] at h
  have h3 := h.2
  by_cases h4 : t.toList = [110]
  · rw [if_pos (by unfold isBase; rw [h4]; rfl), Bool.and_eq_true] at h3
    have h5 := h3.1
    unfold baseFits at h5
    rw [if_pos h4] at h5
    exact .inl ⟨h4, of_decide_eq_true h5⟩
  · by_cases h5 : t.toList = [98]
    · rw [if_pos (by unfold isBase; rw [h5]; rfl), Bool.and_eq_true] at h3
      have h6 := h3.1
      unfold baseFits at h6
      rw [if_neg h4, if_pos h5] at h6
      exact .inr (.inl ⟨h4, h5, of_decide_eq_true h6⟩)
    · by_cases h6 : t.toList = [111]
      · rw [if_pos (by unfold isBase; rw [h6]; rfl), Bool.and_eq_true] at h3
        have h7 := h3.1
        unfold baseFits at h7
        rw [if_neg h4, if_neg h5] at h7
        exact .inr (.inr (.inl ⟨h4, h5, h6, of_decide_eq_true h7⟩))
      · have hb : isBase t = false := by
          unfold isBase
          rw [beq_eq_false_iff_ne.2 h4, beq_eq_false_iff_ne.2 h5, beq_eq_false_iff_ne.2 h6]
          rfl
        rw [if_neg (by rw [hb]; simp)] at h3
        cases hg : kGet K t with
        | none => rw [hg] at h3; cases h3
        | some x =>
          rw [hg] at h3
          simp only [Bool.and_eq_true] at h3
          obtain ⟨a, b, hk, _⟩ := kGet_some hg
          have hs : t.size = 3 := by
            unfold kAt at hk
            split at hk
            · rename_i hc; exact hc.1
            · cases hk
          exact .inr (.inr (.inr ⟨h4, h5, h6, hs, fitsS_mem K ps _ h3.2.2⟩))

theorem dec_pos (n : Nat) : 1 ≤ (dec (n : Int)).size := by
  by_cases h : n < 10
  · rw [dec_small h]
    exact Nat.le_refl 1
  · rw [dec_step h, ByteArray.size_append]
    have h2 : (dec ((n % 10 : Nat) : Int)).size = 1 := by rw [dec_small (by omega)]; rfl
    omega

theorem vtext_size (K : Kinds) (x : S27) : fits K x = true → 1 ≤ (vtext x).size ∧ (vtext x).size + 1 ≤ 1000010 * vsize x := by
  refine ival_ind (P := fun x => fits K x = true → 1 ≤ (vtext x).size ∧ (vtext x).size + 1 ≤ 1000010 * vsize x) ?_ x
  intro t n ps path ih hf
  rw [vtext_eq, vsize_eq]
  have c1 : (⟨#[64]⟩ : ByteArray).size = 1 := rfl
  have c2 : (⟨#[40]⟩ : ByteArray).size = 1 := rfl
  have c3 : (⟨#[41]⟩ : ByteArray).size = 1 := rfl
  rcases fits_open hf with ⟨h1, h2, h3⟩ | ⟨h0, h1, h2⟩ | ⟨h0, h4, h1, h2, h3⟩ | ⟨h1, h2, h3, h4, h5⟩
  · rw [if_pos h1]
    have sa := dec_size n.toNat
    have sb := dec_pos n.toNat
    rw [show ((n.toNat : Nat) : Int) = n by omega] at sa sb
    omega
  · rw [if_neg h0, if_pos h1]
    have e1 : (⟨#[45]⟩ : ByteArray).size = 1 := rfl
    have e2 : (⟨#[43]⟩ : ByteArray).size = 1 := rfl
    split <;> omega
  · rw [if_neg h0, if_neg h4, if_pos h1, ByteArray.size_append, c1]
    have sa := dec_size n.toNat
    rw [show ((n.toNat : Nat) : Int) = n by omega] at sa
    omega
  · rw [if_neg h1, if_neg h2, if_neg h3]
    simp only [ByteArray.size_append, c2, c3, h4]
    have hj := joinB_size (ps.map vtext)
    have hl : ∀ l : List S27, (∀ y ∈ l, (vtext y).size + 1 ≤ 1000010 * vsize y) → (((l.map vtext).map fun t => t.size + 1).sum) ≤ 1000010 * (l.map vsize).sum := by
      intro l hl
      induction l with
      | nil => simp
      | cons y ys ihl =>
        have h1 := hl y (by simp)
        have h2 := ihl (fun z hz => hl z (by simp [hz]))
        simp only [List.map_cons, List.sum_cons]
        omega
    have := hl ps (fun y hy => (ih y hy (h5 y hy)).2)
    omega

theorem vsum_get : ∀ (ps : List S27) (i : Nat) (h : i < ps.length), vsize ps[i] ≤ (ps.map vsize).sum
  | p :: ps, 0, _ => by simp only [List.getElem_cons_zero, List.map_cons, List.sum_cons]; omega
  | p :: ps, i + 1, h => by
    have := vsum_get ps i (by simpa using h)
    simp only [List.getElem_cons_succ, List.map_cons, List.sum_cons]
    omega

theorem two_of {n : Int} (h : n = 0 ∨ n = 1) : rdOf ByteArray.empty [(⟨#[45]⟩ : ByteArray), (⟨#[43]⟩ : ByteArray)] n = (if n = 0 then (⟨#[45]⟩ : ByteArray) else ⟨#[43]⟩) := by
  rcases h with rfl | rfl <;> rfl

theorem ev_impl_valueText (K : Kinds) (x : S27) : qVal x → fits K x = true → vsize x ≤ 2000000 → EvP (fun k => impl_valueText.f k x.f0 x.f1 x.f2 x.f3) (· = vtext x) := by
  refine ival_ind (P := fun x => qVal x → fits K x = true → vsize x ≤ 2000000 → EvP (fun k => impl_valueText.f k x.f0 x.f1 x.f2 x.f3) (· = vtext x)) ?_ x
  intro t n ps path ih hq hf hv
  have hsz := vtext_size K ⟨t, n, ps, path⟩ hf
  rw [qVal] at hq
  rw [vsize_eq] at hv hsz
  rw [vtext_eq] at hsz ⊢
  show EvP (fun k => impl_valueText.f k t n ps path) _
  refine EvP.succ ?_
  simp only [impl_valueText.f]
  rcases fits_open hf with ⟨h1, h2, h3⟩ | ⟨h0, h1, h2⟩ | ⟨h0, h4, h1, h2, h3⟩ | ⟨h1, h2, h3, h4, h5⟩
  · rw [if_pos h1]
    exact EvP.pos h1 (EvP.call (eq_itoa h2 (by omega)) (EvP.ret _ rfl))
  · rw [if_neg h0, if_pos h1]
    refine EvP.neg h0 (EvP.pos h1 ?_)
    simp only [Option.bind_some]
    exact EvP.pos (by omega) (EvP.pos (by simp only [List.length_cons, List.length_nil]; omega) (EvP.ret _ (two_of h2)))
  · rw [if_neg h0, if_neg h4, if_pos h1] at hsz ⊢
    rw [ByteArray.size_append] at hsz
    have c1 : (⟨#[64]⟩ : ByteArray).size = 1 := rfl
    exact EvP.neg h0 (EvP.neg h4 (EvP.pos h1 (EvP.call (eq_itoa h2 (by omega)) (EvP.pos (by omega) (EvP.ret _ rfl)))))
  · rw [if_neg h1, if_neg h2, if_neg h3] at hsz ⊢
    refine EvP.neg h1 (EvP.neg h2 (EvP.neg h3 ?_))
    simp only [ByteArray.size_append] at hsz
    have c2 : (⟨#[40]⟩ : ByteArray).size = 1 := rfl
    have c3 : (⟨#[41]⟩ : ByteArray).size = 1 := rfl
    have key : ∀ i, i ≤ ps.length → ∀ l : List ByteArray, l ++ (ps.drop i).map vtext = ps.map vtext → EvP (fun k => impl_valueText.l0 k l ps (ps.length : Int) i t n ps path) (· = ((t ++ (⟨#[40]⟩ : ByteArray)) ++ joinB (ps.map vtext)) ++ (⟨#[41]⟩ : ByteArray)) := by
      refine upInd ?_ ?_
      · intro l hl
        have e : l = ps.map vtext := by simpa using hl
        subst e
        refine EvP.succ ?_
        simp only [impl_valueText.l0]
        have ej : strings_Join.f (ps.map vtext) (⟨#[32]⟩ : ByteArray) = some (joinB (ps.map vtext)) := by
          unfold strings_Join.f
          refine if_pos ⟨?_, ?_⟩
          · rw [List.length_map]; omega
          · have : (joinB (ps.map vtext)).size = (Lib.join ((ps.map vtext).map (·.data.toList)) (⟨#[32]⟩ : ByteArray).data.toList).length := by
              unfold joinB ByteArray.size
              simp
            omega
        refine EvP.neg (by omega) (EvP.pos (by omega) (EvP.call ej (EvP.pos ?_ (EvP.pos ?_ (EvP.ret _ rfl)))))
        · simp only [ByteArray.size_append]; omega
        · simp only [ByteArray.size_append]; omega
      · intro i hi ih2 l hl
        have hll := congrArg List.length hl
        simp only [List.length_append, List.length_map, List.length_drop] at hll
        rw [List.drop_eq_getElem_cons hi, List.map_cons] at hl
        refine EvP.succ ?_
        simp only [impl_valueText.l0]
        have e : rd_T27 ps (i : Int) = ps[i] := getDn hi
        rw [e, w64s hi (by have := hq.1.1; omega)]
        refine EvP.pos (by omega) (EvP.pos (by omega) (EvP.pos (by omega) ?_))
        have hvi := vsum_get ps i hi
        refine EvP.bind (ih _ (List.getElem_mem hi) (qValS_mem hq.1.2 _ (List.getElem_mem hi)) (h5 _ (List.getElem_mem hi)) (by omega)) (fun r hr => EvP.pos (by have := hq.1.1; omega) ?_)
        subst hr
        exact ih2 _ (by rw [List.append_assoc]; exact hl)
    exact key 0 (by omega) [] (by simp)

theorem ev_spec_l2Text (K : Kinds) (x : S27) : qVal x → fits K x = true → vsize x ≤ 2000000 → EvP (fun k => spec_l2Text.f k x.f0 x.f1 x.f2 x.f3) (· = vtext x) := by
  refine ival_ind (P := fun x => qVal x → fits K x = true → vsize x ≤ 2000000 → EvP (fun k => spec_l2Text.f k x.f0 x.f1 x.f2 x.f3) (· = vtext x)) ?_ x
  intro t n ps path ih hq hf hv
  have hsz := vtext_size K ⟨t, n, ps, path⟩ hf
  rw [qVal] at hq
  rw [vsize_eq] at hv hsz
  rw [vtext_eq] at hsz ⊢
  show EvP (fun k => spec_l2Text.f k t n ps path) _
  refine EvP.succ ?_
  simp only [spec_l2Text.f]
  have hd : 0 ≤ n → n ≤ 1000001 → EvP (fun k => spec_l6Dec.f k n) (· = dec n) := by
    intro h0 h1
    have := ev_dec_all n.toNat (by omega)
    rwa [show ((n.toNat : Nat) : Int) = n by omega] at this
  rcases fits_open hf with ⟨h1, h2, h3⟩ | ⟨h0, h1, h2⟩ | ⟨h0, h4, h1, h2, h3⟩ | ⟨h1, h2, h3, h4, h5⟩
  · rw [if_pos h1]
    exact EvP.pos h1 (EvP.bind (hd h2 (by omega)) (fun r hr => EvP.ret _ hr))
  · rw [if_neg h0, if_pos h1]
    refine EvP.neg h0 (EvP.pos h1 ?_)
    simp only [Option.bind_some]
    exact EvP.pos (by omega) (EvP.pos (by simp only [List.length_cons, List.length_nil]; omega) (EvP.ret _ (two_of h2)))
  · rw [if_neg h0, if_neg h4, if_pos h1] at hsz ⊢
    rw [ByteArray.size_append] at hsz
    have c1 : (⟨#[64]⟩ : ByteArray).size = 1 := rfl
    refine EvP.neg h0 (EvP.neg h4 (EvP.pos h1 (EvP.bind (hd h2 (by omega)) (fun r hr => ?_))))
    subst hr
    exact EvP.pos (by omega) (EvP.ret _ rfl)
  · rw [if_neg h1, if_neg h2, if_neg h3] at hsz ⊢
    refine EvP.neg h1 (EvP.neg h2 (EvP.neg h3 (EvP.pos (by omega) ?_)))
    simp only [ByteArray.size_append] at hsz
    have c2 : (⟨#[40]⟩ : ByteArray).size = 1 := rfl
    have c3 : (⟨#[41]⟩ : ByteArray).size = 1 := rfl
    have c4 : (⟨#[32]⟩ : ByteArray).size = 1 := rfl
    have tail : ∀ i, i ≤ ps.length → 1 ≤ i → ∀ a : ByteArray, joinT a ((ps.drop i).map vtext) = (t ++ (⟨#[40]⟩ : ByteArray)) ++ joinB (ps.map vtext) → EvP (fun k => spec_l2Text.l0 k a i t n ps path) (· = ((t ++ (⟨#[40]⟩ : ByteArray)) ++ joinB (ps.map vtext)) ++ (⟨#[41]⟩ : ByteArray)) := by
      refine upInd ?_ ?_
      · intro _ a ha
        have e : a = (t ++ (⟨#[40]⟩ : ByteArray)) ++ joinB (ps.map vtext) := by simpa [joinT] using ha
        subst e
        refine EvP.succ ?_
        simp only [spec_l2Text.l0]
        refine EvP.neg (by omega) (EvP.pos ?_ (EvP.ret _ rfl))
        simp only [ByteArray.size_append]
        omega
      · intro i hi ih2 hi1 a ha
        have has := congrArg ByteArray.size ha
        rw [List.drop_eq_getElem_cons hi, List.map_cons] at ha has
        rw [joinT_size] at has
        simp only [List.map_cons, List.sum_cons, ByteArray.size_append] at has
        refine EvP.succ ?_
        simp only [spec_l2Text.l0]
        have e : rd_T27 ps (i : Int) = ps[i] := getDn hi
        rw [e, w64s hi (by have := hq.1.1; omega)]
        have hvi := vsum_get ps i hi
        refine EvP.pos (by omega) (EvP.pos (by omega) (EvP.pos (by omega) (EvP.pos (by omega) ?_)))
        refine EvP.bind (ih _ (List.getElem_mem hi) (qValS_mem hq.1.2 _ (List.getElem_mem hi)) (h5 _ (List.getElem_mem hi)) (by omega)) (fun r hr => ?_)
        subst hr
        refine EvP.pos ?_ (ih2 (by omega) _ ha)
        simp only [ByteArray.size_append]
        omega
    refine EvP.succ ?_
    simp only [spec_l2Text.l0]
    cases ps with
    | nil =>
      refine EvP.neg (by simp) (EvP.pos ?_ (EvP.ret _ ?_))
      · simp only [ByteArray.size_append]; omega
      · rw [List.map_nil, joinB_nil]
        congr 1
        apply ByteArray.ext
        simp
    | cons p ps =>
      have e : rd_T27 (p :: ps) 0 = p := rfl
      have hvi := vsum_get (p :: ps) 0 (by simp)
      rw [List.getElem_cons_zero] at hvi
      rw [e]
      have hj := joinB_cons (t ++ (⟨#[40]⟩ : ByteArray)) (vtext p) (ps.map vtext)
      have has := congrArg ByteArray.size hj
      rw [joinT_size] at has
      simp only [ByteArray.size_append] at has
      rw [List.map_cons] at hsz
      refine EvP.pos (by simp only [List.length_cons]; omega) (EvP.neg (by omega) (EvP.pos (by omega) ?_))
      refine EvP.bind (ih _ (by simp) (qValS_mem hq.1.2 _ (by simp)) (h5 _ (by simp)) (by omega)) (fun r hr => ?_)
      subst hr
      refine EvP.pos (by simp only [ByteArray.size_append]; omega) ?_
      have w1 : wrap64 (0 + 1) = ((1 : Nat) : Int) := by rw [w64 (by omega) (by omega)]; rfl
      rw [w1]
      exact tail 1 (by simp) (by omega) _ (by rw [List.map_cons, ← hj]; rfl)

/-- The text of a value of kinds. -/
def valueText (K : Kinds) (x : S27) : ByteArray := if valOk K x = true then vtext x else ⟨#[]⟩

theorem ev_impl_ValueText (K : Kinds) (x : S27) (hq : qVal x) (hv : vsize x ≤ 2000000) : EvP (fun k => impl_ValueText.f k K x.f0 x.f1 x.f2 x.f3) (· = valueText K x) := by
  unfold impl_ValueText.f valueText
  refine EvP.bind (ev_impl_ValueOk _ x hq) (fun b hb => ?_)
  subst hb
  refine EvP.ite (fun h => ?_) (fun h => EvP.ret _ (by rw [if_neg h]))
  rw [if_pos h]
  unfold valOk at h
  rw [Bool.and_eq_true] at h
  exact EvP.bind (ev_impl_valueText K x hq h.2 hv) (fun r hr => EvP.ret _ hr)

theorem ev_spec_ValueText (K : Kinds) (x : S27) (hq : qVal x) (hv : vsize x ≤ 2000000) : EvP (fun k => spec_ValueText.f k K x.f0 x.f1 x.f2 x.f3) (· = valueText K x) := by
  unfold spec_ValueText.f valueText
  refine EvP.bind (ev_spec_ValueOk _ x hq) (fun b hb => ?_)
  subst hb
  refine EvP.ite (fun h => ?_) (fun h => EvP.ret _ (by rw [if_neg h]))
  rw [if_pos h]
  unfold valOk at h
  rw [Bool.and_eq_true] at h
  exact EvP.bind (ev_spec_l2Text K x hq h.2 hv) (fun r hr => EvP.ret _ hr)

theorem FnExactValueText (l0 : List (List S99)) (x : S39) (g0 : gL (gL gRecord) l0) (gx : gVal x) : ∃ k, laws_FnExactValueText.f k l0 x.f0 x.f1 x.f2 x.f3 = some true := by
  refine EvP.rounds ?_
  unfold laws_FnExactValueText.f
  refine EvP.bind (ev_laws_szRecordSS l0 g0 1048576 (by omega) (by omega)) (fun t ht => EvP.ite (fun _ => EvP.ret _ rfl) (fun hc => ?_))
  have ht := ht (by omega)
  refine EvP.bind (ev_laws_szValue x gx t (by omega) (by omega)) (fun t2 ht2 => EvP.ite (fun _ => EvP.ret _ rfl) (fun hc2 => ?_))
  have ht2 := ht2 (by omega)
  have w0 : wl (wl wRecord) l0 ≤ 1048576 := by omega
  have w1 : wVal x ≤ 1048576 := by omega
  have hq := qVal_c x w1
  have hv : vsize (cVal x) ≤ 2000000 := by have := vsize_c x; omega
  refine EvP.bind (ev_laws_toRecordSS l0 w0) (fun K hK => ?_)
  subst hK
  refine EvP.bind (ev_laws_toValue x w1) (fun v hv1 => ?_)
  subst hv1
  refine EvP.bind (ev_spec_ValueText _ (cVal x) hq hv) (fun t3 h3 => ?_)
  refine EvP.bind (ev_laws_toRecordSS l0 w0) (fun K hK => ?_)
  subst hK
  refine EvP.bind (ev_laws_toValue x w1) (fun v hv1 => ?_)
  subst hv1
  refine EvP.bind (ev_impl_ValueText _ (cVal x) hq hv) (fun t4 h4 => EvP.pos (by rw [h3, h4]) ?_)
  refine EvP.bind (ev_laws_toRecordSS l0 w0) (fun K hK => ?_)
  subst hK
  refine EvP.bind (ev_laws_eqRecordSS _ (qKinds_c w0)) (fun t5 h5 => EvP.pos h5 ?_)
  refine EvP.bind (ev_laws_toValue x w1) (fun v hv1 => ?_)
  subst hv1
  exact EvP.bind (ev_laws_eqValue (cVal x) hq) (fun t6 h6 => EvP.pos h6 (EvP.ret _ rfl))


end Go.Proofs.YtdgmlakgnbmbbaaDoor.Pure
