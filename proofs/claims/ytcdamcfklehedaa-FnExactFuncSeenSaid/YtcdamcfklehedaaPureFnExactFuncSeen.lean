/- FuncSeen of the program and of the reference give the same for every shelf and every three numbers; the argument stays as it was. -/
import Derived.Test.YtcdamcfklehedaaOFnExactFuncSeenx1
import Derived.Test.YtcdamcfklehedaaOFnExactFuncSeenx2
import Derived.Test.YtcdamcfklehedaaOFnExactFuncSeenx3
import Derived.Test.YtcdamcfklehedaaOFnExactFuncSeenx4
import Derived.Test.YtcdamcfklehedaaOFnExactFuncSeenx5
import Derived.Test.YtcdamcfklehedaaOFnExactFuncSeenx6
import Derived.Test.YtcdamcfklehedaaOFnExactFuncSeenx7
import Derived.Test.YtcdamcfklehedaaOFnExactFuncSeenx8
import Derived.Test.YtcdamcfklehedaaBase
namespace Go.Proofs.Ytcdamcfklehedaa.Pure
open Go.RowKit Go.Proofs.Ytcdamcfklehedaa.OFnExactFuncSeen Go.Proofs.YtcdamcfklehedaaW.PrintWords Go.Proofs.YtcdamcfklehedaaW.PrintLast Go.Proofs.YtcdamcfklehedaaW.PrintMore Go.Proofs.Ytcdamcfklehedaa.Base
set_option linter.unusedVariables false
set_option linter.unusedSimpArgs false

theorem take_step {α β : Type} {c : α → β} {xs : List α} {out : List β} {i : Nat} (hi : i < xs.length) (hl : out.length = xs.length) (h : out.take i = (xs.take i).map c) : (out.set i (c xs[i])).take (i + 1) = (xs.take (i + 1)).map c := by
  rw [take_set_succ (by omega), h, List.take_succ_eq_append_getElem hi, List.map_append]
  rfl


def gRecord (x : S87) : Prop := gInt x.f0 ∧ (gL gStr) x.f1

def wRecord (x : S87) : Nat := wl ByteArray.size x.f1

def cRecord (x : S87) : S60 := ⟨x.f0, x.f1⟩

theorem ev_laws_szStringS_l0 (xs : List ByteArray) (hx : gL gStr xs) : ∀ i, i ≤ xs.length → ∀ a : Int, 0 ≤ a → a ≤ 1048576 → EvP (fun k => laws_szStringS.l0 k xs a i) (fun r => 0 ≤ r → r = a - ((((xs.drop i).map ByteArray.size).sum : Nat) : Int)) := by
  refine upInd ?_ ?_
  · intro a h0 h1
    refine EvP.succ ?_
    simp only [laws_szStringS.l0]
    exact EvP.neg (by omega) (EvP.ret _ (fun _ => by simp))
  · intro i hi ih a h0 h1
    refine EvP.succ ?_
    simp only [laws_szStringS.l0]
    have e : rdOf ByteArray.empty xs (i : Int) = xs[i] := getDn hi
    have hb := hx.2 _ (List.getElem_mem hi)
    unfold gStr at hb
    rw [e, w64s hi hx.1, w64 (n := a - (xs[i].size : Int)) (by omega) (by omega)]
    refine EvP.pos (by omega) (EvP.pos (by omega) (EvP.ite (fun hc => EvP.ret _ (fun h => absurd h (by omega))) (fun hc => ?_)))
    refine (ih _ (by omega) (by omega)).mono (fun r hr h => ?_)
    rw [hr h, List.drop_eq_getElem_cons hi]
    simp only [List.map_cons, List.sum_cons]
    omega
theorem ev_laws_szStringS (xs : List ByteArray) (hx : gL gStr xs) (a : Int) (h0 : 0 ≤ a) (h1 : a ≤ 1048576) : EvP (fun k => laws_szStringS.f k xs a) (fun r => 0 ≤ r → r = a - ((wl ByteArray.size xs : Nat) : Int)) := by
  have h2 := hx.1
  unfold laws_szStringS.f
  rw [w64 (by omega) (by omega)]
  refine EvP.ite (fun hc => EvP.ret _ (fun h => absurd h (by omega))) (fun hc => ?_)
  refine (ev_laws_szStringS_l0 xs hx 0 (by omega) _ (by omega) (by omega)).mono (fun r hr h => ?_)
  rw [hr h]
  simp only [List.drop_zero]
  unfold wl
  omega

theorem ev_laws_szRecord (a0 : Int) (l1 : List ByteArray) (hl1 : (gL gStr) l1) (a : Int) (h0 : 0 ≤ a) (h1 : a ≤ 1048576) : EvP (fun k => laws_szRecord.f k a0 l1 a) (fun r => 0 ≤ r → r = a - ((wl ByteArray.size l1 : Nat) : Int)) := by
  unfold laws_szRecord.f
  refine EvP.bind (ev_laws_szStringS l1 hl1 a (by omega) (by omega)) (fun tl1 htl1 => EvP.ite (fun hc => EvP.ret _ (fun h => absurd h (by omega))) (fun hc => ?_))
  have htl1 := htl1 (by omega)
  exact EvP.ret _ (fun _ => by omega)

theorem ev_laws_toStringS_l0 (xs : List ByteArray) (hx : wl ByteArray.size xs ≤ 1048576) : ∀ i, i ≤ xs.length → ∀ out : List ByteArray, out.length = xs.length → out.take i = (xs.take i).map id → EvP (fun k => laws_toStringS.l0 k xs out i) (· = xs.map id) := by
  have hn := Nat.le_trans len_wl hx
  refine upInd ?_ ?_
  · intro out hl ht
    refine EvP.succ ?_
    simp only [laws_toStringS.l0]
    refine EvP.neg (by omega) (EvP.ret _ ?_)
    rw [List.take_of_length_le (by omega), List.take_of_length_le (by omega)] at ht
    exact ht
  · intro i hi ih out hl ht
    refine EvP.succ ?_
    simp only [laws_toStringS.l0]
    have e : rdOf ByteArray.empty xs (i : Int) = xs[i] := getDn hi
    rw [e, w64s hi (by omega), Int.toNat_natCast]
    exact EvP.pos (by omega) (EvP.pos (by omega) (EvP.pos (by omega) (ih _ (by simpa using hl) (take_step (c := id) hi hl ht))))
theorem ev_laws_toStringS (xs : List ByteArray) (hx : wl ByteArray.size xs ≤ 1048576) : EvP (fun k => laws_toStringS.f k xs) (· = xs) := by
  have hn := Nat.le_trans len_wl hx
  unfold laws_toStringS.f
  refine EvP.pos (by omega) (EvP.pos (by rw [Int.toNat_natCast]; omega) ?_)
  refine (ev_laws_toStringS_l0 xs hx 0 (by omega) _ (by simp) rfl).mono (fun r hr => ?_)
  rw [hr]
  first | rfl | simp

theorem ev_laws_toRecord (a0 : Int) (l1 : List ByteArray) (hl1 : wl ByteArray.size l1 ≤ 1048576) : EvP (fun k => laws_toRecord.f k a0 l1) (· = (a0, l1)) := by
  unfold laws_toRecord.f
  refine EvP.bind (ev_laws_toStringS l1 hl1) (fun tl1 htl1 => ?_)
  subst htl1
  exact EvP.ret _ rfl

def qStringS (xs : List ByteArray) : Prop := xs.length ≤ 9223372036854775807

def qRecord (x : S60) : Prop := qStringS x.f1

theorem ev_laws_eqStringS_l0 (xs : List ByteArray) (hx : qStringS xs) : ∀ i, i ≤ xs.length → EvP (fun k => laws_eqStringS.l0 k xs xs i) (· = true) := by
  refine upInd ?_ ?_
  · refine EvP.succ ?_
    simp only [laws_eqStringS.l0]
    exact EvP.neg (by omega) (EvP.ret _ rfl)
  · intro i hi ih
    refine EvP.succ ?_
    simp only [laws_eqStringS.l0]
    rw [w64s hi hx]
    exact EvP.pos (by omega) (EvP.pos (by omega) (EvP.pos (by omega) (EvP.pos (by trivial) ih)))
theorem ev_laws_eqStringS (xs : List ByteArray) (hx : qStringS xs) : EvP (fun k => laws_eqStringS.f k xs xs) (· = true) := by
  unfold laws_eqStringS.f
  exact EvP.pos (by trivial) (ev_laws_eqStringS_l0 xs hx 0 (by omega))

theorem ev_laws_eqRecord (a0 : Int) (l1 : List ByteArray) (hl1 : qStringS l1) : EvP (fun k => laws_eqRecord.f k a0 l1 a0 l1) (· = true) := by
  unfold laws_eqRecord.f
  refine EvP.pos (by trivial) ?_
  refine EvP.bind (ev_laws_eqStringS l1 hl1) (fun tl1 htl1 => ?_)
  subst htl1
  refine EvP.pos (by trivial) ?_
  exact EvP.ret _ rfl

def gIns (x : S98) : Prop := gStr x.f0 ∧ gInt x.f1 ∧ gInt x.f2

def wIns (x : S98) : Nat := x.f0.size

def cIns (x : S98) : S83 := ⟨x.f0, x.f1, x.f2⟩

theorem ev_laws_szIns (s0 : ByteArray) (a1 : Int) (a2 : Int) (hs0 : gStr s0) (a : Int) (h0 : 0 ≤ a) (h1 : a ≤ 1048576) : EvP (fun _ => laws_szIns.f s0 a1 a2 a) (fun r => 0 ≤ r → r = a - ((s0.size : Nat) : Int)) := by
  unfold laws_szIns.f
  unfold gStr at hs0
  rw [w64 (n := a - (s0.size : Int)) (by omega) (by omega)]
  refine EvP.ite (fun hc => EvP.ret _ (fun h => absurd h (by omega))) (fun hc => ?_)
  obtain ⟨ts0, hts0⟩ : ∃ t : Int, t = a - (s0.size : Int) := ⟨_, rfl⟩
  rw [← hts0] at hc ⊢
  exact EvP.ret _ (fun _ => by omega)

theorem ev_laws_toIns (s0 : ByteArray) (a1 : Int) (a2 : Int)  : EvP (fun _ => laws_toIns.f s0 a1 a2) (· = (s0, a1, a2)) := by
  unfold laws_toIns.f
  exact EvP.ret _ rfl

def qIns (x : S83) : Prop := True

theorem ev_laws_eqIns (s0 : ByteArray) (a1 : Int) (a2 : Int)  : EvP (fun _ => laws_eqIns.f s0 a1 a2 s0 a1 a2) (· = true) := by
  unfold laws_eqIns.f
  refine EvP.pos (by trivial) ?_
  refine EvP.pos (by trivial) ?_
  refine EvP.pos (by trivial) ?_
  exact EvP.ret _ rfl

def gFunc (x : S91) : Prop := gInt x.f0 ∧ (gL gStr) x.f1 ∧ (gL gStr) x.f2 ∧ (gL gStr) x.f3 ∧ (gL gInt) x.f4 ∧ (gL gIns) x.f5

def wFunc (x : S91) : Nat := wl ByteArray.size x.f1 + wl ByteArray.size x.f2 + wl ByteArray.size x.f3 + wl (fun _ : Int => 0) x.f4 + wl wIns x.f5

def cFunc (x : S91) : S39 := ⟨x.f0, x.f1, x.f2, x.f3, x.f4, (x.f5.map cIns)⟩

theorem ev_laws_szIntS (xs : List Int) (hx : gL gInt xs) (a : Int) (h0 : 0 ≤ a) (h1 : a ≤ 1048576) : EvP (fun _ => laws_szIntS.f xs a) (fun r => 0 ≤ r → r = a - ((wl (fun _ : Int => 0) xs : Nat) : Int)) := by
  have h2 := hx.1
  unfold laws_szIntS.f
  rw [w64 (by omega) (by omega)]
  refine EvP.ite (fun hc => EvP.ret _ (fun h => absurd h (by omega))) (fun hc => EvP.ret _ (fun _ => ?_))
  unfold wl
  have := sum_map_zero xs
  omega

theorem ev_laws_szInsS_l0 (xs : List (S98)) (hx : gL gIns xs) : ∀ i, i ≤ xs.length → ∀ a : Int, 0 ≤ a → a ≤ 1048576 → EvP (fun k => laws_szInsS.l0 k xs a i) (fun r => 0 ≤ r → r = a - ((((xs.drop i).map wIns).sum : Nat) : Int)) := by
  refine upInd ?_ ?_
  · intro a h0 h1
    refine EvP.succ ?_
    simp only [laws_szInsS.l0]
    exact EvP.neg (by omega) (EvP.ret _ (fun _ => by simp))
  · intro i hi ih a h0 h1
    refine EvP.succ ?_
    simp only [laws_szInsS.l0]
    have e : rd_T98 xs (i : Int) = xs[i] := getDn hi
    have hb := hx.2 _ (List.getElem_mem hi)
    rw [e, w64s hi hx.1]
    refine EvP.pos (by omega) (EvP.pos (by omega) (EvP.bind (ev_laws_szIns xs[i].f0 xs[i].f1 xs[i].f2 hb.1 a h0 h1) (fun t ht => EvP.ite (fun hc => EvP.ret _ (fun h => absurd h (by omega))) (fun hc => ?_))))
    have ht := ht (by omega)
    refine (ih _ (by omega) (by omega)).mono (fun r hr h => ?_)
    have hw : wIns xs[i] = xs[i].f0.size := rfl
    rw [hr h, List.drop_eq_getElem_cons hi]
    simp only [List.map_cons, List.sum_cons]
    omega
theorem ev_laws_szInsS (xs : List (S98)) (hx : gL gIns xs) (a : Int) (h0 : 0 ≤ a) (h1 : a ≤ 1048576) : EvP (fun k => laws_szInsS.f k xs a) (fun r => 0 ≤ r → r = a - ((wl wIns xs : Nat) : Int)) := by
  have h2 := hx.1
  unfold laws_szInsS.f
  rw [w64 (by omega) (by omega)]
  refine EvP.ite (fun hc => EvP.ret _ (fun h => absurd h (by omega))) (fun hc => ?_)
  refine (ev_laws_szInsS_l0 xs hx 0 (by omega) _ (by omega) (by omega)).mono (fun r hr h => ?_)
  rw [hr h]
  simp only [List.drop_zero]
  unfold wl
  omega

theorem ev_laws_szFunc (a0 : Int) (l1 : List ByteArray) (l2 : List ByteArray) (l3 : List ByteArray) (l4 : List Int) (l5 : List (S98)) (hl1 : (gL gStr) l1) (hl2 : (gL gStr) l2) (hl3 : (gL gStr) l3) (hl4 : (gL gInt) l4) (hl5 : (gL gIns) l5) (a : Int) (h0 : 0 ≤ a) (h1 : a ≤ 1048576) : EvP (fun k => laws_szFunc.f k a0 l1 l2 l3 l4 l5 a) (fun r => 0 ≤ r → r = a - ((wl ByteArray.size l1 + wl ByteArray.size l2 + wl ByteArray.size l3 + wl (fun _ : Int => 0) l4 + wl wIns l5 : Nat) : Int)) := by
  unfold laws_szFunc.f
  refine EvP.bind (ev_laws_szStringS l1 hl1 a (by omega) (by omega)) (fun tl1 htl1 => EvP.ite (fun hc => EvP.ret _ (fun h => absurd h (by omega))) (fun hc => ?_))
  have htl1 := htl1 (by omega)
  refine EvP.bind (ev_laws_szStringS l2 hl2 tl1 (by omega) (by omega)) (fun tl2 htl2 => EvP.ite (fun hc => EvP.ret _ (fun h => absurd h (by omega))) (fun hc => ?_))
  have htl2 := htl2 (by omega)
  refine EvP.bind (ev_laws_szStringS l3 hl3 tl2 (by omega) (by omega)) (fun tl3 htl3 => EvP.ite (fun hc => EvP.ret _ (fun h => absurd h (by omega))) (fun hc => ?_))
  have htl3 := htl3 (by omega)
  refine EvP.bind (ev_laws_szIntS l4 hl4 tl3 (by omega) (by omega)) (fun tl4 htl4 => EvP.ite (fun hc => EvP.ret _ (fun h => absurd h (by omega))) (fun hc => ?_))
  have htl4 := htl4 (by omega)
  refine EvP.bind (ev_laws_szInsS l5 hl5 tl4 (by omega) (by omega)) (fun tl5 htl5 => EvP.ite (fun hc => EvP.ret _ (fun h => absurd h (by omega))) (fun hc => ?_))
  have htl5 := htl5 (by omega)
  exact EvP.ret _ (fun _ => by omega)

theorem ev_laws_toIntS_l0 (xs : List Int) (hx : wl (fun _ : Int => 0) xs ≤ 1048576) : ∀ i, i ≤ xs.length → ∀ out : List Int, out.length = xs.length → out.take i = (xs.take i).map id → EvP (fun k => laws_toIntS.l0 k xs out i) (· = xs.map id) := by
  have hn := Nat.le_trans len_wl hx
  refine upInd ?_ ?_
  · intro out hl ht
    refine EvP.succ ?_
    simp only [laws_toIntS.l0]
    refine EvP.neg (by omega) (EvP.ret _ ?_)
    rw [List.take_of_length_le (by omega), List.take_of_length_le (by omega)] at ht
    exact ht
  · intro i hi ih out hl ht
    refine EvP.succ ?_
    simp only [laws_toIntS.l0]
    have e : rd xs (i : Int) = xs[i] := getDn hi
    rw [e, w64s hi (by omega), Int.toNat_natCast]
    exact EvP.pos (by omega) (EvP.pos (by omega) (EvP.pos (by omega) (ih _ (by simpa using hl) (take_step (c := id) hi hl ht))))
theorem ev_laws_toIntS (xs : List Int) (hx : wl (fun _ : Int => 0) xs ≤ 1048576) : EvP (fun k => laws_toIntS.f k xs) (· = xs) := by
  have hn := Nat.le_trans len_wl hx
  unfold laws_toIntS.f
  refine EvP.pos (by omega) (EvP.pos (by rw [Int.toNat_natCast]; omega) ?_)
  refine (ev_laws_toIntS_l0 xs hx 0 (by omega) _ (by simp) rfl).mono (fun r hr => ?_)
  rw [hr]
  first | rfl | simp

theorem ev_laws_toInsS_l0 (xs : List (S98)) (hx : wl wIns xs ≤ 1048576) : ∀ i, i ≤ xs.length → ∀ out : List (S83), out.length = xs.length → out.take i = (xs.take i).map cIns → EvP (fun k => laws_toInsS.l0 k xs out i) (· = xs.map cIns) := by
  have hn := Nat.le_trans len_wl hx
  refine upInd ?_ ?_
  · intro out hl ht
    refine EvP.succ ?_
    simp only [laws_toInsS.l0]
    refine EvP.neg (by omega) (EvP.ret _ ?_)
    rw [List.take_of_length_le (by omega), List.take_of_length_le (by omega)] at ht
    exact ht
  · intro i hi ih out hl ht
    refine EvP.succ ?_
    simp only [laws_toInsS.l0]
    have e : rd_T98 xs (i : Int) = xs[i] := getDn hi
    rw [e, w64s hi (by omega), Int.toNat_natCast]
    have hm := mem_wl (f := wIns) (List.getElem_mem hi)
    have hw : wIns xs[i] = xs[i].f0.size := rfl
    refine EvP.pos (by omega) (EvP.pos (by omega) (EvP.bind (ev_laws_toIns xs[i].f0 xs[i].f1 xs[i].f2 ) (fun t ht2 => ?_)))
    subst ht2
    exact EvP.pos (by omega) (ih _ (by simpa using hl) (take_step (c := cIns) hi hl ht))
theorem ev_laws_toInsS (xs : List (S98)) (hx : wl wIns xs ≤ 1048576) : EvP (fun k => laws_toInsS.f k xs) (· = (xs.map cIns)) := by
  have hn := Nat.le_trans len_wl hx
  unfold laws_toInsS.f
  refine EvP.pos (by omega) (EvP.pos (by rw [Int.toNat_natCast]; omega) ?_)
  refine (ev_laws_toInsS_l0 xs hx 0 (by omega) _ (by simp) rfl).mono (fun r hr => ?_)
  rw [hr]

theorem ev_laws_toFunc (a0 : Int) (l1 : List ByteArray) (l2 : List ByteArray) (l3 : List ByteArray) (l4 : List Int) (l5 : List (S98)) (hl1 : wl ByteArray.size l1 ≤ 1048576) (hl2 : wl ByteArray.size l2 ≤ 1048576) (hl3 : wl ByteArray.size l3 ≤ 1048576) (hl4 : wl (fun _ : Int => 0) l4 ≤ 1048576) (hl5 : wl wIns l5 ≤ 1048576) : EvP (fun k => laws_toFunc.f k a0 l1 l2 l3 l4 l5) (· = (a0, l1, l2, l3, l4, (l5.map cIns))) := by
  unfold laws_toFunc.f
  refine EvP.bind (ev_laws_toStringS l1 hl1) (fun tl1 htl1 => ?_)
  subst htl1
  refine EvP.bind (ev_laws_toStringS l2 hl2) (fun tl2 htl2 => ?_)
  subst htl2
  refine EvP.bind (ev_laws_toStringS l3 hl3) (fun tl3 htl3 => ?_)
  subst htl3
  refine EvP.bind (ev_laws_toIntS l4 hl4) (fun tl4 htl4 => ?_)
  subst htl4
  refine EvP.bind (ev_laws_toInsS l5 hl5) (fun tl5 htl5 => ?_)
  subst htl5
  exact EvP.ret _ rfl

def qIntS (xs : List Int) : Prop := xs.length ≤ 9223372036854775807

def qInsS (xs : List (S83)) : Prop := xs.length ≤ 9223372036854775807 ∧ ∀ x ∈ xs, qIns x

def qFunc (x : S39) : Prop := qStringS x.f1 ∧ qStringS x.f2 ∧ qStringS x.f3 ∧ qIntS x.f4 ∧ qInsS x.f5

theorem ev_laws_eqIntS_l0 (xs : List Int) (hx : qIntS xs) : ∀ i, i ≤ xs.length → EvP (fun k => laws_eqIntS.l0 k xs xs i) (· = true) := by
  refine upInd ?_ ?_
  · refine EvP.succ ?_
    simp only [laws_eqIntS.l0]
    exact EvP.neg (by omega) (EvP.ret _ rfl)
  · intro i hi ih
    refine EvP.succ ?_
    simp only [laws_eqIntS.l0]
    rw [w64s hi hx]
    exact EvP.pos (by omega) (EvP.pos (by omega) (EvP.pos (by omega) (EvP.pos (by trivial) ih)))
theorem ev_laws_eqIntS (xs : List Int) (hx : qIntS xs) : EvP (fun k => laws_eqIntS.f k xs xs) (· = true) := by
  unfold laws_eqIntS.f
  exact EvP.pos (by trivial) (ev_laws_eqIntS_l0 xs hx 0 (by omega))

theorem ev_laws_eqInsS_l0 (xs : List (S83)) (hx : qInsS xs) : ∀ i, i ≤ xs.length → EvP (fun k => laws_eqInsS.l0 k xs xs i) (· = true) := by
  refine upInd ?_ ?_
  · refine EvP.succ ?_
    simp only [laws_eqInsS.l0]
    exact EvP.neg (by omega) (EvP.ret _ rfl)
  · intro i hi ih
    refine EvP.succ ?_
    simp only [laws_eqInsS.l0]
    rw [w64s hi hx.1]
    have e : rd_T83 xs (i : Int) = xs[i] := getDn hi
    have hb := hx.2 _ (List.getElem_mem hi)
    rw [e]
    refine EvP.pos (by omega) (EvP.pos (by omega) (EvP.pos (by omega) (EvP.bind (ev_laws_eqIns xs[i].f0 xs[i].f1 xs[i].f2 ) (fun t ht => ?_))))
    subst ht
    exact EvP.pos (by trivial) ih
theorem ev_laws_eqInsS (xs : List (S83)) (hx : qInsS xs) : EvP (fun k => laws_eqInsS.f k xs xs) (· = true) := by
  unfold laws_eqInsS.f
  exact EvP.pos (by trivial) (ev_laws_eqInsS_l0 xs hx 0 (by omega))

theorem ev_laws_eqFunc (a0 : Int) (l1 : List ByteArray) (l2 : List ByteArray) (l3 : List ByteArray) (l4 : List Int) (l5 : List (S83)) (hl1 : qStringS l1) (hl2 : qStringS l2) (hl3 : qStringS l3) (hl4 : qIntS l4) (hl5 : qInsS l5) : EvP (fun k => laws_eqFunc.f k a0 l1 l2 l3 l4 l5 a0 l1 l2 l3 l4 l5) (· = true) := by
  unfold laws_eqFunc.f
  refine EvP.pos (by trivial) ?_
  refine EvP.bind (ev_laws_eqStringS l1 hl1) (fun tl1 htl1 => ?_)
  subst htl1
  refine EvP.pos (by trivial) ?_
  refine EvP.bind (ev_laws_eqStringS l2 hl2) (fun tl2 htl2 => ?_)
  subst htl2
  refine EvP.pos (by trivial) ?_
  refine EvP.bind (ev_laws_eqStringS l3 hl3) (fun tl3 htl3 => ?_)
  subst htl3
  refine EvP.pos (by trivial) ?_
  refine EvP.bind (ev_laws_eqIntS l4 hl4) (fun tl4 htl4 => ?_)
  subst htl4
  refine EvP.pos (by trivial) ?_
  refine EvP.bind (ev_laws_eqInsS l5 hl5) (fun tl5 htl5 => ?_)
  subst htl5
  refine EvP.pos (by trivial) ?_
  exact EvP.ret _ rfl

def gModule (x : S49) : Prop := (gL gRecord) x.f0 ∧ (gL gFunc) x.f1 ∧ (gL gInt) x.f2

def wModule (x : S49) : Nat := wl wRecord x.f0 + wl wFunc x.f1 + wl (fun _ : Int => 0) x.f2

def cModule (x : S49) : S55 := ⟨(x.f0.map cRecord), (x.f1.map cFunc), x.f2⟩

theorem ev_laws_szRecordS_l0 (xs : List (S87)) (hx : gL gRecord xs) : ∀ i, i ≤ xs.length → ∀ a : Int, 0 ≤ a → a ≤ 1048576 → EvP (fun k => laws_szRecordS.l0 k xs a i) (fun r => 0 ≤ r → r = a - ((((xs.drop i).map wRecord).sum : Nat) : Int)) := by
  refine upInd ?_ ?_
  · intro a h0 h1
    refine EvP.succ ?_
    simp only [laws_szRecordS.l0]
    exact EvP.neg (by omega) (EvP.ret _ (fun _ => by simp))
  · intro i hi ih a h0 h1
    refine EvP.succ ?_
    simp only [laws_szRecordS.l0]
    have e : rd_T87 xs (i : Int) = xs[i] := getDn hi
    have hb := hx.2 _ (List.getElem_mem hi)
    rw [e, w64s hi hx.1]
    refine EvP.pos (by omega) (EvP.pos (by omega) (EvP.bind (ev_laws_szRecord xs[i].f0 xs[i].f1 hb.2 a h0 h1) (fun t ht => EvP.ite (fun hc => EvP.ret _ (fun h => absurd h (by omega))) (fun hc => ?_))))
    have ht := ht (by omega)
    refine (ih _ (by omega) (by omega)).mono (fun r hr h => ?_)
    have hw : wRecord xs[i] = wl ByteArray.size xs[i].f1 := rfl
    rw [hr h, List.drop_eq_getElem_cons hi]
    simp only [List.map_cons, List.sum_cons]
    omega
theorem ev_laws_szRecordS (xs : List (S87)) (hx : gL gRecord xs) (a : Int) (h0 : 0 ≤ a) (h1 : a ≤ 1048576) : EvP (fun k => laws_szRecordS.f k xs a) (fun r => 0 ≤ r → r = a - ((wl wRecord xs : Nat) : Int)) := by
  have h2 := hx.1
  unfold laws_szRecordS.f
  rw [w64 (by omega) (by omega)]
  refine EvP.ite (fun hc => EvP.ret _ (fun h => absurd h (by omega))) (fun hc => ?_)
  refine (ev_laws_szRecordS_l0 xs hx 0 (by omega) _ (by omega) (by omega)).mono (fun r hr h => ?_)
  rw [hr h]
  simp only [List.drop_zero]
  unfold wl
  omega

theorem ev_laws_szFuncS_l0 (xs : List (S91)) (hx : gL gFunc xs) : ∀ i, i ≤ xs.length → ∀ a : Int, 0 ≤ a → a ≤ 1048576 → EvP (fun k => laws_szFuncS.l0 k xs a i) (fun r => 0 ≤ r → r = a - ((((xs.drop i).map wFunc).sum : Nat) : Int)) := by
  refine upInd ?_ ?_
  · intro a h0 h1
    refine EvP.succ ?_
    simp only [laws_szFuncS.l0]
    exact EvP.neg (by omega) (EvP.ret _ (fun _ => by simp))
  · intro i hi ih a h0 h1
    refine EvP.succ ?_
    simp only [laws_szFuncS.l0]
    have e : rd_T91 xs (i : Int) = xs[i] := getDn hi
    have hb := hx.2 _ (List.getElem_mem hi)
    rw [e, w64s hi hx.1]
    refine EvP.pos (by omega) (EvP.pos (by omega) (EvP.bind (ev_laws_szFunc xs[i].f0 xs[i].f1 xs[i].f2 xs[i].f3 xs[i].f4 xs[i].f5 hb.2.1 hb.2.2.1 hb.2.2.2.1 hb.2.2.2.2.1 hb.2.2.2.2.2 a h0 h1) (fun t ht => EvP.ite (fun hc => EvP.ret _ (fun h => absurd h (by omega))) (fun hc => ?_))))
    have ht := ht (by omega)
    refine (ih _ (by omega) (by omega)).mono (fun r hr h => ?_)
    have hw : wFunc xs[i] = wl ByteArray.size xs[i].f1 + wl ByteArray.size xs[i].f2 + wl ByteArray.size xs[i].f3 + wl (fun _ : Int => 0) xs[i].f4 + wl wIns xs[i].f5 := rfl
    rw [hr h, List.drop_eq_getElem_cons hi]
    simp only [List.map_cons, List.sum_cons]
    omega
theorem ev_laws_szFuncS (xs : List (S91)) (hx : gL gFunc xs) (a : Int) (h0 : 0 ≤ a) (h1 : a ≤ 1048576) : EvP (fun k => laws_szFuncS.f k xs a) (fun r => 0 ≤ r → r = a - ((wl wFunc xs : Nat) : Int)) := by
  have h2 := hx.1
  unfold laws_szFuncS.f
  rw [w64 (by omega) (by omega)]
  refine EvP.ite (fun hc => EvP.ret _ (fun h => absurd h (by omega))) (fun hc => ?_)
  refine (ev_laws_szFuncS_l0 xs hx 0 (by omega) _ (by omega) (by omega)).mono (fun r hr h => ?_)
  rw [hr h]
  simp only [List.drop_zero]
  unfold wl
  omega

theorem ev_laws_szModule (l0 : List (S87)) (l1 : List (S91)) (l2 : List Int) (hl0 : (gL gRecord) l0) (hl1 : (gL gFunc) l1) (hl2 : (gL gInt) l2) (a : Int) (h0 : 0 ≤ a) (h1 : a ≤ 1048576) : EvP (fun k => laws_szModule.f k l0 l1 l2 a) (fun r => 0 ≤ r → r = a - ((wl wRecord l0 + wl wFunc l1 + wl (fun _ : Int => 0) l2 : Nat) : Int)) := by
  unfold laws_szModule.f
  refine EvP.bind (ev_laws_szRecordS l0 hl0 a (by omega) (by omega)) (fun tl0 htl0 => EvP.ite (fun hc => EvP.ret _ (fun h => absurd h (by omega))) (fun hc => ?_))
  have htl0 := htl0 (by omega)
  refine EvP.bind (ev_laws_szFuncS l1 hl1 tl0 (by omega) (by omega)) (fun tl1 htl1 => EvP.ite (fun hc => EvP.ret _ (fun h => absurd h (by omega))) (fun hc => ?_))
  have htl1 := htl1 (by omega)
  refine EvP.bind (ev_laws_szIntS l2 hl2 tl1 (by omega) (by omega)) (fun tl2 htl2 => EvP.ite (fun hc => EvP.ret _ (fun h => absurd h (by omega))) (fun hc => ?_))
  have htl2 := htl2 (by omega)
  exact EvP.ret _ (fun _ => by omega)

theorem ev_laws_toRecordS_l0 (xs : List (S87)) (hx : wl wRecord xs ≤ 1048576) : ∀ i, i ≤ xs.length → ∀ out : List (S60), out.length = xs.length → out.take i = (xs.take i).map cRecord → EvP (fun k => laws_toRecordS.l0 k xs out i) (· = xs.map cRecord) := by
  have hn := Nat.le_trans len_wl hx
  refine upInd ?_ ?_
  · intro out hl ht
    refine EvP.succ ?_
    simp only [laws_toRecordS.l0]
    refine EvP.neg (by omega) (EvP.ret _ ?_)
    rw [List.take_of_length_le (by omega), List.take_of_length_le (by omega)] at ht
    exact ht
  · intro i hi ih out hl ht
    refine EvP.succ ?_
    simp only [laws_toRecordS.l0]
    have e : rd_T87 xs (i : Int) = xs[i] := getDn hi
    rw [e, w64s hi (by omega), Int.toNat_natCast]
    have hm := mem_wl (f := wRecord) (List.getElem_mem hi)
    have hw : wRecord xs[i] = wl ByteArray.size xs[i].f1 := rfl
    refine EvP.pos (by omega) (EvP.pos (by omega) (EvP.bind (ev_laws_toRecord xs[i].f0 xs[i].f1 (by omega)) (fun t ht2 => ?_)))
    subst ht2
    exact EvP.pos (by omega) (ih _ (by simpa using hl) (take_step (c := cRecord) hi hl ht))
theorem ev_laws_toRecordS (xs : List (S87)) (hx : wl wRecord xs ≤ 1048576) : EvP (fun k => laws_toRecordS.f k xs) (· = (xs.map cRecord)) := by
  have hn := Nat.le_trans len_wl hx
  unfold laws_toRecordS.f
  refine EvP.pos (by omega) (EvP.pos (by rw [Int.toNat_natCast]; omega) ?_)
  refine (ev_laws_toRecordS_l0 xs hx 0 (by omega) _ (by simp) rfl).mono (fun r hr => ?_)
  rw [hr]

theorem ev_laws_toFuncS_l0 (xs : List (S91)) (hx : wl wFunc xs ≤ 1048576) : ∀ i, i ≤ xs.length → ∀ out : List (S39), out.length = xs.length → out.take i = (xs.take i).map cFunc → EvP (fun k => laws_toFuncS.l0 k xs out i) (· = xs.map cFunc) := by
  have hn := Nat.le_trans len_wl hx
  refine upInd ?_ ?_
  · intro out hl ht
    refine EvP.succ ?_
    simp only [laws_toFuncS.l0]
    refine EvP.neg (by omega) (EvP.ret _ ?_)
    rw [List.take_of_length_le (by omega), List.take_of_length_le (by omega)] at ht
    exact ht
  · intro i hi ih out hl ht
    refine EvP.succ ?_
    simp only [laws_toFuncS.l0]
    have e : rd_T91 xs (i : Int) = xs[i] := getDn hi
    rw [e, w64s hi (by omega), Int.toNat_natCast]
    have hm := mem_wl (f := wFunc) (List.getElem_mem hi)
    have hw : wFunc xs[i] = wl ByteArray.size xs[i].f1 + wl ByteArray.size xs[i].f2 + wl ByteArray.size xs[i].f3 + wl (fun _ : Int => 0) xs[i].f4 + wl wIns xs[i].f5 := rfl
    refine EvP.pos (by omega) (EvP.pos (by omega) (EvP.bind (ev_laws_toFunc xs[i].f0 xs[i].f1 xs[i].f2 xs[i].f3 xs[i].f4 xs[i].f5 (by omega) (by omega) (by omega) (by omega) (by omega)) (fun t ht2 => ?_)))
    subst ht2
    exact EvP.pos (by omega) (ih _ (by simpa using hl) (take_step (c := cFunc) hi hl ht))
theorem ev_laws_toFuncS (xs : List (S91)) (hx : wl wFunc xs ≤ 1048576) : EvP (fun k => laws_toFuncS.f k xs) (· = (xs.map cFunc)) := by
  have hn := Nat.le_trans len_wl hx
  unfold laws_toFuncS.f
  refine EvP.pos (by omega) (EvP.pos (by rw [Int.toNat_natCast]; omega) ?_)
  refine (ev_laws_toFuncS_l0 xs hx 0 (by omega) _ (by simp) rfl).mono (fun r hr => ?_)
  rw [hr]

theorem ev_laws_toModule (l0 : List (S87)) (l1 : List (S91)) (l2 : List Int) (hl0 : wl wRecord l0 ≤ 1048576) (hl1 : wl wFunc l1 ≤ 1048576) (hl2 : wl (fun _ : Int => 0) l2 ≤ 1048576) : EvP (fun k => laws_toModule.f k l0 l1 l2) (· = ((l0.map cRecord), (l1.map cFunc), l2)) := by
  unfold laws_toModule.f
  refine EvP.bind (ev_laws_toRecordS l0 hl0) (fun tl0 htl0 => ?_)
  subst htl0
  refine EvP.bind (ev_laws_toFuncS l1 hl1) (fun tl1 htl1 => ?_)
  subst htl1
  refine EvP.bind (ev_laws_toIntS l2 hl2) (fun tl2 htl2 => ?_)
  subst htl2
  exact EvP.ret _ rfl

def qRecordS (xs : List (S60)) : Prop := xs.length ≤ 9223372036854775807 ∧ ∀ x ∈ xs, qRecord x

def qFuncS (xs : List (S39)) : Prop := xs.length ≤ 9223372036854775807 ∧ ∀ x ∈ xs, qFunc x

def qModule (x : S55) : Prop := qRecordS x.f0 ∧ qFuncS x.f1 ∧ qIntS x.f2

theorem ev_laws_eqRecordS_l0 (xs : List (S60)) (hx : qRecordS xs) : ∀ i, i ≤ xs.length → EvP (fun k => laws_eqRecordS.l0 k xs xs i) (· = true) := by
  refine upInd ?_ ?_
  · refine EvP.succ ?_
    simp only [laws_eqRecordS.l0]
    exact EvP.neg (by omega) (EvP.ret _ rfl)
  · intro i hi ih
    refine EvP.succ ?_
    simp only [laws_eqRecordS.l0]
    rw [w64s hi hx.1]
    have e : rd_T60 xs (i : Int) = xs[i] := getDn hi
    have hb := hx.2 _ (List.getElem_mem hi)
    rw [e]
    refine EvP.pos (by omega) (EvP.pos (by omega) (EvP.pos (by omega) (EvP.bind (ev_laws_eqRecord xs[i].f0 xs[i].f1 hb) (fun t ht => ?_))))
    subst ht
    exact EvP.pos (by trivial) ih
theorem ev_laws_eqRecordS (xs : List (S60)) (hx : qRecordS xs) : EvP (fun k => laws_eqRecordS.f k xs xs) (· = true) := by
  unfold laws_eqRecordS.f
  exact EvP.pos (by trivial) (ev_laws_eqRecordS_l0 xs hx 0 (by omega))

theorem ev_laws_eqFuncS_l0 (xs : List (S39)) (hx : qFuncS xs) : ∀ i, i ≤ xs.length → EvP (fun k => laws_eqFuncS.l0 k xs xs i) (· = true) := by
  refine upInd ?_ ?_
  · refine EvP.succ ?_
    simp only [laws_eqFuncS.l0]
    exact EvP.neg (by omega) (EvP.ret _ rfl)
  · intro i hi ih
    refine EvP.succ ?_
    simp only [laws_eqFuncS.l0]
    rw [w64s hi hx.1]
    have e : rd_T39 xs (i : Int) = xs[i] := getDn hi
    have hb := hx.2 _ (List.getElem_mem hi)
    rw [e]
    refine EvP.pos (by omega) (EvP.pos (by omega) (EvP.pos (by omega) (EvP.bind (ev_laws_eqFunc xs[i].f0 xs[i].f1 xs[i].f2 xs[i].f3 xs[i].f4 xs[i].f5 hb.1 hb.2.1 hb.2.2.1 hb.2.2.2.1 hb.2.2.2.2) (fun t ht => ?_))))
    subst ht
    exact EvP.pos (by trivial) ih
theorem ev_laws_eqFuncS (xs : List (S39)) (hx : qFuncS xs) : EvP (fun k => laws_eqFuncS.f k xs xs) (· = true) := by
  unfold laws_eqFuncS.f
  exact EvP.pos (by trivial) (ev_laws_eqFuncS_l0 xs hx 0 (by omega))

theorem ev_laws_eqModule (l0 : List (S60)) (l1 : List (S39)) (l2 : List Int) (hl0 : qRecordS l0) (hl1 : qFuncS l1) (hl2 : qIntS l2) : EvP (fun k => laws_eqModule.f k l0 l1 l2 l0 l1 l2) (· = true) := by
  unfold laws_eqModule.f
  refine EvP.bind (ev_laws_eqRecordS l0 hl0) (fun tl0 htl0 => ?_)
  subst htl0
  refine EvP.pos (by trivial) ?_
  refine EvP.bind (ev_laws_eqFuncS l1 hl1) (fun tl1 htl1 => ?_)
  subst htl1
  refine EvP.pos (by trivial) ?_
  refine EvP.bind (ev_laws_eqIntS l2 hl2) (fun tl2 htl2 => ?_)
  subst htl2
  refine EvP.pos (by trivial) ?_
  exact EvP.ret _ rfl

theorem ev_laws_szModuleS_l0 (xs : List (S49)) (hx : gL gModule xs) : ∀ i, i ≤ xs.length → ∀ a : Int, 0 ≤ a → a ≤ 1048576 → EvP (fun k => laws_szModuleS.l0 k xs a i) (fun r => 0 ≤ r → r = a - ((((xs.drop i).map wModule).sum : Nat) : Int)) := by
  refine upInd ?_ ?_
  · intro a h0 h1
    refine EvP.succ ?_
    simp only [laws_szModuleS.l0]
    exact EvP.neg (by omega) (EvP.ret _ (fun _ => by simp))
  · intro i hi ih a h0 h1
    refine EvP.succ ?_
    simp only [laws_szModuleS.l0]
    have e : rd_T49 xs (i : Int) = xs[i] := getDn hi
    have hb := hx.2 _ (List.getElem_mem hi)
    rw [e, w64s hi hx.1]
    refine EvP.pos (by omega) (EvP.pos (by omega) (EvP.bind (ev_laws_szModule xs[i].f0 xs[i].f1 xs[i].f2 hb.1 hb.2.1 hb.2.2 a h0 h1) (fun t ht => EvP.ite (fun hc => EvP.ret _ (fun h => absurd h (by omega))) (fun hc => ?_))))
    have ht := ht (by omega)
    refine (ih _ (by omega) (by omega)).mono (fun r hr h => ?_)
    have hw : wModule xs[i] = wl wRecord xs[i].f0 + wl wFunc xs[i].f1 + wl (fun _ : Int => 0) xs[i].f2 := rfl
    rw [hr h, List.drop_eq_getElem_cons hi]
    simp only [List.map_cons, List.sum_cons]
    omega
theorem ev_laws_szModuleS (xs : List (S49)) (hx : gL gModule xs) (a : Int) (h0 : 0 ≤ a) (h1 : a ≤ 1048576) : EvP (fun k => laws_szModuleS.f k xs a) (fun r => 0 ≤ r → r = a - ((wl wModule xs : Nat) : Int)) := by
  have h2 := hx.1
  unfold laws_szModuleS.f
  rw [w64 (by omega) (by omega)]
  refine EvP.ite (fun hc => EvP.ret _ (fun h => absurd h (by omega))) (fun hc => ?_)
  refine (ev_laws_szModuleS_l0 xs hx 0 (by omega) _ (by omega) (by omega)).mono (fun r hr h => ?_)
  rw [hr h]
  simp only [List.drop_zero]
  unfold wl
  omega

theorem ev_laws_toModuleS_l0 (xs : List (S49)) (hx : wl wModule xs ≤ 1048576) : ∀ i, i ≤ xs.length → ∀ out : List (S55), out.length = xs.length → out.take i = (xs.take i).map cModule → EvP (fun k => laws_toModuleS.l0 k xs out i) (· = xs.map cModule) := by
  have hn := Nat.le_trans len_wl hx
  refine upInd ?_ ?_
  · intro out hl ht
    refine EvP.succ ?_
    simp only [laws_toModuleS.l0]
    refine EvP.neg (by omega) (EvP.ret _ ?_)
    rw [List.take_of_length_le (by omega), List.take_of_length_le (by omega)] at ht
    exact ht
  · intro i hi ih out hl ht
    refine EvP.succ ?_
    simp only [laws_toModuleS.l0]
    have e : rd_T49 xs (i : Int) = xs[i] := getDn hi
    rw [e, w64s hi (by omega), Int.toNat_natCast]
    have hm := mem_wl (f := wModule) (List.getElem_mem hi)
    have hw : wModule xs[i] = wl wRecord xs[i].f0 + wl wFunc xs[i].f1 + wl (fun _ : Int => 0) xs[i].f2 := rfl
    refine EvP.pos (by omega) (EvP.pos (by omega) (EvP.bind (ev_laws_toModule xs[i].f0 xs[i].f1 xs[i].f2 (by omega) (by omega) (by omega)) (fun t ht2 => ?_)))
    subst ht2
    exact EvP.pos (by omega) (ih _ (by simpa using hl) (take_step (c := cModule) hi hl ht))
theorem ev_laws_toModuleS (xs : List (S49)) (hx : wl wModule xs ≤ 1048576) : EvP (fun k => laws_toModuleS.f k xs) (· = (xs.map cModule)) := by
  have hn := Nat.le_trans len_wl hx
  unfold laws_toModuleS.f
  refine EvP.pos (by omega) (EvP.pos (by rw [Int.toNat_natCast]; omega) ?_)
  refine (ev_laws_toModuleS_l0 xs hx 0 (by omega) _ (by simp) rfl).mono (fun r hr => ?_)
  rw [hr]

def qModuleS (xs : List (S55)) : Prop := xs.length ≤ 9223372036854775807 ∧ ∀ x ∈ xs, qModule x

theorem ev_laws_eqModuleS_l0 (xs : List (S55)) (hx : qModuleS xs) : ∀ i, i ≤ xs.length → EvP (fun k => laws_eqModuleS.l0 k xs xs i) (· = true) := by
  refine upInd ?_ ?_
  · refine EvP.succ ?_
    simp only [laws_eqModuleS.l0]
    exact EvP.neg (by omega) (EvP.ret _ rfl)
  · intro i hi ih
    refine EvP.succ ?_
    simp only [laws_eqModuleS.l0]
    rw [w64s hi hx.1]
    have e : rd_T55 xs (i : Int) = xs[i] := getDn hi
    have hb := hx.2 _ (List.getElem_mem hi)
    rw [e]
    refine EvP.pos (by omega) (EvP.pos (by omega) (EvP.pos (by omega) (EvP.bind (ev_laws_eqModule xs[i].f0 xs[i].f1 xs[i].f2 hb.1 hb.2.1 hb.2.2) (fun t ht => ?_))))
    subst ht
    exact EvP.pos (by trivial) ih
theorem ev_laws_eqModuleS (xs : List (S55)) (hx : qModuleS xs) : EvP (fun k => laws_eqModuleS.f k xs xs) (· = true) := by
  unfold laws_eqModuleS.f
  exact EvP.pos (by trivial) (ev_laws_eqModuleS_l0 xs hx 0 (by omega))

def sFunc (x : S39) : Prop := x.f1.length ≤ 1048576 ∧ x.f2.length ≤ 1048576 ∧ x.f3.length ≤ 1048576 ∧ x.f4.length ≤ 1048576 ∧ x.f5.length ≤ 1048576

def sModule (x : S55) : Prop := x.f0.length ≤ 1048576 ∧ x.f1.length ≤ 1048576 ∧ x.f2.length ≤ 1048576 ∧ ∀ f ∈ x.f1, sFunc f

def sMods (K : List S55) : Prop := K.length ≤ 1048576 ∧ ∀ m ∈ K, sModule m

theorem sMods_c {xs : List S49} (h : wl wModule xs ≤ 1048576) : sMods (xs.map cModule) := by
  have hn := Nat.le_trans len_wl h
  refine ⟨by rw [List.length_map]; exact hn, fun x hx => ?_⟩
  obtain ⟨y, hy, rfl⟩ := List.mem_map.1 hx
  have h2 := mem_wl (f := wModule) hy
  have e2 : wModule y = wl wRecord y.f0 + wl wFunc y.f1 + wl (fun _ : Int => 0) y.f2 := rfl
  have a1 := len_wl (f := wRecord) (xs := y.f0)
  have a2 := len_wl (f := wFunc) (xs := y.f1)
  have a3 := len_wl (f := fun _ : Int => 0) (xs := y.f2)
  refine ⟨by show (y.f0.map cRecord).length ≤ _; rw [List.length_map]; omega, by show (y.f1.map cFunc).length ≤ _; rw [List.length_map]; omega, by show y.f2.length ≤ _; omega, fun f hf => ?_⟩
  obtain ⟨g, hg, rfl⟩ := List.mem_map.1 hf
  have h3 := mem_wl (f := wFunc) hg
  have e3 : wFunc g = wl ByteArray.size g.f1 + wl ByteArray.size g.f2 + wl ByteArray.size g.f3 + wl (fun _ : Int => 0) g.f4 + wl wIns g.f5 := rfl
  have b1 := len_wl (f := ByteArray.size) (xs := g.f1)
  have b2 := len_wl (f := ByteArray.size) (xs := g.f2)
  have b3 := len_wl (f := ByteArray.size) (xs := g.f3)
  have b4 := len_wl (f := fun _ : Int => 0) (xs := g.f4)
  have b5 := len_wl (f := wIns) (xs := g.f5)
  exact ⟨by show g.f1.length ≤ _; omega, by show g.f2.length ≤ _; omega, by show g.f3.length ≤ _; omega, by show g.f4.length ≤ _; omega, by show (g.f5.map cIns).length ≤ _; rw [List.length_map]; omega⟩

theorem qMods_c {xs : List S49} (h : wl wModule xs ≤ 1048576) : qModuleS (xs.map cModule) := by
  have hs := sMods_c h
  refine ⟨by have := hs.1; omega, fun x hx => ?_⟩
  obtain ⟨h0, h1, h2, h3⟩ := hs.2 x hx
  obtain ⟨y, hy, rfl⟩ := List.mem_map.1 hx
  have w2 := mem_wl (f := wModule) hy
  have e2 : wModule y = wl wRecord y.f0 + wl wFunc y.f1 + wl (fun _ : Int => 0) y.f2 := rfl
  refine ⟨⟨by omega, fun r hr => ?_⟩, ⟨by omega, fun f hf => ?_⟩, by show (cModule y).f2.length ≤ _; omega⟩
  · obtain ⟨z, hz, rfl⟩ := List.mem_map.1 hr
    have h4 := mem_wl (f := wRecord) hz
    have h5 : wRecord z = wl ByteArray.size z.f1 := rfl
    have h6 := len_wl (f := ByteArray.size) (xs := z.f1)
    show z.f1.length ≤ _
    omega
  · obtain ⟨f1, f2, f3, f4, f5⟩ := h3 f hf
    exact ⟨by show f.f1.length ≤ _; omega, by show f.f2.length ≤ _; omega, by show f.f3.length ≤ _; omega, by show f.f4.length ≤ _; omega, ⟨by omega, fun _ _ => trivial⟩⟩

theorem rdM {K : List S55} (h : sMods K) {m : Int} (h0 : 0 ≤ m) (h1 : m < (K.length : Int)) : sModule (rd_T55 K m) := by
  have hl : m.toNat < K.length := by omega
  have e : rd_T55 K m = K[m.toNat] := by
    unfold rd_T55
    rw [List.getD_eq_getElem?_getD, List.getElem?_eq_getElem hl]
    rfl
  rw [e]
  exact h.2 _ (List.getElem_mem hl)

theorem rdF {L : List S39} (h : ∀ f ∈ L, sFunc f) {m : Int} (h0 : 0 ≤ m) (h1 : m < (L.length : Int)) : sFunc (rd_T39 L m) := by
  have hl : m.toNat < L.length := by omega
  have e : rd_T39 L m = L[m.toNat] := by
    unfold rd_T39
    rw [List.getD_eq_getElem?_getD, List.getElem?_eq_getElem hl]
    rfl
  rw [e]
  exact h _ (List.getElem_mem hl)

/-- There is such a function. -/
def hasF (K : List S55) (m f : Int) : Bool := decide (0 ≤ m ∧ m < (K.length : Int) ∧ 0 ≤ f ∧ f < ((rd_T55 K m).f1.length : Int))

theorem eq_spec_l4Has (K : List S55) (hK : sMods K) (m f : Int) : spec_l4Has.f K m f = some (hasF K m f) := by
  have hl := hK.1
  unfold spec_l4Has.f spec_l6In.f hasF
  rw [w64 (n := (K.length : Int) - 1) (by omega) (by omega)]
  by_cases h0 : m ≥ 0
  · rw [if_pos h0]
    simp only [Option.bind_some]
    by_cases h1 : m ≤ (K.length : Int) - 1
    · rw [if_pos (by simpa using h1), if_pos h0, if_pos (by omega)]
      have hM := (rdM hK h0 (by omega)).2.1
      rw [w64 (n := ((rd_T55 K m).f1.length : Int) - 1) (by omega) (by omega)]
      by_cases h2 : f ≥ 0
      · rw [if_pos h2]
        simp only [Option.bind_some]
        congr 1
        rw [decide_eq_decide]
        omega
      · rw [if_neg h2]
        simp only [Option.bind_some]
        rw [decide_eq_false (by omega)]
    · rw [if_neg (by simpa using h1), decide_eq_false (by omega)]
  · rw [if_neg h0]
    simp only [Option.bind_some]
    rw [if_neg (by simp), decide_eq_false (by omega)]

def funcSeen (K : List S55) (a m f : Int) : Bool :=
  hasF K m f && (decide (0 ≤ a ∧ a < (K.length : Int) ∧ m ≤ a) && (decide (m = a) || (decide ((rd_T39 ((rd_T55 K m).f1) f).f0 = 2) || (decide ((rd_T39 ((rd_T55 K m).f1) f).f0 = 1) && (rd_T55 K m).f2.contains a))))

theorem ev_spec_l4In (l : List Int) (x : Int) (hl : l.length ≤ 9223372036854775807) : EvP (fun k => spec_l4In.f k l x) (· = l.contains x) := by
  have key : ∀ i, i ≤ l.length → EvP (fun k => spec_l4In.l0 k l x i) (· = (l.drop i).contains x) := by
    refine upInd ?_ ?_
    · refine EvP.succ ?_
      simp only [spec_l4In.l0]
      exact EvP.neg (by omega) (EvP.ret _ (by simp))
    · intro i hi ih
      refine EvP.succ ?_
      simp only [spec_l4In.l0]
      have e : rd l (i : Int) = l[i] := getDn hi
      rw [e, w64s hi hl]
      refine EvP.pos (by omega) (EvP.pos (by omega) (EvP.ite (fun hc => EvP.ret _ ?_) (fun hc => ih.mono (fun r hr => ?_))))
      · have hc' : (x == l[i]) = true := beq_iff_eq.2 hc.symm
        rw [List.drop_eq_getElem_cons hi, List.contains_cons, hc', Bool.true_or]
      · have hc' : (x == l[i]) = false := beq_eq_false_iff_ne.2 (fun h => hc h.symm)
        rw [hr, List.drop_eq_getElem_cons hi, List.contains_cons, hc', Bool.false_or]
  unfold spec_l4In.f
  exact (key 0 (by omega)).mono (fun r hr => by simpa using hr)

theorem ev_spec_FuncSeen (K : List S55) (hK : sMods K) (a m f : Int) : EvP (fun k => spec_FuncSeen.f k K a m f) (· = funcSeen K a m f) := by
  have hl := hK.1
  unfold spec_FuncSeen.f funcSeen
  refine EvP.call (eq_spec_l4Has K hK m f) (EvP.ite (fun h => ?_) (fun h => EvP.ret _ (by rw [Bool.not_eq_true] at h; rw [h]; rfl)))
  rw [h, Bool.true_and]
  have hh := of_decide_eq_true h
  have hi : spec_l6In.f a 0 (wrap64 ((K.length : Int) - 1)) = some (decide (0 ≤ a ∧ a < (K.length : Int))) := by
    unfold spec_l6In.f
    rw [w64 (n := (K.length : Int) - 1) (by omega) (by omega)]
    by_cases h0 : a ≥ 0
    · rw [if_pos h0]
      congr 1
      rw [decide_eq_decide]
      omega
    · rw [if_neg h0, decide_eq_false (by omega)]
  refine EvP.call hi (EvP.ite (fun h1 => ?_) (fun h1 => EvP.ret _ ?_))
  · have h1 := of_decide_eq_true h1
    refine EvP.ite (fun h2 => EvP.ret _ ?_) (fun h2 => ?_)
    · rw [decide_eq_false (p := 0 ≤ a ∧ a < (K.length : Int) ∧ m ≤ a) (by omega)]
      rfl
    · rw [decide_eq_true (p := 0 ≤ a ∧ a < (K.length : Int) ∧ m ≤ a) (by omega), Bool.true_and]
      refine EvP.pos hh.1 (EvP.pos hh.2.1 (EvP.pos hh.2.2.1 (EvP.pos hh.2.2.2 ?_)))
      refine EvP.ite (fun h3 => EvP.ret _ (by rw [decide_eq_true h3]; rfl)) (fun h3 => ?_)
      rw [decide_eq_false h3, Bool.false_or]
      refine EvP.ite (fun h4 => EvP.ret _ (by rw [decide_eq_true h4]; rfl)) (fun h4 => ?_)
      rw [decide_eq_false h4, Bool.false_or]
      refine EvP.ite (fun h5 => ?_) (fun h5 => EvP.ret _ (by rw [decide_eq_false h5]; rfl))
      rw [decide_eq_true h5, Bool.true_and]
      exact EvP.bind (ev_spec_l4In _ a (by have := (rdM hK hh.1 hh.2.1).2.2.1; omega)) (fun t ht => EvP.ret _ ht)
  · have h1 : ¬ (0 ≤ a ∧ a < (K.length : Int)) := fun e => h1 (decide_eq_true e)
    rw [decide_eq_false (p := 0 ≤ a ∧ a < (K.length : Int) ∧ m ≤ a) (by omega)]
    rfl

theorem ev_slices_Contains (l : List Int) (x : Int) (hl : l.length ≤ 9223372036854775807) : EvP (fun k => slices_Contains_int_int.f k l x) (· = l.contains x) := by
  have key : ∀ i, i ≤ l.length → EvP (fun k => slices_Index_int_int.l0 k l x (l.length : Int) i) (fun r => decide (r ≥ 0) = (l.drop i).contains x) := by
    refine upInd ?_ ?_
    · refine EvP.succ ?_
      simp only [slices_Index_int_int.l0]
      exact EvP.neg (by omega) (EvP.ret _ (by simp))
    · intro i hi ih
      refine EvP.succ ?_
      simp only [slices_Index_int_int.l0]
      have e : rd l (i : Int) = l[i] := getDn hi
      rw [e, w64s hi hl]
      refine EvP.pos (by omega) (EvP.pos (by omega) (EvP.pos (by omega) (EvP.ite (fun hc => EvP.ret _ ?_) (fun hc => ih.mono (fun r hr => ?_)))))
      · have hc' : (x == l[i]) = true := beq_iff_eq.2 hc
        rw [List.drop_eq_getElem_cons hi, List.contains_cons, hc', Bool.true_or]
        exact decide_eq_true (by omega)
      · have hc' : (x == l[i]) = false := beq_eq_false_iff_ne.2 hc
        rw [hr, List.drop_eq_getElem_cons hi, List.contains_cons, hc', Bool.false_or]
  unfold slices_Contains_int_int.f slices_Index_int_int.f
  exact EvP.bind (key 0 (by omega)) (fun r hr => EvP.ret _ (by rw [hr]; simp))

theorem eq_impl_copyFunc (F : S39) (h : sFunc F) : impl_copyFunc.f F.f0 F.f1 F.f2 F.f3 F.f4 F.f5 = some (F.f0, F.f1, F.f2, F.f3, F.f4, F.f5) := by
  obtain ⟨h1, h2, h3, h4, h5⟩ := h
  have ct : ∀ l : List ByteArray, l.length ≤ 1048576 → impl_copyTexts.f l = some l := by
    intro l hl
    unfold impl_copyTexts.f slices_Clip_string_string.f
    simp only [Option.bind_some, List.nil_append]
    rw [if_pos (by simp; omega)]
  have ci : impl_copyInts.f F.f4 = some F.f4 := by
    unfold impl_copyInts.f slices_Clip_int_int.f
    simp only [Option.bind_some, List.nil_append]
    rw [if_pos (by simp; omega)]
  unfold impl_copyFunc.f impl_Ins.f
  simp only [Option.bind_some, List.nil_append]
  rw [if_pos (by simp; omega), ct _ h1, ct _ h2, ct _ h3, ci]
  rfl

theorem ev_impl_FuncSeen (K : List S55) (hK : sMods K) (a m f : Int) : EvP (fun k => impl_FuncSeen.f k K a m f) (· = funcSeen K a m f) := by
  have hl := hK.1
  unfold impl_FuncSeen.f
  by_cases h : hasF K m f = true
  · have hh := of_decide_eq_true h
    have hM := rdM hK hh.1 hh.2.1
    have hs : impl_ShelfFunc.f K m f = some ((rd_T39 ((rd_T55 K m).f1) f).f0, (rd_T39 ((rd_T55 K m).f1) f).f1, (rd_T39 ((rd_T55 K m).f1) f).f2, (rd_T39 ((rd_T55 K m).f1) f).f3, (rd_T39 ((rd_T55 K m).f1) f).f4, (rd_T39 ((rd_T55 K m).f1) f).f5, true) := by
      unfold impl_ShelfFunc.f
      rw [if_neg (by omega), if_neg (by omega), if_neg (by omega), if_pos hh.1, if_pos hh.2.1, if_neg (by omega), if_pos hh.2.2.1, if_pos hh.2.2.2, eq_impl_copyFunc _ (rdF hM.2.2.2 hh.2.2.1 hh.2.2.2)]
      rfl
    refine EvP.call hs (EvP.pos rfl ?_)
    unfold funcSeen
    rw [h, Bool.true_and]
    refine EvP.ite (fun h1 => EvP.ret _ (by rw [decide_eq_false (by omega)]; rfl)) (fun h1 => EvP.ite (fun h2 => EvP.ret _ (by rw [decide_eq_false (by omega)]; rfl)) (fun h2 => EvP.ite (fun h3 => EvP.ret _ (by rw [decide_eq_false (p := 0 ≤ a ∧ a < (K.length : Int) ∧ m ≤ a) (by omega)]; rfl)) (fun h3 => ?_)))
    rw [decide_eq_true (p := 0 ≤ a ∧ a < (K.length : Int) ∧ m ≤ a) (by omega), Bool.true_and]
    refine EvP.ite (fun h3 => EvP.ret _ (by rw [decide_eq_true h3]; rfl)) (fun h3 => ?_)
    rw [decide_eq_false h3, Bool.false_or]
    refine EvP.ite (fun h4 => EvP.ret _ (by rw [decide_eq_true h4]; rfl)) (fun h4 => ?_)
    rw [decide_eq_false h4, Bool.false_or]
    refine EvP.ite (fun h5 => ?_) (fun h5 => EvP.ret _ (by rw [decide_eq_false h5]; rfl))
    rw [decide_eq_true h5, Bool.true_and]
    exact EvP.pos hh.1 (EvP.pos hh.2.1 (EvP.bind (ev_slices_Contains _ a (by have := hM.2.2.1; omega)) (fun t ht => EvP.ret _ ht)))
  · have hs : impl_ShelfFunc.f K m f = some (0, [], [], [], [], [], false) := by
      have h' : ¬ (0 ≤ m ∧ m < (K.length : Int) ∧ 0 ≤ f ∧ f < ((rd_T55 K m).f1.length : Int)) := fun e => h (decide_eq_true e)
      unfold impl_ShelfFunc.f
      by_cases h0 : m < 0
      · rw [if_pos h0]
      · rw [if_neg h0]
        by_cases h1 : m ≥ (K.length : Int)
        · rw [if_pos h1]
        · rw [if_neg h1]
          by_cases h2 : f < 0
          · rw [if_pos h2]
          · rw [if_neg h2, if_pos (by omega), if_pos (by omega), if_pos (by omega)]
    refine EvP.call hs (EvP.neg (by simp) (EvP.ret _ ?_))
    unfold funcSeen
    rw [Bool.not_eq_true] at h
    rw [h]
    rfl

theorem FnExactFuncSeen (l : List S49) (a m f : Int) (g : gL gModule l) (ga : gInt a) (gm : gInt m) (gf : gInt f) : ∃ k, laws_FnExactFuncSeen.f k l a m f = some true := by
  refine EvP.rounds ?_
  unfold laws_FnExactFuncSeen.f
  refine EvP.bind (ev_laws_szModuleS l g 1048576 (by omega) (by omega)) (fun t ht => EvP.ite (fun _ => EvP.ret _ rfl) (fun hc => ?_))
  have ht := ht (by omega)
  have w0 : wl wModule l ≤ 1048576 := by omega
  refine EvP.bind (ev_laws_toModuleS l w0) (fun t1 h1 => ?_)
  subst h1
  refine EvP.bind (ev_spec_FuncSeen _ (sMods_c w0) a m f) (fun t2 h2 => ?_)
  refine EvP.bind (ev_laws_toModuleS l w0) (fun t1 h1 => ?_)
  subst h1
  refine EvP.bind (ev_impl_FuncSeen _ (sMods_c w0) a m f) (fun t3 h3 => ?_)
  refine EvP.neg (by rw [h2, h3]; simp) ?_
  refine EvP.bind (ev_laws_toModuleS l w0) (fun t1 h1 => ?_)
  subst h1
  refine EvP.bind (ev_laws_eqModuleS _ (qMods_c w0)) (fun t5 h5 => ?_)
  subst h5
  exact EvP.pos (by trivial) (EvP.ret _ rfl)


end Go.Proofs.Ytcdamcfklehedaa.Pure
