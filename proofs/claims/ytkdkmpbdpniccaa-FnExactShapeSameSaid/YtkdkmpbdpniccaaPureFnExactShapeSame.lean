/- ShapeSame of the program and of the reference give the same for every two shapes; the arguments stay as they were. -/
import Derived.Test.YtkdkmpbdpniccaaOFnExactShapeSamex1
import Derived.Test.YtkdkmpbdpniccaaOFnExactShapeSamex2
import Derived.Test.YtkdkmpbdpniccaaOFnExactShapeSamex3
import Derived.Test.YtkdkmpbdpniccaaOFnExactShapeSamex4
import Derived.Test.YtkdkmpbdpniccaaOFnExactShapeSamex5
import Derived.Test.YtkdkmpbdpniccaaBase
namespace Go.Proofs.Ytkdkmpbdpniccaa.Pure
open Go.RowKit Go.Proofs.Ytkdkmpbdpniccaa.OFnExactShapeSame Go.Proofs.YtkdkmpbdpniccaaW.PrintWords Go.Proofs.YtkdkmpbdpniccaaW.PrintLast Go.Proofs.YtkdkmpbdpniccaaW.PrintMore Go.Proofs.Ytkdkmpbdpniccaa.Base
set_option linter.unusedVariables false
set_option linter.unusedSimpArgs false

theorem take_step {α β : Type} {c : α → β} {xs : List α} {out : List β} {i : Nat} (hi : i < xs.length) (hl : out.length = xs.length) (h : out.take i = (xs.take i).map c) : (out.set i (c xs[i])).take (i + 1) = (xs.take (i + 1)).map c := by
  rw [take_set_succ (by omega), h, List.take_succ_eq_append_getElem hi, List.map_append]
  rfl


def gMark (x : S67) : Prop := gStr x.f0 ∧ (gL gInt) x.f1

def wMark (x : S67) : Nat := x.f0.size + wl (fun _ : Int => 0) x.f1

def cMark (x : S67) : S69 := ⟨x.f0, x.f1⟩

theorem ev_laws_szIntS (xs : List Int) (hx : gL gInt xs) (a : Int) (h0 : 0 ≤ a) (h1 : a ≤ 1048576) : EvP (fun _ => laws_szIntS.f xs a) (fun r => 0 ≤ r → r = a - ((wl (fun _ : Int => 0) xs : Nat) : Int)) := by
  have h2 := hx.1
  unfold laws_szIntS.f
  rw [w64 (by omega) (by omega)]
  refine EvP.ite (fun hc => EvP.ret _ (fun h => absurd h (by omega))) (fun hc => EvP.ret _ (fun _ => ?_))
  unfold wl
  have := sum_map_zero xs
  omega

theorem ev_laws_szMark (s0 : ByteArray) (l1 : List Int) (hs0 : gStr s0) (hl1 : (gL gInt) l1) (a : Int) (h0 : 0 ≤ a) (h1 : a ≤ 1048576) : EvP (fun _ => laws_szMark.f s0 l1 a) (fun r => 0 ≤ r → r = a - ((s0.size + wl (fun _ : Int => 0) l1 : Nat) : Int)) := by
  unfold laws_szMark.f
  unfold gStr at hs0
  rw [w64 (n := a - (s0.size : Int)) (by omega) (by omega)]
  refine EvP.ite (fun hc => EvP.ret _ (fun h => absurd h (by omega))) (fun hc => ?_)
  obtain ⟨ts0, hts0⟩ : ∃ t : Int, t = a - (s0.size : Int) := ⟨_, rfl⟩
  rw [← hts0] at hc ⊢
  refine EvP.bind (ev_laws_szIntS l1 hl1 ts0 (by omega) (by omega)) (fun tl1 htl1 => EvP.ite (fun hc => EvP.ret _ (fun h => absurd h (by omega))) (fun hc => ?_))
  have htl1 := htl1 (by omega)
  exact EvP.ret _ (fun _ => by omega)

theorem ev_laws_toIntS_l0 (xs : List Int) (hx : wl (fun _ : Int => 0) xs ≤ 1048576) : ∀ i, i ≤ xs.length → ∀ out : List Int, out.length = xs.length → out.take i = (xs.take i).map id → EvP (fun k => laws_toIntS.l0 k xs out i) (· = xs.map id) := by
  have hn := Nat.le_trans len_wl hx
  refine upInd ?_ ?_
  · intro out hl ht
    refine EvP.succ ?_
    simp only [laws_toIntS.l0]
    refine EvP.neg (by omega) (EvP.ret _ ?_)
    rw [List.take_of_length_le (by omega), List.take_of_length_le (by omega)] at ht
    exact ht
  · intro i hi ih out hl ht
    refine EvP.succ ?_
    simp only [laws_toIntS.l0]
    have e : rd xs (i : Int) = xs[i] := getDn hi
    rw [e, w64s hi (by omega), Int.toNat_natCast]
    exact EvP.pos (by omega) (EvP.pos (by omega) (EvP.pos (by omega) (ih _ (by simpa using hl) (take_step (c := id) hi hl ht))))
theorem ev_laws_toIntS (xs : List Int) (hx : wl (fun _ : Int => 0) xs ≤ 1048576) : EvP (fun k => laws_toIntS.f k xs) (· = xs) := by
  have hn := Nat.le_trans len_wl hx
  unfold laws_toIntS.f
  refine EvP.pos (by omega) (EvP.pos (by rw [Int.toNat_natCast]; omega) ?_)
  refine (ev_laws_toIntS_l0 xs hx 0 (by omega) _ (by simp) rfl).mono (fun r hr => ?_)
  rw [hr]
  first | rfl | simp

theorem ev_laws_toMark (s0 : ByteArray) (l1 : List Int) (hl1 : wl (fun _ : Int => 0) l1 ≤ 1048576) : EvP (fun k => laws_toMark.f k s0 l1) (· = (s0, l1)) := by
  unfold laws_toMark.f
  refine EvP.bind (ev_laws_toIntS l1 hl1) (fun tl1 htl1 => ?_)
  subst htl1
  exact EvP.ret _ rfl

def qIntS (xs : List Int) : Prop := xs.length ≤ 9223372036854775807

def qMark (x : S69) : Prop := qIntS x.f1

theorem ev_laws_eqIntS_l0 (xs : List Int) (hx : qIntS xs) : ∀ i, i ≤ xs.length → EvP (fun k => laws_eqIntS.l0 k xs xs i) (· = true) := by
  refine upInd ?_ ?_
  · refine EvP.succ ?_
    simp only [laws_eqIntS.l0]
    exact EvP.neg (by omega) (EvP.ret _ rfl)
  · intro i hi ih
    refine EvP.succ ?_
    simp only [laws_eqIntS.l0]
    rw [w64s hi hx]
    exact EvP.pos (by omega) (EvP.pos (by omega) (EvP.pos (by omega) (EvP.pos (by trivial) ih)))
theorem ev_laws_eqIntS (xs : List Int) (hx : qIntS xs) : EvP (fun k => laws_eqIntS.f k xs xs) (· = true) := by
  unfold laws_eqIntS.f
  exact EvP.pos (by trivial) (ev_laws_eqIntS_l0 xs hx 0 (by omega))

theorem ev_laws_eqMark (s0 : ByteArray) (l1 : List Int) (hl1 : qIntS l1) : EvP (fun k => laws_eqMark.f k s0 l1 s0 l1) (· = true) := by
  unfold laws_eqMark.f
  refine EvP.pos (by trivial) ?_
  refine EvP.bind (ev_laws_eqIntS l1 hl1) (fun tl1 htl1 => ?_)
  subst htl1
  refine EvP.pos (by trivial) ?_
  exact EvP.ret _ rfl

theorem ev_laws_szMarkS_l0 (xs : List (S67)) (hx : gL gMark xs) : ∀ i, i ≤ xs.length → ∀ a : Int, 0 ≤ a → a ≤ 1048576 → EvP (fun k => laws_szMarkS.l0 k xs a i) (fun r => 0 ≤ r → r = a - ((((xs.drop i).map wMark).sum : Nat) : Int)) := by
  refine upInd ?_ ?_
  · intro a h0 h1
    refine EvP.succ ?_
    simp only [laws_szMarkS.l0]
    exact EvP.neg (by omega) (EvP.ret _ (fun _ => by simp))
  · intro i hi ih a h0 h1
    refine EvP.succ ?_
    simp only [laws_szMarkS.l0]
    have e : rd_T67 xs (i : Int) = xs[i] := getDn hi
    have hb := hx.2 _ (List.getElem_mem hi)
    rw [e, w64s hi hx.1]
    refine EvP.pos (by omega) (EvP.pos (by omega) (EvP.bind (ev_laws_szMark xs[i].f0 xs[i].f1 hb.1 hb.2 a h0 h1) (fun t ht => EvP.ite (fun hc => EvP.ret _ (fun h => absurd h (by omega))) (fun hc => ?_))))
    have ht := ht (by omega)
    refine (ih _ (by omega) (by omega)).mono (fun r hr h => ?_)
    have hw : wMark xs[i] = xs[i].f0.size + wl (fun _ : Int => 0) xs[i].f1 := rfl
    rw [hr h, List.drop_eq_getElem_cons hi]
    simp only [List.map_cons, List.sum_cons]
    omega
theorem ev_laws_szMarkS (xs : List (S67)) (hx : gL gMark xs) (a : Int) (h0 : 0 ≤ a) (h1 : a ≤ 1048576) : EvP (fun k => laws_szMarkS.f k xs a) (fun r => 0 ≤ r → r = a - ((wl wMark xs : Nat) : Int)) := by
  have h2 := hx.1
  unfold laws_szMarkS.f
  rw [w64 (by omega) (by omega)]
  refine EvP.ite (fun hc => EvP.ret _ (fun h => absurd h (by omega))) (fun hc => ?_)
  refine (ev_laws_szMarkS_l0 xs hx 0 (by omega) _ (by omega) (by omega)).mono (fun r hr h => ?_)
  rw [hr h]
  simp only [List.drop_zero]
  unfold wl
  omega

theorem ev_laws_szShape (l0 : List (S67)) (l1 : List (S67)) (hl0 : (gL gMark) l0) (hl1 : (gL gMark) l1) (a : Int) (h0 : 0 ≤ a) (h1 : a ≤ 1048576) : EvP (fun k => laws_szShape.f k l0 l1 a) (fun r => 0 ≤ r → r = a - ((wl wMark l0 + wl wMark l1 : Nat) : Int)) := by
  unfold laws_szShape.f
  refine EvP.bind (ev_laws_szMarkS l0 hl0 a (by omega) (by omega)) (fun tl0 htl0 => EvP.ite (fun hc => EvP.ret _ (fun h => absurd h (by omega))) (fun hc => ?_))
  have htl0 := htl0 (by omega)
  refine EvP.bind (ev_laws_szMarkS l1 hl1 tl0 (by omega) (by omega)) (fun tl1 htl1 => EvP.ite (fun hc => EvP.ret _ (fun h => absurd h (by omega))) (fun hc => ?_))
  have htl1 := htl1 (by omega)
  exact EvP.ret _ (fun _ => by omega)

theorem ev_laws_toMarkS_l0 (xs : List (S67)) (hx : wl wMark xs ≤ 1048576) : ∀ i, i ≤ xs.length → ∀ out : List (S69), out.length = xs.length → out.take i = (xs.take i).map cMark → EvP (fun k => laws_toMarkS.l0 k xs out i) (· = xs.map cMark) := by
  have hn := Nat.le_trans len_wl hx
  refine upInd ?_ ?_
  · intro out hl ht
    refine EvP.succ ?_
    simp only [laws_toMarkS.l0]
    refine EvP.neg (by omega) (EvP.ret _ ?_)
    rw [List.take_of_length_le (by omega), List.take_of_length_le (by omega)] at ht
    exact ht
  · intro i hi ih out hl ht
    refine EvP.succ ?_
    simp only [laws_toMarkS.l0]
    have e : rd_T67 xs (i : Int) = xs[i] := getDn hi
    rw [e, w64s hi (by omega), Int.toNat_natCast]
    have hm := mem_wl (f := wMark) (List.getElem_mem hi)
    have hw : wMark xs[i] = xs[i].f0.size + wl (fun _ : Int => 0) xs[i].f1 := rfl
    refine EvP.pos (by omega) (EvP.pos (by omega) (EvP.bind (ev_laws_toMark xs[i].f0 xs[i].f1 (by omega)) (fun t ht2 => ?_)))
    subst ht2
    exact EvP.pos (by omega) (ih _ (by simpa using hl) (take_step (c := cMark) hi hl ht))
theorem ev_laws_toMarkS (xs : List (S67)) (hx : wl wMark xs ≤ 1048576) : EvP (fun k => laws_toMarkS.f k xs) (· = (xs.map cMark)) := by
  have hn := Nat.le_trans len_wl hx
  unfold laws_toMarkS.f
  refine EvP.pos (by omega) (EvP.pos (by rw [Int.toNat_natCast]; omega) ?_)
  refine (ev_laws_toMarkS_l0 xs hx 0 (by omega) _ (by simp) rfl).mono (fun r hr => ?_)
  rw [hr]

theorem ev_laws_toShape (l0 : List (S67)) (l1 : List (S67)) (hl0 : wl wMark l0 ≤ 1048576) (hl1 : wl wMark l1 ≤ 1048576) : EvP (fun k => laws_toShape.f k l0 l1) (· = ((l0.map cMark), (l1.map cMark))) := by
  unfold laws_toShape.f
  refine EvP.bind (ev_laws_toMarkS l0 hl0) (fun tl0 htl0 => ?_)
  subst htl0
  refine EvP.bind (ev_laws_toMarkS l1 hl1) (fun tl1 htl1 => ?_)
  subst htl1
  exact EvP.ret _ rfl

def qMarkS (xs : List (S69)) : Prop := xs.length ≤ 9223372036854775807 ∧ ∀ x ∈ xs, qMark x

theorem ev_laws_eqMarkS_l0 (xs : List (S69)) (hx : qMarkS xs) : ∀ i, i ≤ xs.length → EvP (fun k => laws_eqMarkS.l0 k xs xs i) (· = true) := by
  refine upInd ?_ ?_
  · refine EvP.succ ?_
    simp only [laws_eqMarkS.l0]
    exact EvP.neg (by omega) (EvP.ret _ rfl)
  · intro i hi ih
    refine EvP.succ ?_
    simp only [laws_eqMarkS.l0]
    rw [w64s hi hx.1]
    have e : rd_T69 xs (i : Int) = xs[i] := getDn hi
    have hb := hx.2 _ (List.getElem_mem hi)
    rw [e]
    refine EvP.pos (by omega) (EvP.pos (by omega) (EvP.pos (by omega) (EvP.bind (ev_laws_eqMark xs[i].f0 xs[i].f1 hb) (fun t ht => ?_))))
    subst ht
    exact EvP.pos (by trivial) ih
theorem ev_laws_eqMarkS (xs : List (S69)) (hx : qMarkS xs) : EvP (fun k => laws_eqMarkS.f k xs xs) (· = true) := by
  unfold laws_eqMarkS.f
  exact EvP.pos (by trivial) (ev_laws_eqMarkS_l0 xs hx 0 (by omega))

theorem ev_laws_eqShape (l0 : List (S69)) (l1 : List (S69)) (hl0 : qMarkS l0) (hl1 : qMarkS l1) : EvP (fun k => laws_eqShape.f k l0 l1 l0 l1) (· = true) := by
  unfold laws_eqShape.f
  refine EvP.bind (ev_laws_eqMarkS l0 hl0) (fun tl0 htl0 => ?_)
  subst htl0
  refine EvP.pos (by trivial) ?_
  refine EvP.bind (ev_laws_eqMarkS l1 hl1) (fun tl1 htl1 => ?_)
  subst htl1
  refine EvP.pos (by trivial) ?_
  exact EvP.ret _ rfl

theorem qMark_c {xs : List S67} (h : wl wMark xs ≤ 1048576) : qMarkS (xs.map cMark) := by
  have hn := Nat.le_trans len_wl h
  refine ⟨by simp; omega, fun x hx => ?_⟩
  obtain ⟨y, hy, rfl⟩ := List.mem_map.1 hx
  have := mem_wl (f := wMark) hy
  have e : wMark y = y.f0.size + wl (fun _ : Int => 0) y.f1 := rfl
  have h2 := len_wl (f := fun _ : Int => 0) (xs := y.f1)
  show y.f1.length ≤ _
  omega

/-- Two marks say the same. -/
def smk (a b : S69) : Bool := (a.f0.toList == b.f0.toList) && (a.f1 == b.f1)

theorem ev_two_ints {f : Nat → List Int → List Int → Int → Option Bool} (h0 : ∀ k xs ys i, f (k + 1) xs ys i = if i < (xs.length : Int) then (if 0 ≤ i then (if i < (ys.length : Int) then (if (rd xs i) = (rd ys i) then f k xs ys (wrap64 (i + 1)) else some false) else none) else none) else some true) (xs ys : List Int) (hl : xs.length = ys.length) (hq : xs.length ≤ 9223372036854775807) : EvP (fun k => f k xs ys 0) (· = (xs == ys)) := by
  have key : ∀ i, i ≤ xs.length → EvP (fun k => f k xs ys i) (· = (xs.drop i == ys.drop i)) := by
    refine upInd ?_ ?_
    · refine EvP.succ ?_
      simp only [h0]
      refine EvP.neg (by omega) (EvP.ret _ ?_)
      rw [List.drop_length, hl, List.drop_length]
      rfl
    · intro i hi ih
      refine EvP.succ ?_
      simp only [h0]
      have e1 : rd xs (i : Int) = xs[i] := getDn hi
      have e2 : rd ys (i : Int) = ys[i]'(by omega) := getDn (by omega)
      rw [e1, e2, w64s hi hq]
      rw [List.drop_eq_getElem_cons hi, List.drop_eq_getElem_cons (show i < ys.length by omega)]
      refine EvP.pos (by omega) (EvP.pos (by omega) (EvP.pos (by omega) (EvP.ite (fun hc => ih.mono (fun r hr => ?_)) (fun hc => EvP.ret _ ?_))))
      · rw [hr, List.cons_beq_cons, hc]
        simp
      · rw [List.cons_beq_cons, beq_eq_false_iff_ne.2 hc]
        rfl
  exact (key 0 (by omega)).mono (fun r hr => by simpa using hr)

theorem ev_spec_l5Mark (a b : S69) (hq : qMark a) : EvP (fun k => spec_l5Mark.f k a.f0 a.f1 b.f0 b.f1) (· = smk a b) := by
  unfold spec_l5Mark.f smk
  refine EvP.ite (fun h => EvP.succ ?_) (fun h => EvP.succ ?_)
  · simp only [spec_l5Mark.j0]
    have hb : (a.f0.toList == b.f0.toList) = true := beq_iff_eq.2 h
    rw [hb, Bool.true_and]
    refine EvP.ite (fun hc => EvP.ret _ ?_) (fun hc => ?_)
    · symm
      refine beq_eq_false_iff_ne.2 (fun e => ?_)
      rw [e] at hc
      simp at hc
    · refine ev_two_ints (f := fun k xs ys i => spec_l5Mark.l0 k i a.f0 xs b.f0 ys) (fun k xs ys i => rfl) a.f1 b.f1 ?_ hq
      simp at hc
      omega
  · simp only [spec_l5Mark.j0]
    have hb : (a.f0.toList == b.f0.toList) = false := beq_eq_false_iff_ne.2 h
    rw [hb, Bool.false_and]
    exact EvP.pos trivial (EvP.ret _ rfl)

theorem ev_slices_Equal (xs ys : List Int) (hq : xs.length ≤ 9223372036854775807) : EvP (fun k => slices_Equal_int_int.f k xs ys) (· = (xs == ys)) := by
  unfold slices_Equal_int_int.f
  refine EvP.ite (fun h => ?_) (fun h => EvP.ret _ ?_)
  · exact ev_two_ints (f := fun k a b i => slices_Equal_int_int.l0 k a b (a.length : Int) i) (fun k a b i => by simp only [slices_Equal_int_int.l0]; by_cases hc : i < (a.length : Int) <;> simp only [hc, if_true, if_false]) xs ys (by omega) hq
  · symm
    refine beq_eq_false_iff_ne.2 (fun e => h ?_)
    rw [e]

theorem ev_sameMarks_1 (a b : S69) (hq : qMark a) : EvP (fun k => impl_sameMarks_1.f k a.f0 a.f1 b.f0 b.f1) (· = smk a b) := by
  unfold impl_sameMarks_1.f smk
  refine EvP.ite (fun h => EvP.bind (ev_slices_Equal a.f1 b.f1 hq) (fun t ht => EvP.ret _ ?_)) (fun h => EvP.ret _ ?_)
  · rw [ht, beq_iff_eq.2 h, Bool.true_and]
  · rw [beq_eq_false_iff_ne.2 h, Bool.false_and]

def smkS : List S69 → List S69 → Bool
  | [], [] => true
  | a :: ta, b :: tb => smk a b && smkS ta tb
  | _, _ => false

theorem smkS_len : ∀ (xs ys : List S69), xs.length ≠ ys.length → smkS xs ys = false
  | [], [], h => absurd rfl h
  | [], _ :: _, _ => rfl
  | _ :: _, [], _ => rfl
  | a :: ta, b :: tb, h => by
    unfold smkS
    rw [smkS_len ta tb (fun e => h (by simp [e])), Bool.and_false]

theorem ev_two_marks {f : Nat → List S69 → List S69 → Int → Option Bool} {g : Nat → S69 → S69 → Option Bool} (hg : ∀ a b, qMark a → EvP (fun k => g k a b) (· = smk a b)) (xs ys : List S69) (h0 : ∀ k i, f (k + 1) xs ys i = if i < (xs.length : Int) then (if 0 ≤ i then (if i < (ys.length : Int) then ((g k (rd_T69 xs i) (rd_T69 ys i)).bind fun t => if t = true then f k xs ys (wrap64 (i + 1)) else some false) else none) else none) else some true) (hl : xs.length = ys.length) (hq : qMarkS xs) : EvP (fun k => f k xs ys 0) (· = smkS xs ys) := by
  have key : ∀ i, i ≤ xs.length → EvP (fun k => f k xs ys i) (· = smkS (xs.drop i) (ys.drop i)) := by
    refine upInd ?_ ?_
    · refine EvP.succ ?_
      simp only [h0]
      refine EvP.neg (by omega) (EvP.ret _ ?_)
      rw [List.drop_length, hl, List.drop_length]
      rfl
    · intro i hi ih
      refine EvP.succ ?_
      simp only [h0]
      have e1 : rd_T69 xs (i : Int) = xs[i] := getDn hi
      have e2 : rd_T69 ys (i : Int) = ys[i]'(by omega) := getDn (by omega)
      have hb : qMark xs[i] := hq.2 _ (List.getElem_mem hi)
      rw [e1, e2, w64s hi hq.1]
      rw [List.drop_eq_getElem_cons hi, List.drop_eq_getElem_cons (show i < ys.length by omega)]
      refine EvP.pos (by omega) (EvP.pos (by omega) (EvP.pos (by omega) (EvP.bind (hg _ _ hb) (fun t ht => EvP.ite (fun hc => ih.mono (fun r hr => ?_)) (fun hc => EvP.ret _ ?_)))))
      · rw [hr]
        unfold smkS
        rw [← ht, hc, Bool.true_and]
        cases (xs.drop (i + 1)) <;> cases (ys.drop (i + 1)) <;> rfl
      · unfold smkS
        rw [Bool.not_eq_true] at hc
        rw [← ht, hc, Bool.false_and]
  exact (key 0 (by omega)).mono (fun r hr => by simpa using hr)

theorem ev_spec_ShapeSame (a0 a1 b0 b1 : List S69) (h0 : qMarkS a0) (h1 : qMarkS a1) : EvP (fun k => spec_ShapeSame.f k a0 a1 b0 b1) (· = (smkS a0 b0 && smkS a1 b1)) := by
  have one : ∀ (a b : List S69), qMarkS a → EvP (fun k => spec_l5Same.f k a b) (· = smkS a b) := by
    intro a b h
    unfold spec_l5Same.f
    refine EvP.ite (fun hl => ?_) (fun hl => EvP.ret _ (smkS_len a b (by omega)).symm)
    exact ev_two_marks (f := fun k xs ys i => spec_l5Same.l0 k xs ys i) (g := fun k x y => spec_l5Mark.f k x.f0 x.f1 y.f0 y.f1) ev_spec_l5Mark a b (fun k i => rfl) (by omega) h
  unfold spec_ShapeSame.f
  refine EvP.bind (one a0 b0 h0) (fun t ht => EvP.ite (fun hc => EvP.bind (one a1 b1 h1) (fun t' ht' => EvP.ret _ ?_)) (fun hc => EvP.ret _ ?_))
  · rw [← ht, hc, ht', Bool.true_and]
  · rw [Bool.not_eq_true] at hc
    rw [← ht, hc, Bool.false_and]

theorem ev_impl_ShapeSame (a0 a1 b0 b1 : List S69) (h0 : qMarkS a0) (h1 : qMarkS a1) : EvP (fun k => impl_ShapeSame.f k a0 a1 b0 b1) (· = (smkS a0 b0 && smkS a1 b1)) := by
  have one : ∀ (a b : List S69), qMarkS a → EvP (fun k => impl_sameMarks.f k a b) (· = smkS a b) := by
    intro a b h
    unfold impl_sameMarks.f eqMarks.f
    refine EvP.bind (g := fun k => if (a.length : Int) = (b.length : Int) then (eqMarks.l0 k b a (a.length : Int) 0) else (some false)) (Q := (· = smkS a b)) ?_ (fun t ht => EvP.ret _ ht)
    refine EvP.ite (fun hl => ?_) (fun hl => EvP.ret _ (smkS_len a b (by omega)).symm)
    refine ev_two_marks (f := fun k xs ys i => eqMarks.l0 k ys xs (xs.length : Int) i) (g := fun k x y => impl_sameMarks_1.f k x.f0 x.f1 y.f0 y.f1) ev_sameMarks_1 a b (fun k i => ?_) (by omega) h
    simp only [eqMarks.l0]
    by_cases hc : i < (a.length : Int) <;> simp only [hc, if_true, if_false]
  unfold impl_ShapeSame.f
  refine EvP.bind (one a0 b0 h0) (fun t ht => EvP.ite (fun hc => EvP.bind (one a1 b1 h1) (fun t' ht' => EvP.ret _ ?_)) (fun hc => EvP.ret _ ?_))
  · rw [← ht, hc, ht', Bool.true_and]
  · rw [Bool.not_eq_true] at hc
    rw [← ht, hc, Bool.false_and]

theorem FnExactShapeSame (l0 l1 m0 m1 : List S67) (g : gL gMark l0 ∧ gL gMark l1) (g' : gL gMark m0 ∧ gL gMark m1) : ∃ k, laws_FnExactShapeSame.f k l0 l1 m0 m1 = some true := by
  refine EvP.rounds ?_
  unfold laws_FnExactShapeSame.f
  refine EvP.bind (ev_laws_szShape l0 l1 g.1 g.2 1048576 (by omega) (by omega)) (fun t ht => EvP.ite (fun _ => EvP.ret _ rfl) (fun hc => ?_))
  have ht' := ht (by omega)
  refine EvP.bind (ev_laws_szShape m0 m1 g'.1 g'.2 t (by omega) (by omega)) (fun t2 ht2 => EvP.ite (fun _ => EvP.ret _ rfl) (fun hc2 => ?_))
  have ht2 := ht2 (by omega)
  have w0 : wl wMark l0 ≤ 1048576 := by omega
  have w1 : wl wMark l1 ≤ 1048576 := by omega
  have v0 : wl wMark m0 ≤ 1048576 := by omega
  have v1 : wl wMark m1 ≤ 1048576 := by omega
  refine EvP.bind (ev_laws_toShape l0 l1 w0 w1) (fun t1 h1 => ?_)
  subst h1
  refine EvP.bind (ev_laws_toShape m0 m1 v0 v1) (fun t1 h1 => ?_)
  subst h1
  refine EvP.bind (ev_spec_ShapeSame _ _ _ _ (qMark_c w0) (qMark_c w1)) (fun t1 h1 => ?_)
  refine EvP.bind (ev_laws_toShape l0 l1 w0 w1) (fun t3 h3 => ?_)
  subst h3
  refine EvP.bind (ev_laws_toShape m0 m1 v0 v1) (fun t3 h3 => ?_)
  subst h3
  refine EvP.bind (ev_impl_ShapeSame _ _ _ _ (qMark_c w0) (qMark_c w1)) (fun t3 h3 => ?_)
  refine EvP.neg (by rw [h1, h3]; simp) ?_
  refine EvP.bind (ev_laws_toShape l0 l1 w0 w1) (fun t4 h4 => ?_)
  subst h4
  refine EvP.bind (ev_laws_eqShape _ _ (qMark_c w0) (qMark_c w1)) (fun t5 h5 => ?_)
  subst h5
  refine EvP.pos (by trivial) ?_
  refine EvP.bind (ev_laws_toShape m0 m1 v0 v1) (fun t4 h4 => ?_)
  subst h4
  refine EvP.bind (ev_laws_eqShape _ _ (qMark_c v0) (qMark_c v1)) (fun t5 h5 => ?_)
  subst h5
  exact EvP.pos (by trivial) (EvP.ret _ rfl)


end Go.Proofs.Ytkdkmpbdpniccaa.Pure
