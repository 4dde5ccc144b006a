/- ShapeText of the program and of the reference give the same for every shape; the argument stays as it was. -/
import Derived.Test.YtpfpfnjmhdgglaaDoorOFnExactShapeTextx1
import Derived.Test.YtpfpfnjmhdgglaaDoorOFnExactShapeTextx2
import Derived.Test.YtpfpfnjmhdgglaaDoorOFnExactShapeTextx3
import Derived.Test.YtpfpfnjmhdgglaaDoorOFnExactShapeTextx4
import Derived.Test.YtpfpfnjmhdgglaaDoorBase
namespace Go.Proofs.YtpfpfnjmhdgglaaDoor.Pure
open Go.RowKit Go.Proofs.YtpfpfnjmhdgglaaDoor.OFnExactShapeText Go.Proofs.YtpfpfnjmhdgglaaDoorW.PrintWords Go.Proofs.YtpfpfnjmhdgglaaDoorW.PrintLast Go.Proofs.YtpfpfnjmhdgglaaDoorW.PrintMore Go.Proofs.YtpfpfnjmhdgglaaDoor.Base
set_option linter.unusedVariables false
set_option linter.unusedSimpArgs false

theorem take_step {α β : Type} {c : α → β} {xs : List α} {out : List β} {i : Nat} (hi : i < xs.length) (hl : out.length = xs.length) (h : out.take i = (xs.take i).map c) : (out.set i (c xs[i])).take (i + 1) = (xs.take (i + 1)).map c := by
  rw [take_set_succ (by omega), h, List.take_succ_eq_append_getElem hi, List.map_append]
  rfl


def gMark (x : S44) : Prop := gStr x.f0 ∧ (gL gInt) x.f1

def wMark (x : S44) : Nat := x.f0.size + wl (fun _ : Int => 0) x.f1

def cMark (x : S44) : S39 := ⟨x.f0, x.f1⟩

theorem ev_laws_szIntS (xs : List Int) (hx : gL gInt xs) (a : Int) (h0 : 0 ≤ a) (h1 : a ≤ 1048576) : EvP (fun _ => laws_szIntS.f xs a) (fun r => 0 ≤ r → r = a - ((wl (fun _ : Int => 0) xs : Nat) : Int)) := by
  have h2 := hx.1
  unfold laws_szIntS.f
  rw [w64 (by omega) (by omega)]
  refine EvP.ite (fun hc => EvP.ret _ (fun h => absurd h (by omega))) (fun hc => EvP.ret _ (fun _ => ?_))
  unfold wl
  have := sum_map_zero xs
  omega

theorem ev_laws_szMark (s0 : ByteArray) (l1 : List Int) (hs0 : gStr s0) (hl1 : (gL gInt) l1) (a : Int) (h0 : 0 ≤ a) (h1 : a ≤ 1048576) : EvP (fun _ => laws_szMark.f s0 l1 a) (fun r => 0 ≤ r → r = a - ((s0.size + wl (fun _ : Int => 0) l1 : Nat) : Int)) := by
  unfold laws_szMark.f
  unfold gStr at hs0
  rw [w64 (n := a - (s0.size : Int)) (by omega) (by omega)]
  refine EvP.ite (fun hc => EvP.ret _ (fun h => absurd h (by omega))) (fun hc => ?_)
  obtain ⟨ts0, hts0⟩ : ∃ t : Int, t = a - (s0.size : Int) := ⟨_, rfl⟩
  rw [← hts0] at hc ⊢
  refine EvP.bind (ev_laws_szIntS l1 hl1 ts0 (by omega) (by omega)) (fun tl1 htl1 => EvP.ite (fun hc => EvP.ret _ (fun h => absurd h (by omega))) (fun hc => ?_))
  have htl1 := htl1 (by omega)
  exact EvP.ret _ (fun _ => by omega)

theorem ev_laws_toIntS_l0 (xs : List Int) (hx : wl (fun _ : Int => 0) xs ≤ 1048576) : ∀ i, i ≤ xs.length → ∀ out : List Int, out.length = xs.length → out.take i = (xs.take i).map id → EvP (fun k => laws_toIntS.l0 k xs out i) (· = xs.map id) := by
  have hn := Nat.le_trans len_wl hx
  refine upInd ?_ ?_
  · intro out hl ht
    refine EvP.succ ?_
    simp only [laws_toIntS.l0]
    refine EvP.neg (by omega) (EvP.ret _ ?_)
    rw [List.take_of_length_le (by omega), List.take_of_length_le (by omega)] at ht
    exact ht
  · intro i hi ih out hl ht
    refine EvP.succ ?_
    simp only [laws_toIntS.l0]
    have e : rd xs (i : Int) = xs[i] := getDn hi
    rw [e, w64s hi (by omega), Int.toNat_natCast]
    exact EvP.pos (by omega) (EvP.pos (by omega) (EvP.pos (by omega) (ih _ (by simpa using hl) (take_step (c := id) hi hl ht))))
theorem ev_laws_toIntS (xs : List Int) (hx : wl (fun _ : Int => 0) xs ≤ 1048576) : EvP (fun k => laws_toIntS.f k xs) (· = xs) := by
  have hn := Nat.le_trans len_wl hx
  unfold laws_toIntS.f
  refine EvP.pos (by omega) (EvP.pos (by rw [Int.toNat_natCast]; omega) ?_)
  refine (ev_laws_toIntS_l0 xs hx 0 (by omega) _ (by simp) rfl).mono (fun r hr => ?_)
  rw [hr]
  first | rfl | simp

theorem ev_laws_toMark (s0 : ByteArray) (l1 : List Int) (hl1 : wl (fun _ : Int => 0) l1 ≤ 1048576) : EvP (fun k => laws_toMark.f k s0 l1) (· = (s0, l1)) := by
  unfold laws_toMark.f
  refine EvP.bind (ev_laws_toIntS l1 hl1) (fun tl1 htl1 => ?_)
  subst htl1
  exact EvP.ret _ rfl

def qIntS (xs : List Int) : Prop := xs.length ≤ 9223372036854775807

def qMark (x : S39) : Prop := qIntS x.f1

theorem ev_laws_eqIntS_l0 (xs : List Int) (hx : qIntS xs) : ∀ i, i ≤ xs.length → EvP (fun k => laws_eqIntS.l0 k xs xs i) (· = true) := by
  refine upInd ?_ ?_
  · refine EvP.succ ?_
    simp only [laws_eqIntS.l0]
    exact EvP.neg (by omega) (EvP.ret _ rfl)
  · intro i hi ih
    refine EvP.succ ?_
    simp only [laws_eqIntS.l0]
    rw [w64s hi hx]
    exact EvP.pos (by omega) (EvP.pos (by omega) (EvP.pos (by omega) (EvP.pos (by trivial) ih)))
theorem ev_laws_eqIntS (xs : List Int) (hx : qIntS xs) : EvP (fun k => laws_eqIntS.f k xs xs) (· = true) := by
  unfold laws_eqIntS.f
  exact EvP.pos (by trivial) (ev_laws_eqIntS_l0 xs hx 0 (by omega))

theorem ev_laws_eqMark (s0 : ByteArray) (l1 : List Int) (hl1 : qIntS l1) : EvP (fun k => laws_eqMark.f k s0 l1 s0 l1) (· = true) := by
  unfold laws_eqMark.f
  refine EvP.pos (by trivial) ?_
  refine EvP.bind (ev_laws_eqIntS l1 hl1) (fun tl1 htl1 => ?_)
  subst htl1
  refine EvP.pos (by trivial) ?_
  exact EvP.ret _ rfl

theorem ev_laws_szMarkS_l0 (xs : List (S44)) (hx : gL gMark xs) : ∀ i, i ≤ xs.length → ∀ a : Int, 0 ≤ a → a ≤ 1048576 → EvP (fun k => laws_szMarkS.l0 k xs a i) (fun r => 0 ≤ r → r = a - ((((xs.drop i).map wMark).sum : Nat) : Int)) := by
  refine upInd ?_ ?_
  · intro a h0 h1
    refine EvP.succ ?_
    simp only [laws_szMarkS.l0]
    exact EvP.neg (by omega) (EvP.ret _ (fun _ => by simp))
  · intro i hi ih a h0 h1
    refine EvP.succ ?_
    simp only [laws_szMarkS.l0]
    have e : rd_T44 xs (i : Int) = xs[i] := getDn hi
    have hb := hx.2 _ (List.getElem_mem hi)
    rw [e, w64s hi hx.1]
    refine EvP.pos (by omega) (EvP.pos (by omega) (EvP.bind (ev_laws_szMark xs[i].f0 xs[i].f1 hb.1 hb.2 a h0 h1) (fun t ht => EvP.ite (fun hc => EvP.ret _ (fun h => absurd h (by omega))) (fun hc => ?_))))
    have ht := ht (by omega)
    refine (ih _ (by omega) (by omega)).mono (fun r hr h => ?_)
    have hw : wMark xs[i] = xs[i].f0.size + wl (fun _ : Int => 0) xs[i].f1 := rfl
    rw [hr h, List.drop_eq_getElem_cons hi]
    simp only [List.map_cons, List.sum_cons]
    omega
theorem ev_laws_szMarkS (xs : List (S44)) (hx : gL gMark xs) (a : Int) (h0 : 0 ≤ a) (h1 : a ≤ 1048576) : EvP (fun k => laws_szMarkS.f k xs a) (fun r => 0 ≤ r → r = a - ((wl wMark xs : Nat) : Int)) := by
  have h2 := hx.1
  unfold laws_szMarkS.f
  rw [w64 (by omega) (by omega)]
  refine EvP.ite (fun hc => EvP.ret _ (fun h => absurd h (by omega))) (fun hc => ?_)
  refine (ev_laws_szMarkS_l0 xs hx 0 (by omega) _ (by omega) (by omega)).mono (fun r hr h => ?_)
  rw [hr h]
  simp only [List.drop_zero]
  unfold wl
  omega

theorem ev_laws_szShape (l0 : List (S44)) (l1 : List (S44)) (hl0 : (gL gMark) l0) (hl1 : (gL gMark) l1) (a : Int) (h0 : 0 ≤ a) (h1 : a ≤ 1048576) : EvP (fun k => laws_szShape.f k l0 l1 a) (fun r => 0 ≤ r → r = a - ((wl wMark l0 + wl wMark l1 : Nat) : Int)) := by
  unfold laws_szShape.f
  refine EvP.bind (ev_laws_szMarkS l0 hl0 a (by omega) (by omega)) (fun tl0 htl0 => EvP.ite (fun hc => EvP.ret _ (fun h => absurd h (by omega))) (fun hc => ?_))
  have htl0 := htl0 (by omega)
  refine EvP.bind (ev_laws_szMarkS l1 hl1 tl0 (by omega) (by omega)) (fun tl1 htl1 => EvP.ite (fun hc => EvP.ret _ (fun h => absurd h (by omega))) (fun hc => ?_))
  have htl1 := htl1 (by omega)
  exact EvP.ret _ (fun _ => by omega)

theorem ev_laws_toMarkS_l0 (xs : List (S44)) (hx : wl wMark xs ≤ 1048576) : ∀ i, i ≤ xs.length → ∀ out : List (S39), out.length = xs.length → out.take i = (xs.take i).map cMark → EvP (fun k => laws_toMarkS.l0 k xs out i) (· = xs.map cMark) := by
  have hn := Nat.le_trans len_wl hx
  refine upInd ?_ ?_
  · intro out hl ht
    refine EvP.succ ?_
    simp only [laws_toMarkS.l0]
    refine EvP.neg (by omega) (EvP.ret _ ?_)
    rw [List.take_of_length_le (by omega), List.take_of_length_le (by omega)] at ht
    exact ht
  · intro i hi ih out hl ht
    refine EvP.succ ?_
    simp only [laws_toMarkS.l0]
    have e : rd_T44 xs (i : Int) = xs[i] := getDn hi
    rw [e, w64s hi (by omega), Int.toNat_natCast]
    have hm := mem_wl (f := wMark) (List.getElem_mem hi)
    have hw : wMark xs[i] = xs[i].f0.size + wl (fun _ : Int => 0) xs[i].f1 := rfl
    refine EvP.pos (by omega) (EvP.pos (by omega) (EvP.bind (ev_laws_toMark xs[i].f0 xs[i].f1 (by omega)) (fun t ht2 => ?_)))
    subst ht2
    exact EvP.pos (by omega) (ih _ (by simpa using hl) (take_step (c := cMark) hi hl ht))
theorem ev_laws_toMarkS (xs : List (S44)) (hx : wl wMark xs ≤ 1048576) : EvP (fun k => laws_toMarkS.f k xs) (· = (xs.map cMark)) := by
  have hn := Nat.le_trans len_wl hx
  unfold laws_toMarkS.f
  refine EvP.pos (by omega) (EvP.pos (by rw [Int.toNat_natCast]; omega) ?_)
  refine (ev_laws_toMarkS_l0 xs hx 0 (by omega) _ (by simp) rfl).mono (fun r hr => ?_)
  rw [hr]

theorem ev_laws_toShape (l0 : List (S44)) (l1 : List (S44)) (hl0 : wl wMark l0 ≤ 1048576) (hl1 : wl wMark l1 ≤ 1048576) : EvP (fun k => laws_toShape.f k l0 l1) (· = ((l0.map cMark), (l1.map cMark))) := by
  unfold laws_toShape.f
  refine EvP.bind (ev_laws_toMarkS l0 hl0) (fun tl0 htl0 => ?_)
  subst htl0
  refine EvP.bind (ev_laws_toMarkS l1 hl1) (fun tl1 htl1 => ?_)
  subst htl1
  exact EvP.ret _ rfl

def qMarkS (xs : List (S39)) : Prop := xs.length ≤ 9223372036854775807 ∧ ∀ x ∈ xs, qMark x

theorem ev_laws_eqMarkS_l0 (xs : List (S39)) (hx : qMarkS xs) : ∀ i, i ≤ xs.length → EvP (fun k => laws_eqMarkS.l0 k xs xs i) (· = true) := by
  refine upInd ?_ ?_
  · refine EvP.succ ?_
    simp only [laws_eqMarkS.l0]
    exact EvP.neg (by omega) (EvP.ret _ rfl)
  · intro i hi ih
    refine EvP.succ ?_
    simp only [laws_eqMarkS.l0]
    rw [w64s hi hx.1]
    have e : rd_T39 xs (i : Int) = xs[i] := getDn hi
    have hb := hx.2 _ (List.getElem_mem hi)
    rw [e]
    refine EvP.pos (by omega) (EvP.pos (by omega) (EvP.pos (by omega) (EvP.bind (ev_laws_eqMark xs[i].f0 xs[i].f1 hb) (fun t ht => ?_))))
    subst ht
    exact EvP.pos (by trivial) ih
theorem ev_laws_eqMarkS (xs : List (S39)) (hx : qMarkS xs) : EvP (fun k => laws_eqMarkS.f k xs xs) (· = true) := by
  unfold laws_eqMarkS.f
  exact EvP.pos (by trivial) (ev_laws_eqMarkS_l0 xs hx 0 (by omega))

theorem ev_laws_eqShape (l0 : List (S39)) (l1 : List (S39)) (hl0 : qMarkS l0) (hl1 : qMarkS l1) : EvP (fun k => laws_eqShape.f k l0 l1 l0 l1) (· = true) := by
  unfold laws_eqShape.f
  refine EvP.bind (ev_laws_eqMarkS l0 hl0) (fun tl0 htl0 => ?_)
  subst htl0
  refine EvP.pos (by trivial) ?_
  refine EvP.bind (ev_laws_eqMarkS l1 hl1) (fun tl1 htl1 => ?_)
  subst htl1
  refine EvP.pos (by trivial) ?_
  exact EvP.ret _ rfl

theorem qMark_c {xs : List S44} (h : wl wMark xs ≤ 1048576) : qMarkS (xs.map cMark) := by
  have hn := Nat.le_trans len_wl h
  refine ⟨by simp; omega, fun x hx => ?_⟩
  obtain ⟨y, hy, rfl⟩ := List.mem_map.1 hx
  have := mem_wl (f := wMark) hy
  have e : wMark y = y.f0.size + wl (fun _ : Int => 0) y.f1 := rfl
  have h2 := len_wl (f := fun _ : Int => 0) (xs := y.f1)
  show y.f1.length ≤ _
  omega

/-- A number's text. -/
def dec (n : Int) : ByteArray := ⟨(Lib.itoa n).toArray⟩

theorem dec_small {n : Nat} (h : n < 10) : dec (n : Int) = strOfNums [(wrap64 (48 + (n : Int))) % 256] := by
  unfold dec Lib.itoa
  rw [if_neg (by omega), Int.toNat_natCast, Lib.decDigits, dif_pos h]
  have h2 : n = 0 ∨ n = 1 ∨ n = 2 ∨ n = 3 ∨ n = 4 ∨ n = 5 ∨ n = 6 ∨ n = 7 ∨ n = 8 ∨ n = 9 := by omega
  rcases h2 with e | e | e | e | e | e | e | e | e | e <;> subst e <;> simp [strOfNums, wrap64]

theorem dec_step {n : Nat} (h : ¬ n < 10) : dec (n : Int) = dec ((n / 10 : Nat) : Int) ++ dec ((n % 10 : Nat) : Int) := by
  have h1 : Lib.decDigits (n % 10) = [UInt8.ofNat (48 + n % 10)] := by rw [Lib.decDigits, dif_pos (by omega)]
  unfold dec Lib.itoa
  rw [if_neg (by omega), if_neg (by omega), if_neg (by omega), Int.toNat_natCast, Int.toNat_natCast, Int.toNat_natCast, h1, Lib.decDigits, dif_neg h]
  apply ByteArray.ext
  simp

/-- Texts joined with blanks. -/
def joinB (l : List ByteArray) : ByteArray := ⟨(Lib.join (l.map (·.data.toList)) (⟨#[32]⟩ : ByteArray).data.toList).toArray⟩

def joinT (a : ByteArray) : List ByteArray → ByteArray
  | [] => a
  | t :: r => joinT ((a ++ (⟨#[32]⟩ : ByteArray)) ++ t) r
theorem joinT_eq : ∀ (r : List ByteArray) (a : ByteArray), (joinT a r).data.toList = a.data.toList ++ Lib.joinTail (⟨#[32]⟩ : ByteArray).data.toList (r.map (·.data.toList))
  | [], a => by simp [joinT, Lib.joinTail]
  | t :: r, a => by
    rw [joinT, joinT_eq r]
    simp [Lib.joinTail]
theorem joinB_nil : joinB [] = ⟨#[]⟩ := by
  unfold joinB
  rw [List.map_nil, Lib.join_nil]
theorem joinB_cons (a t : ByteArray) (r : List ByteArray) : joinT (a ++ t) r = a ++ joinB (t :: r) := by
  apply ByteArray.ext
  apply Array.toList_inj.1
  rw [joinT_eq]
  unfold joinB
  rw [List.map_cons, Lib.join_cons]
  simp

theorem joinT_size : ∀ (r : List ByteArray) (a : ByteArray), (joinT a r).size = a.size + (r.map fun t => t.size + 1).sum
  | [], a => by simp [joinT]
  | t :: r, a => by
    rw [joinT, joinT_size r]
    have : (⟨#[32]⟩ : ByteArray).size = 1 := rfl
    simp only [ByteArray.size_append, List.map_cons, List.sum_cons]
    omega
theorem joinB_size : ∀ (l : List ByteArray), (joinB l).size ≤ (l.map fun t => t.size + 1).sum
  | [] => by rw [joinB_nil]; exact Nat.zero_le _
  | t :: r => by
    have h := joinB_cons ⟨#[]⟩ t r
    have h0 : (⟨#[]⟩ : ByteArray).size = 0 := rfl
    have h2 := congrArg ByteArray.size h
    rw [joinT_size, ByteArray.size_append, ByteArray.size_append] at h2
    simp only [List.map_cons, List.sum_cons]
    omega

theorem dec_len : ∀ (k n : Nat), n < 10 ^ (k + 1) → (dec (n : Int)).size ≤ k + 1
  | 0, n, h => by
    rw [dec_small (by simpa using h)]
    exact Nat.le_refl 1
  | k + 1, n, h => by
    by_cases h0 : n < 10
    · rw [dec_small h0]
      show 1 ≤ k + 1 + 1
      omega
    · rw [dec_step h0, ByteArray.size_append]
      have h2 : (dec ((n % 10 : Nat) : Int)).size = 1 := by rw [dec_small (by omega)]; rfl
      have h1 := dec_len k (n / 10) (by rw [Nat.pow_succ] at h; omega)
      omega

theorem dec_neg {n : Int} (h : n < 0) : dec n = (⟨#[45]⟩ : ByteArray) ++ dec (-n) := by
  unfold dec Lib.itoa
  rw [if_pos h, if_neg (by omega), show (-n).toNat = n.natAbs by omega]
  apply ByteArray.ext
  simp

theorem dec_len64 {n : Int} (h : gInt n) : (dec n).size ≤ 20 := by
  unfold gInt at h
  by_cases h0 : n < 0
  · rw [dec_neg h0, ByteArray.size_append]
    have h1 : (⟨#[45]⟩ : ByteArray).size = 1 := rfl
    have h2 := dec_len 18 (-n).toNat (by simp; omega)
    rw [show (((-n).toNat : Nat) : Int) = -n by omega] at h2
    omega
  · have h2 := dec_len 18 n.toNat (by simp; omega)
    rw [show ((n.toNat : Nat) : Int) = n by omega] at h2
    omega

theorem ev_dec_nat : ∀ n : Nat, n ≤ 9223372036854775807 → EvP (fun k => spec_l6Dec.f k (n : Int)) (· = dec (n : Int)) := by
  intro n
  induction n using Nat.strongRecOn with
  | _ n ih =>
    intro hn
    refine EvP.succ ?_
    simp only [spec_l6Dec.f]
    refine EvP.neg (by omega) (EvP.neg (by omega) (EvP.ite (fun h => EvP.ret _ (dec_small (by omega)).symm) (fun h => ?_)))
    have e1 : wrap64 (Int.tdiv (n : Int) 10) = ((n / 10 : Nat) : Int) := by
      have : Int.tdiv (n : Int) 10 = ((n / 10 : Nat) : Int) := rfl
      rw [this, w64 (by omega) (by omega)]
    have e2 : Int.tmod (n : Int) 10 = ((n % 10 : Nat) : Int) := rfl
    rw [e1, e2]
    refine EvP.bind (ih (n / 10) (by omega) (by omega)) (fun t ht => ?_)
    simp only [Option.bind_some]
    have hs := dec_len 18 (n / 10) (by simp; omega)
    have h1 : (strOfNums [(wrap64 (48 + ((n % 10 : Nat) : Int))) % 256]).size = 1 := rfl
    refine EvP.pos (by rw [ht]; omega) (EvP.ret _ ?_)
    rw [ht, ← dec_small (by omega : n % 10 < 10), ← dec_step (by omega)]
theorem ev_dec64 {n : Int} (h : gInt n) : EvP (fun k => spec_l6Dec.f k n) (· = dec n) := by
  unfold gInt at h
  by_cases h0 : n < 0
  · refine EvP.succ ?_
    simp only [spec_l6Dec.f]
    refine EvP.ite (fun h1 => EvP.ret _ ?_) (fun h1 => EvP.pos h0 ?_)
    · have e : n = -9223372036854775808 := by omega
      subst e
      simp [dec, Lib.itoa, Lib.decDigits]
    · rw [w64 (by omega) (by omega)]
      have h2 := ev_dec_nat (-n).toNat (by omega)
      have h3 := dec_len 18 (-n).toNat (by simp; omega)
      rw [show (((-n).toNat : Nat) : Int) = -n by omega] at h2 h3
      refine EvP.bind h2 (fun r hr => ?_)
      subst hr
      exact EvP.pos (by omega) (EvP.ret _ (dec_neg h0).symm)
  · have h2 := ev_dec_nat n.toNat (by omega)
    rwa [show ((n.toNat : Nat) : Int) = n by omega] at h2

theorem eq_itoa64 {a : Int} (h : gInt a) : strconv_Itoa.f a = some (dec a) := by
  unfold gInt at h
  unfold strconv_Itoa.f
  rw [if_pos (by omega)]
  rfl

/-- The text of a mark. -/
def mHead (s : ByteArray) : ByteArray := if s.toList = ([] : List UInt8) then ⟨#[45]⟩ else s
def mTail (a : ByteArray) : List Int → ByteArray
  | [] => a
  | n :: r => mTail (a ++ ((⟨#[46]⟩ : ByteArray) ++ dec n)) r
def mtext (m : S39) : ByteArray := mTail (mHead m.f0) m.f1
theorem mTail_size : ∀ (r : List Int) (a : ByteArray), (∀ n ∈ r, gInt n) → a.size ≤ (mTail a r).size ∧ (mTail a r).size ≤ a.size + 21 * r.length
  | [], a, _ => by simp [mTail]
  | n :: r, a, h => by
    have h1 := mTail_size r (a ++ ((⟨#[46]⟩ : ByteArray) ++ dec n)) (fun m hm => h m (by simp [hm]))
    have h2 := dec_len64 (h n (by simp))
    have h3 : (⟨#[46]⟩ : ByteArray).size = 1 := rfl
    rw [ByteArray.size_append, ByteArray.size_append] at h1
    rw [mTail, List.length_cons]
    omega
theorem mHead_size (s : ByteArray) : (mHead s).size ≤ s.size + 1 := by
  unfold mHead
  have h3 : (⟨#[45]⟩ : ByteArray).size = 1 := rfl
  split <;> omega

def markSum (l : List S39) : Nat := (l.map fun m => m.f0.size + m.f1.length + 1).sum
theorem markSum_c (l : List S44) : markSum (l.map cMark) ≤ wl wMark l := by
  induction l with
  | nil => simp [markSum]
  | cons x xs ih =>
    have h := len_wl (f := fun _ : Int => 0) (xs := x.f1)
    have e : wMark x = x.f0.size + wl (fun _ : Int => 0) x.f1 := rfl
    have e2 : (cMark x).f0.size = x.f0.size := rfl
    have e3 : (cMark x).f1.length = x.f1.length := rfl
    unfold wl at ih ⊢
    unfold markSum at ih ⊢
    simp only [List.map_cons, List.sum_cons, List.length_cons, e2, e3]
    omega
theorem markSum_text : ∀ (l : List S39), (∀ m ∈ l, ∀ n ∈ m.f1, gInt n) → ((l.map mtext).map fun t => t.size + 1).sum ≤ 22 * markSum l
  | [], _ => by simp
  | m :: r, h => by
    have h1 := markSum_text r (fun x hx => h x (by simp [hx]))
    have h2 := (mTail_size m.f1 (mHead m.f0) (h m (by simp))).2
    have h3 := mHead_size m.f0
    unfold mtext at h1 ⊢
    unfold markSum at h1 ⊢
    simp only [List.map_cons, List.sum_cons]
    omega

theorem joinT_app : ∀ (l1 l2 : List ByteArray) (a : ByteArray), joinT a (l1 ++ l2) = joinT (joinT a l1) l2
  | [], _, _ => rfl
  | t :: r, l2, a => by rw [List.cons_append, joinT, joinT, joinT_app r]
theorem joinT_pre : ∀ (r : List ByteArray) (a b : ByteArray), joinT (a ++ b) r = a ++ joinT b r
  | [], _, _ => rfl
  | t :: r, a, b => by
    rw [joinT, joinT, ← joinT_pre r]
    simp only [ByteArray.append_assoc]
theorem nil_app (x : ByteArray) : (⟨#[]⟩ : ByteArray) ++ x = x := by
  apply ByteArray.ext
  simp
theorem app_nil (x : ByteArray) : x ++ (⟨#[]⟩ : ByteArray) = x := by
  apply ByteArray.ext
  simp

/-- The text of a shape. -/
def shapeText (S P : List S39) : ByteArray := joinB ((S.map mtext ++ [(⟨#[124]⟩ : ByteArray)]) ++ P.map mtext)

-- joinT_app
theorem shape_join (S P : List S39) : (joinT ⟨#[]⟩ (S.map mtext) ++ (⟨#[32, 124]⟩ : ByteArray)) ++ joinT ⟨#[]⟩ (P.map mtext) = (⟨#[32]⟩ : ByteArray) ++ shapeText S P := by
  have e1 : (⟨#[32, 124]⟩ : ByteArray) = (⟨#[32]⟩ : ByteArray) ++ (⟨#[124]⟩ : ByteArray) := rfl
  unfold shapeText
  cases h : (S.map mtext ++ [(⟨#[124]⟩ : ByteArray)]) ++ P.map mtext with
  | nil => simp at h
  | cons t r =>
    have h2 := joinB_cons ((⟨#[]⟩ : ByteArray) ++ (⟨#[32]⟩ : ByteArray)) t r
    have h3 : joinT ⟨#[]⟩ (t :: r) = joinT (((⟨#[]⟩ : ByteArray) ++ (⟨#[32]⟩ : ByteArray)) ++ t) r := rfl
    rw [← h3, ← h, joinT_app, joinT_app, nil_app] at h2
    have h4 : joinT (joinT ⟨#[]⟩ (S.map mtext)) [(⟨#[124]⟩ : ByteArray)] = (joinT ⟨#[]⟩ (S.map mtext) ++ (⟨#[32]⟩ : ByteArray)) ++ (⟨#[124]⟩ : ByteArray) := rfl
    have h5 := joinT_pre (P.map mtext) ((joinT ⟨#[]⟩ (S.map mtext) ++ (⟨#[32]⟩ : ByteArray)) ++ (⟨#[124]⟩ : ByteArray)) ⟨#[]⟩
    rw [app_nil] at h5
    rw [h4, h5] at h2
    rw [← h, ← h2, e1]
    simp only [ByteArray.append_assoc]
theorem ext_tail (x : ByteArray) : ((⟨#[32]⟩ : ByteArray) ++ x).extract 1 ((⟨#[32]⟩ : ByteArray) ++ x).size = x := by
  first
  | exact ByteArray.extract_append_eq_right rfl (by rw [ByteArray.size_append])
  | (apply ByteArray.ext; simp)

-- mtext
theorem ev_impl_Mark_text (m : S39) (hg : ∀ n ∈ m.f1, gInt n) (hs : m.f0.size + m.f1.length ≤ 3000000) : EvP (fun k => impl_Mark_text.f k m.f0 m.f1) (· = mtext m) := by
  have key : ∀ i, i ≤ m.f1.length → ∀ a : ByteArray, a.size + 21 * (m.f1.length - i) ≤ 100000000 → EvP (fun k => impl_Mark_text.l0 k a m.f1 (m.f1.length : Int) i) (· = mTail a (m.f1.drop i)) := by
    refine upInd ?_ ?_
    · intro a _
      refine EvP.succ ?_
      simp only [impl_Mark_text.l0]
      exact EvP.neg (by omega) (EvP.ret _ (by rw [List.drop_length]; rfl))
    · intro i hi ih a ha
      refine EvP.succ ?_
      simp only [impl_Mark_text.l0]
      have e : rd m.f1 (i : Int) = m.f1[i] := getDn hi
      have hgi := hg _ (List.getElem_mem hi)
      have hd := dec_len64 hgi
      have h3 : (⟨#[46]⟩ : ByteArray).size = 1 := rfl
      rw [e, w64s hi (by omega), List.drop_eq_getElem_cons hi, mTail]
      refine EvP.pos (by omega) (EvP.pos (by omega) (EvP.pos (by omega) (EvP.call (eq_itoa64 hgi) (EvP.pos (by omega) (EvP.pos ?_ (ih _ ?_))))))
      · rw [ByteArray.size_append]; omega
      · rw [ByteArray.size_append, ByteArray.size_append]; omega
  have h4 : (⟨#[45]⟩ : ByteArray).size = 1 := rfl
  have k0 := key 0 (by omega)
  simp only [List.drop_zero] at k0
  unfold impl_Mark_text.f mtext mHead
  refine EvP.ite (fun h => ?_) (fun h => ?_)
  · rw [if_pos h]
    refine EvP.succ ?_
    simp only [impl_Mark_text.j0]
    exact k0 _ (by omega)
  · rw [if_neg h]
    refine EvP.succ ?_
    simp only [impl_Mark_text.j0]
    exact k0 _ (by omega)

/-- Marks whose texts are not too long. -/
def markOk (l : List S39) : Prop := (∀ m ∈ l, ∀ n ∈ m.f1, gInt n) ∧ markSum l ≤ 1048576
theorem markSum_mem : ∀ {l : List S39} {m : S39}, m ∈ l → m.f0.size + m.f1.length + 1 ≤ markSum l
  | [], _, h => by simp at h
  | x :: xs, m, h => by
    unfold markSum
    simp only [List.map_cons, List.sum_cons]
    rcases List.mem_cons.1 h with rfl | h
    · omega
    · have := markSum_mem h
      unfold markSum at this
      omega
theorem markSum_len (l : List S39) : l.length ≤ markSum l := by
  induction l with
  | nil => exact Nat.zero_le _
  | cons x xs ih =>
    unfold markSum at ih ⊢
    simp only [List.map_cons, List.sum_cons, List.length_cons]
    omega

-- markSum_text
theorem ev_impl_ShapeText (S P : List S39) (hS : markOk S) (hP : markOk P) : EvP (fun k => impl_ShapeText.f k S P) (· = shapeText S P) := by
  have lS := markSum_len S
  have lP := markSum_len P
  have hS2 := hS.2
  have hP2 := hP.2
  have two : ∀ i, i ≤ P.length → ∀ l : List ByteArray, l ++ (P.drop i).map mtext = (S.map mtext ++ [(⟨#[124]⟩ : ByteArray)]) ++ P.map mtext → EvP (fun k => impl_ShapeText.l1 k l P (P.length : Int) i) (· = shapeText S P) := by
    refine upInd ?_ ?_
    · intro l hl
      have e : l = (S.map mtext ++ [(⟨#[124]⟩ : ByteArray)]) ++ P.map mtext := by simpa using hl
      refine EvP.succ ?_
      simp only [impl_ShapeText.l1]
      have ej : strings_Join.f l (⟨#[32]⟩ : ByteArray) = some (shapeText S P) := by
        unfold shapeText
        rw [← e]
        unfold strings_Join.f
        refine if_pos ⟨?_, ?_⟩
        · have := congrArg List.length e
          simp at this
          omega
        · have e2 : (joinB l).size = (Lib.join (l.map (·.data.toList)) (⟨#[32]⟩ : ByteArray).data.toList).length := by
            unfold joinB ByteArray.size
            simp
          have h1 := joinB_size l
          have h2 := markSum_text S hS.1
          have h3 := markSum_text P hP.1
          have h4 : (⟨#[124]⟩ : ByteArray).size = 1 := rfl
          have h5 : (l.map fun t => t.size + 1).sum = ((S.map mtext).map fun t => t.size + 1).sum + 2 + ((P.map mtext).map fun t => t.size + 1).sum := by
            rw [e]
            simp only [List.map_append, List.sum_append, List.map_cons, List.map_nil, List.sum_cons, List.sum_nil, h4]
            omega
          omega
      exact EvP.neg (by omega) (EvP.call ej (EvP.ret _ rfl))
    · intro i hi ih l hl
      have hll := congrArg List.length hl
      simp only [List.length_append, List.length_map, List.length_drop, List.length_cons, List.length_nil] at hll
      rw [List.drop_eq_getElem_cons hi, List.map_cons] at hl
      refine EvP.succ ?_
      simp only [impl_ShapeText.l1]
      have e : rd_T39 P (i : Int) = P[i] := getDn hi
      have hm := markSum_mem (List.getElem_mem hi)
      rw [e, w64s hi (by omega)]
      refine EvP.pos (by omega) (EvP.pos (by omega) (EvP.pos (by omega) (EvP.bind (ev_impl_Mark_text _ (hP.1 _ (List.getElem_mem hi)) (by omega)) (fun t ht => EvP.pos (by omega) ?_))))
      subst ht
      exact ih _ (by rw [List.append_assoc]; exact hl)
  have one : ∀ i, i ≤ S.length → ∀ l : List ByteArray, l ++ (S.drop i).map mtext = S.map mtext → EvP (fun k => impl_ShapeText.l0 k l S (S.length : Int) i S P) (· = shapeText S P) := by
    refine upInd ?_ ?_
    · intro l hl
      have e : l = S.map mtext := by simpa using hl
      subst e
      refine EvP.succ ?_
      simp only [impl_ShapeText.l0]
      exact EvP.neg (by omega) (EvP.pos (by rw [List.length_map]; omega) (two 0 (by omega) _ (by rw [List.drop_zero])))
    · intro i hi ih l hl
      have hll := congrArg List.length hl
      simp only [List.length_append, List.length_map, List.length_drop] at hll
      rw [List.drop_eq_getElem_cons hi, List.map_cons] at hl
      refine EvP.succ ?_
      simp only [impl_ShapeText.l0]
      have e : rd_T39 S (i : Int) = S[i] := getDn hi
      have hm := markSum_mem (List.getElem_mem hi)
      rw [e, w64s hi (by omega)]
      refine EvP.pos (by omega) (EvP.pos (by omega) (EvP.pos (by omega) (EvP.bind (ev_impl_Mark_text _ (hS.1 _ (List.getElem_mem hi)) (by omega)) (fun t ht => EvP.pos (by omega) ?_))))
      subst ht
      exact ih _ (by rw [List.append_assoc]; exact hl)
  unfold impl_ShapeText.f
  exact one 0 (by omega) [] (by simp)

-- markSum_text
theorem ev_spec_l5Text (S : List S39) (hS : markOk S) : EvP (fun k => spec_l5Text.f k S) (· = joinT ⟨#[]⟩ (S.map mtext)) := by
  have lS := markSum_len S
  have hS2 := hS.2
  have key : ∀ i, i ≤ S.length → ∀ out : ByteArray, out.size + (((S.drop i).map mtext).map fun t => t.size + 1).sum ≤ 100000000 → EvP (fun k => spec_l5Text.l0 k S out i) (· = joinT out ((S.drop i).map mtext)) := by
    refine upInd ?_ ?_
    · intro out ho
      refine EvP.succ ?_
      simp only [spec_l5Text.l0]
      exact EvP.neg (by omega) (EvP.ret _ (by rw [List.drop_length]; rfl))
    · intro i hi ih out ho
      have hm := markSum_mem (List.getElem_mem hi)
      have hgi := hS.1 _ (List.getElem_mem hi)
      rw [List.drop_eq_getElem_cons hi, List.map_cons, List.map_cons, List.sum_cons] at ho
      have e : rd_T39 S (i : Int) = S[i] := getDn hi
      have c1 : (⟨#[46]⟩ : ByteArray).size = 1 := rfl
      have c2 : (⟨#[32]⟩ : ByteArray).size = 1 := rfl
      have inner : ∀ j, j ≤ S[i].f1.length → ∀ t : ByteArray, mTail t (S[i].f1.drop j) = mtext S[i] → EvP (fun k => spec_l5Text.l1 k S out i t j) (· = joinT out ((S.drop i).map mtext)) := by
        refine upInd ?_ ?_
        · intro t ht
          have e2 : t = mtext S[i] := by rw [List.drop_length] at ht; exact ht
          subst e2
          refine EvP.succ ?_
          simp only [spec_l5Text.l1]
          rw [e, w64s hi (by omega), List.drop_eq_getElem_cons hi, List.map_cons, joinT]
          refine EvP.pos (by omega) (EvP.pos (by omega) (EvP.neg (by omega) (EvP.pos (by omega) (EvP.pos ?_ (ih _ ?_)))))
          · rw [ByteArray.size_append]; omega
          · rw [ByteArray.size_append, ByteArray.size_append]; omega
        · intro j hj ih2 t ht
          have hgj := hgi _ (List.getElem_mem hj)
          have h1 := mTail_size (S[i].f1.drop j) t (fun n hn => hgi n (List.mem_of_mem_drop hn))
          rw [List.drop_eq_getElem_cons hj, mTail] at ht
          have h2 := mTail_size (S[i].f1.drop (j + 1)) (t ++ ((⟨#[46]⟩ : ByteArray) ++ dec S[i].f1[j])) (fun n hn => hgi n (List.mem_of_mem_drop hn))
          rw [ht, ByteArray.size_append, ByteArray.size_append] at h2
          have e3 : rd S[i].f1 (j : Int) = S[i].f1[j] := getDn hj
          refine EvP.succ ?_
          simp only [spec_l5Text.l1]
          rw [e, e3, w64s hj (by omega)]
          refine EvP.pos (by omega) (EvP.pos (by omega) (EvP.pos (by omega) (EvP.pos (by omega) (EvP.pos (by omega) (EvP.bind (ev_dec64 hgj) (fun r hr => ?_))))))
          subst hr
          refine EvP.pos ?_ (ih2 _ ?_)
          · rw [ByteArray.size_append]; omega
          · rw [ByteArray.append_assoc]; exact ht
      refine EvP.succ ?_
      simp only [spec_l5Text.l0]
      rw [e]
      refine EvP.pos (by omega) (EvP.pos (by omega) (EvP.ite (fun h => ?_) (fun h => ?_)))
      · refine EvP.succ ?_
        simp only [spec_l5Text.j1]
        exact inner 0 (by omega) _ (by unfold mtext mHead; rw [if_pos h]; rfl)
      · refine EvP.succ ?_
        simp only [spec_l5Text.j1]
        exact inner 0 (by omega) _ (by unfold mtext mHead; rw [if_neg h]; rfl)
  unfold spec_l5Text.f
  have h0 : (⟨#[]⟩ : ByteArray).size = 0 := rfl
  have h1 := markSum_text S hS.1
  have := key 0 (by omega) ⟨#[]⟩ (by rw [List.drop_zero]; omega)
  rwa [List.drop_zero] at this

-- shape_join markSum_text
theorem ev_spec_ShapeText (S P : List S39) (hS : markOk S) (hP : markOk P) : EvP (fun k => spec_ShapeText.f k S P) (· = shapeText S P) := by
  have hS2 := hS.2
  have hP2 := hP.2
  have h1 := markSum_text S hS.1
  have h2 := markSum_text P hP.1
  have h0 : (⟨#[]⟩ : ByteArray).size = 0 := rfl
  have h3 : (⟨#[32, 124]⟩ : ByteArray).size = 2 := rfl
  have h4 : (⟨#[32]⟩ : ByteArray).size = 1 := rfl
  have s1 := joinT_size (S.map mtext) ⟨#[]⟩
  have s2 := joinT_size (P.map mtext) ⟨#[]⟩
  unfold spec_ShapeText.f
  refine EvP.bind (ev_spec_l5Text S hS) (fun t ht => EvP.pos (by rw [ht]; omega) (EvP.bind (ev_spec_l5Text P hP) (fun u hu => ?_)))
  subst ht
  subst hu
  refine EvP.pos (by rw [ByteArray.size_append]; omega) ?_
  rw [shape_join]
  refine EvP.pos (by rw [ByteArray.size_append]; omega) (EvP.ret _ (ext_tail _))

-- markOk
theorem markOk_c {l : List S44} (h : wl wMark l ≤ 1048576) (g : gL gMark l) : markOk (l.map cMark) := by
  refine ⟨fun m hm n hn => ?_, Nat.le_trans (markSum_c l) h⟩
  obtain ⟨y, hy, rfl⟩ := List.mem_map.1 hm
  exact (g.2 y hy).2.2 n hn

theorem FnExactShapeText (l0 l1 : List S44) (g : gL gMark l0 ∧ gL gMark l1) : ∃ k, laws_FnExactShapeText.f k l0 l1 = some true := by
  refine EvP.rounds ?_
  unfold laws_FnExactShapeText.f
  refine EvP.bind (ev_laws_szShape l0 l1 g.1 g.2 1048576 (by omega) (by omega)) (fun t ht => EvP.ite (fun _ => EvP.ret _ rfl) (fun hc => ?_))
  have ht := ht (by omega)
  have w0 : wl wMark l0 ≤ 1048576 := by omega
  have w1 : wl wMark l1 ≤ 1048576 := by omega
  have m0 := markOk_c w0 g.1
  have m1 := markOk_c w1 g.2
  refine EvP.bind (ev_laws_toShape l0 l1 w0 w1) (fun t1 h1 => ?_)
  subst h1
  refine EvP.bind (ev_spec_ShapeText _ _ m0 m1) (fun t2 h2 => ?_)
  subst h2
  refine EvP.bind (ev_laws_toShape l0 l1 w0 w1) (fun t3 h3 => ?_)
  subst h3
  refine EvP.bind (ev_impl_ShapeText _ _ m0 m1) (fun t4 h4 => EvP.pos (by rw [h4]) ?_)
  refine EvP.bind (ev_laws_toShape l0 l1 w0 w1) (fun t5 h5 => ?_)
  subst h5
  refine EvP.bind (ev_laws_eqShape _ _ (qMark_c w0) (qMark_c w1)) (fun t6 h6 => ?_)
  subst h6
  exact EvP.pos (by trivial) (EvP.ret _ rfl)


end Go.Proofs.YtpfpfnjmhdgglaaDoor.Pure
