/- For every code: the program and the reference read the same instruction from the text that is drawn from it, and what is read has the text. -/
import Derived.Test.YtfkhjnmgaadomaaDoorOFnInsReadx1
import Derived.Test.YtfkhjnmgaadomaaDoorOFnInsReadx2
import Derived.Test.YtfkhjnmgaadomaaDoorOFnInsReadx3
import Derived.Test.YtfkhjnmgaadomaaDoorOFnInsReadx4
import Derived.Test.YtfkhjnmgaadomaaDoorOFnInsReadx5
import Derived.Test.YtfkhjnmgaadomaaDoorOFnInsReadx6
import Derived.Test.YtfkhjnmgaadomaaDoorOFnInsReadx7
import Derived.Test.YtfkhjnmgaadomaaDoorBase
namespace Go.Proofs.YtfkhjnmgaadomaaDoor.Pure
open Go.RowKit Go.Proofs.YtfkhjnmgaadomaaDoor.OFnInsRead Go.Proofs.YtfkhjnmgaadomaaDoorW.PrintWords Go.Proofs.YtfkhjnmgaadomaaDoorW.PrintLast Go.Proofs.YtfkhjnmgaadomaaDoorW.PrintMore Go.Proofs.YtfkhjnmgaadomaaDoor.Base
set_option linter.unusedVariables false
set_option linter.unusedSimpArgs false

theorem list_size (s : ByteArray) : s.toList.length = s.size := by
  rw [ByteArray.toList_eq, Array.length_toList]
  rfl

/-- The bytes that a reader draws from. -/
def gBy (s : List Int) : Prop := s.length ≤ 2000 ∧ ∀ x ∈ s, 0 ≤ x ∧ x ≤ 255

theorem rd_by {s : List Int} (h : gBy s) (i : Int) : 0 ≤ rd s i ∧ rd s i ≤ 255 := by
  unfold rd
  rw [List.getD_eq_getElem?_getD]
  cases e : s[i.toNat]? with
  | none => simp
  | some v => simpa using h.2 v (List.mem_of_getElem? e)

theorem xor_pos {x y : Int} (hx : 0 ≤ x) (hx2 : x < 4611686018427387904) (hy : 0 ≤ y) (hy2 : y < 4611686018427387904) : 0 ≤ Go.bits .xor .i64 x y := by
  have hw : ∀ n : Nat, n < 4611686018427387904 → 0 ≤ IntKind.wrap .i64 (n : Int) := by
    intro n hn
    have e : IntKind.wrap .i64 (n : Int) = wrap64 (n : Int) := i64_w _
    rw [e, w64 (by omega) (by omega)]
    omega
  unfold Go.bits
  refine hw _ ?_
  show ((BitVec.ofInt 64 x) ^^^ (BitVec.ofInt 64 y)).toNat < 4611686018427387904
  rw [BitVec.toNat_xor]
  have h1 : (BitVec.ofInt 64 x).toNat < 2 ^ 62 := by
    rw [BitVec.toNat_ofInt]
    omega
  have h2 : (BitVec.ofInt 64 y).toNat < 2 ^ 62 := by
    rw [BitVec.toNat_ofInt]
    omega
  exact Nat.xor_lt_two_pow h1 h2

theorem tmod_in {x n : Int} (hx : 0 ≤ x) (hn : 1 ≤ n) : 0 ≤ Int.tmod x n ∧ Int.tmod x n < n := ⟨Int.tmod_nonneg _ hx, Int.tmod_lt_of_pos _ (by omega)⟩

theorem ev_pick (s : List Int) (hs : gBy s) (p n : Int) (hp : 0 ≤ p) (hp2 : p ≤ 1000000) (hn : 1 ≤ n) (hn2 : n ≤ 1000000) : EvP (fun k => spec_l6Rd_pick.f k s p n) (fun r => 0 ≤ r.1 ∧ r.1 < n ∧ r.2 = p + 1) := by
  unfold spec_l6Rd_pick.f
  have w1 : wrap64 (p + 1) = p + 1 := w64 (by omega) (by omega)
  rw [w1]
  refine EvP.neg (by omega) (EvP.succ ?_)
  simp only [spec_l6Rd_pick.j0]
  have w2 : wrap64 (p + 1 - 1) = p := by rw [w64 (by omega) (by omega)]; omega
  rw [w2]
  refine EvP.ite (fun h => EvP.ret _ ⟨by omega, by show (0 : Int) < n; omega, rfl⟩) (fun h => ?_)
  have hl : (s.length : Int) ≠ 0 := by simpa using h
  have hl1 : 1 ≤ (s.length : Int) := by omega
  have hl2 : (s.length : Int) ≤ 2000 := by have := hs.1; omega
  refine EvP.ite (fun h1 => EvP.pos hp (EvP.neg (by omega) (EvP.ret _ ?_))) (fun h1 => ?_)
  · obtain ⟨h2, h3⟩ := rd_by hs p
    rw [w64 (n := rd s p) (by omega) (by omega)]
    exact ⟨(tmod_in h2 hn).1, (tmod_in h2 hn).2, rfl⟩
  · have w3 : wrap64 (p * 7) = p * 7 := w64 (by omega) (by omega)
    have w4 : wrap64 (p * 7 + 3) = p * 7 + 3 := w64 (by omega) (by omega)
    simp only [w3, w4]
    refine EvP.neg hl (EvP.pos (tmod_in hp hl1).1 (EvP.pos (tmod_in hp hl1).2 (EvP.pos (tmod_in (by omega) hl1).1 (EvP.pos (tmod_in (by omega) hl1).2 (EvP.neg (by omega) (EvP.ret _ ?_))))))
    refine ⟨?_, ?_, rfl⟩
    all_goals
      obtain ⟨a0, a1⟩ := rd_by hs (Int.tmod p (s.length : Int))
      obtain ⟨b0, b1⟩ := rd_by hs (Int.tmod (p * 7 + 3) (s.length : Int))
      generalize rd s (Int.tmod p (s.length : Int)) = a at a0 a1
      generalize rd s (Int.tmod (p * 7 + 3) (s.length : Int)) = b at b0 b1
      have q0 : 0 ≤ Int.tdiv p (s.length : Int) := Int.tdiv_nonneg hp (by omega)
      have q1 : Int.tdiv p (s.length : Int) ≤ p := Int.tdiv_le_self _ hp
      generalize Int.tdiv p (s.length : Int) = q at q0 q1
      have e1 : wrap64 a = a := w64 (by omega) (by omega)
      have e2 : wrap64 (a * 131) = a * 131 := w64 (by omega) (by omega)
      have e3 : wrap64 b = b := w64 (by omega) (by omega)
      have e4 : wrap64 (b * 1117) = b * 1117 := w64 (by omega) (by omega)
      have e5 : wrap64 (a * 131 + b * 1117) = a * 131 + b * 1117 := w64 (by omega) (by omega)
      have e6 : wrap64 (p * 29) = p * 29 := w64 (by omega) (by omega)
      have e7 : wrap64 (a * 131 + b * 1117 + p * 29) = a * 131 + b * 1117 + p * 29 := w64 (by omega) (by omega)
      have e8 : wrap64 q = q := w64 (by omega) (by omega)
      have e9 : wrap64 (q * 53) = q * 53 := w64 (by omega) (by omega)
      have e10 : wrap64 (a * 131 + b * 1117 + p * 29 + q * 53) = a * 131 + b * 1117 + p * 29 + q * 53 := w64 (by omega) (by omega)
      simp only [e1, e2, e3, e4, e5, e6, e7, e8, e9, e10]
      have x0 : 0 ≤ a * 131 + b * 1117 + p * 29 + q * 53 := by omega
      have x1 : a * 131 + b * 1117 + p * 29 + q * 53 ≤ 1000000000 := by omega
      generalize a * 131 + b * 1117 + p * 29 + q * 53 = X at x0 x1
      have y0 : 0 ≤ Int.tdiv X 64 := Int.tdiv_nonneg x0 (by omega)
      have y1 : Int.tdiv X 64 ≤ X := Int.tdiv_le_self _ x0
      generalize Int.tdiv X 64 = Y at y0 y1
      have e11 : wrap64 Y = Y := w64 (by omega) (by omega)
      rw [e11]
      have z := xor_pos (x := X) (y := Y) x0 (by omega) y0 (by omega)
    · exact (tmod_in z hn).1
    · exact (tmod_in z hn).2

theorem ev_of (s : List Int) (hs : gBy s) (p : Int) (l : List ByteArray) (hp : 0 ≤ p) (hp2 : p ≤ 1000000) (hn : 1 ≤ l.length) (hn2 : l.length ≤ 1000000) : EvP (fun k => spec_l6Rd_of.f k s p l) (fun r => r.1 ∈ l ∧ r.2 = p + 1) := by
  unfold spec_l6Rd_of.f
  refine EvP.bind (ev_pick s hs p l.length hp hp2 (by omega) (by omega)) (fun r hr => ?_)
  refine EvP.pos hr.1 (EvP.pos hr.2.1 (EvP.ret _ ⟨?_, hr.2.2⟩))
  show l.getD r.1.toNat _ ∈ l
  have h : r.1.toNat < l.length := by omega
  rw [List.getD_eq_getElem?_getD, List.getElem?_eq_getElem h]
  exact List.getElem_mem h

/-- A law's code, as its reading grants it. -/
def gCode (l : List Int) : Prop := ∀ x ∈ l, 0 ≤ x ∧ x ≤ 255

theorem gCode_wf {l : List Int} (h : ∀ x ∈ l, (Lit.int .u8 x).wf = true) : gCode l := by
  intro x hx
  have := h x hx
  simp [Lit.wf] at this
  have h1 : IntKind.u8.min = 0 := by decide
  have h2 : IntKind.u8.max = 255 := by decide
  omega

theorem eq_open (l : List Int) (h : gCode l) : ∃ s, spec_l6Open.f l = some (s, 0) ∧ gBy s := by
  unfold spec_l6Open.f
  by_cases hc : (l.length : Int) > 2000
  · rw [if_pos hc, if_pos (by omega)]
    exact ⟨_, rfl, by simp; omega, fun x hx => h x (List.mem_of_mem_take hx)⟩
  · rw [if_neg hc]
    exact ⟨l, rfl, by omega, h⟩

theorem bytes_ext {a b : ByteArray} (h : a.toList = b.toList) : a = b := by
  rw [ByteArray.toList_eq, ByteArray.toList_eq] at h
  exact ByteArray.ext (Array.toList_inj.1 h)

theorem bt_of {s : ByteArray} {i : Nat} {x : UInt8} (h : s.data[i]? = some x) : bt s (i : Int) = (x.toNat : Int) := by
  have h1 : i < s.size := by
    have := (Array.getElem?_eq_some_iff.1 h).1
    simpa using this
  have h2 : s[i] = x := by
    have := (Array.getElem?_eq_some_iff.1 h).2
    simpa [ByteArray.getElem_eq_getElem_data] using this
  unfold bt
  have e : ((i : Int)).toNat = i := Int.toNat_natCast i
  rw [dif_pos (by rw [e]; exact h1)]
  simp only [e, h2]

abbrev Tri := ByteArray × Int × Int

/-- The row of a word in a table. -/
def look (w : ByteArray) : List Tri → ByteArray × Int × Int × Bool
  | [] => (⟨#[]⟩, 0, 0, false)
  | x :: xs => if x.1.toList = w.toList then (x.1, x.2.1, x.2.2, true) else look w xs

def triF (x : S46) : Tri := (x.f0, x.f1, x.f2)

def triI (x : S26) : Tri := (x.f0, x.f1, x.f2)

/-- The table of the instructions. -/
def insTab : List Tri := match spec_l3Table.f with | some t => t.map triI | none => []

theorem insTab_ok : insTab.all (fun x => decide (0 ≤ x.2.1 ∧ x.2.1 ≤ 1000001 ∧ 0 ≤ x.2.2 ∧ x.2.2 ≤ 1000001)) = true := by decide +kernel

theorem look_in (w : ByteArray) : ∀ T : List Tri, T.all (fun x => decide (0 ≤ x.2.1 ∧ x.2.1 ≤ 1000001 ∧ 0 ≤ x.2.2 ∧ x.2.2 ≤ 1000001)) = true → 0 ≤ (look w T).2.1 ∧ (look w T).2.1 ≤ 1000001 ∧ 0 ≤ (look w T).2.2.1 ∧ (look w T).2.2.1 ≤ 1000001
  | [], _ => by unfold look; simp
  | x :: xs, h => by
    rw [List.all_cons, Bool.and_eq_true] at h
    unfold look
    split
    · exact of_decide_eq_true h.1
    · exact look_in w xs h.2

def insForms : List S46 := insTab.map fun x => ⟨x.1, x.2.1, x.2.2⟩

theorem forms_eq (k : Nat) : impl_insForms.f (k + 60) = some insForms := by kernel_rfl

theorem ev_impl_insForms : EvP (fun k => impl_insForms.f k) (· = insForms) := ⟨insForms, ⟨60, fun k hk => by
  obtain ⟨d, rfl⟩ := Nat.exists_eq_add_of_le' hk
  exact forms_eq d⟩, rfl⟩

theorem ev_impl_formOf (w : ByteArray) : EvP (fun k => impl_formOf.f k w) (· = look w insTab) := by
  have loop : ∀ xs : List S46, xs.length ≤ 1000 → EvP (fun k => impl_formOf.l0 k w xs (xs.length : Int) 0) (· = look w (xs.map triF)) := by
    intro xs hl
    have key : ∀ i, i ≤ xs.length → EvP (fun k => impl_formOf.l0 k w xs (xs.length : Int) i) (· = look w ((xs.drop i).map triF)) := by
      refine upInd ?_ ?_
      · refine EvP.succ ?_
        simp only [impl_formOf.l0]
        exact EvP.neg (by omega) (EvP.ret _ (by rw [List.drop_length]; rfl))
      · intro i hi ih
        refine EvP.succ ?_
        simp only [impl_formOf.l0]
        have e : rd_T46 xs (i : Int) = xs[i] := getDn hi
        rw [e, w64s hi (by omega), List.drop_eq_getElem_cons hi, List.map_cons, look]
        refine EvP.pos (by omega) (EvP.pos (by omega) (EvP.pos (by omega) (EvP.ite (fun h => EvP.ret _ ?_) (fun h => ih.mono (fun r hr => ?_)))))
        · exact (if_pos h).symm
        · rw [hr]
          exact (if_neg h).symm
    exact (key 0 (by omega)).mono (fun r hr => by rw [hr, List.drop_zero])
  unfold impl_formOf.f
  refine EvP.bind ev_impl_insForms (fun t ht => ?_)
  subst ht
  have hl : insForms.length ≤ 1000 := by decide +kernel
  have e : insForms.map triF = insTab := by
    unfold insForms
    rw [List.map_map]
    exact List.map_id _
  rw [← e]
  exact loop insForms hl

theorem ev_spec_l3Needs (w : ByteArray) : EvP (fun k => spec_l3Needs.f k w) (· = look w insTab) := by
  have loop : ∀ xs : List S26, xs.length ≤ 1000 → EvP (fun k => spec_l3Needs.l0 k w xs 0) (· = look w (xs.map triI)) := by
    intro xs hl
    have key : ∀ i, i ≤ xs.length → EvP (fun k => spec_l3Needs.l0 k w xs i) (· = look w ((xs.drop i).map triI)) := by
      refine upInd ?_ ?_
      · refine EvP.succ ?_
        simp only [spec_l3Needs.l0]
        exact EvP.neg (by omega) (EvP.ret _ (by rw [List.drop_length]; rfl))
      · intro i hi ih
        refine EvP.succ ?_
        simp only [spec_l3Needs.l0]
        have e : rd_T26 xs (i : Int) = xs[i] := getDn hi
        rw [e, w64s hi (by omega), List.drop_eq_getElem_cons hi, List.map_cons, look]
        refine EvP.pos (by omega) (EvP.pos (by omega) (EvP.ite (fun h => EvP.ret _ ?_) (fun h => ih.mono (fun r hr => ?_))))
        · exact (if_pos h).symm
        · rw [hr]
          exact (if_neg h).symm
    exact (key 0 (by omega)).mono (fun r hr => by rw [hr, List.drop_zero])
  unfold spec_l3Needs.f
  have ht : ∃ T, spec_l3Table.f = some T ∧ T.length ≤ 1000 := ⟨_, rfl, by decide +kernel⟩
  obtain ⟨T, ht, hl⟩ := ht
  have hi : insTab = T.map triI := by unfold insTab; rw [ht]
  rw [hi]
  exact EvP.call ht (loop T hl)

/-- A number is below a limit, or 0 if there is none. -/
def lim (l n : Int) : Bool := decide (n = 0 ∨ (0 < n ∧ n < l))

def insOk (w : ByteArray) (a b : Int) : Bool := (look w insTab).2.2.2 && (lim (look w insTab).2.1 a && lim (look w insTab).2.2.1 b)

theorem eq_impl_limitOk (l n : Int) : impl_limitOk.f l n = some (lim l n) := by
  unfold impl_limitOk.f lim
  by_cases h : n = 0
  · rw [if_pos h, decide_eq_true (.inl h)]
  · rw [if_neg h]
    by_cases h2 : n > 0
    · rw [if_pos h2]
      congr 1
      rw [decide_eq_decide]
      omega
    · rw [if_neg h2, decide_eq_false (by omega)]

theorem eq_spec_l3Fits (n l : Int) (h0 : 0 ≤ l) (h1 : l ≤ 1000001) : spec_l3Fits.f n l = some (lim l n) := by
  unfold spec_l3Fits.f lim spec_l6In.f
  by_cases h : l = 0
  · rw [if_pos h]
    congr 1
    rw [Bool.eq_iff_iff, beq_iff_eq, decide_eq_true_iff]
    omega
  · rw [if_neg h, w64 (by omega) (by omega)]
    by_cases h2 : n ≥ 0
    · rw [if_pos h2]
      simp only [Option.bind_some]
      congr 1
      rw [decide_eq_decide]
      omega
    · rw [if_neg h2, decide_eq_false (by omega)]
      rfl

theorem ev_impl_InsOk (w : ByteArray) (a b : Int) : EvP (fun k => impl_InsOk.f k w a b) (· = insOk w a b) := by
  unfold impl_InsOk.f insOk
  refine EvP.bind (ev_impl_formOf w) (fun t ht => ?_)
  subst ht
  refine EvP.ite (fun h => EvP.call (eq_impl_limitOk _ _) (EvP.ite (fun h2 => EvP.call (eq_impl_limitOk _ _) (EvP.ret _ ?_)) (fun h2 => EvP.ret _ ?_))) (fun h => EvP.ret _ ?_)
  · rw [h, h2, Bool.true_and, Bool.true_and]
  · rw [Bool.not_eq_true] at h2
    rw [h, h2, Bool.true_and, Bool.false_and]
  · rw [Bool.not_eq_true] at h
    rw [h, Bool.false_and]

theorem ev_spec_InsOk (w : ByteArray) (a b : Int) : EvP (fun k => spec_InsOk.f k w a b) (· = insOk w a b) := by
  unfold spec_InsOk.f insOk
  obtain ⟨r0, r1, r2, r3⟩ := look_in w insTab insTab_ok
  refine EvP.bind (ev_spec_l3Needs w) (fun t ht => ?_)
  subst ht
  refine EvP.ite (fun h => EvP.call (eq_spec_l3Fits _ _ r0 r1) (EvP.ite (fun h2 => EvP.call (eq_spec_l3Fits _ _ r2 r3) (EvP.ret _ ?_)) (fun h2 => EvP.ret _ ?_))) (fun h => EvP.ret _ ?_)
  · rw [h, h2, Bool.true_and, Bool.true_and]
  · rw [Bool.not_eq_true] at h2
    rw [h, h2, Bool.true_and, Bool.false_and]
  · rw [Bool.not_eq_true] at h
    rw [h, Bool.false_and]

/-- A number's text. -/
def dec (n : Int) : ByteArray := ⟨(Lib.itoa n).toArray⟩

theorem dec_small {n : Nat} (h : n < 10) : dec (n : Int) = strOfNums [(wrap64 (48 + (n : Int))) % 256] := by
  unfold dec Lib.itoa
  rw [if_neg (by omega), Int.toNat_natCast, Lib.decDigits, dif_pos h]
  have h2 : n = 0 ∨ n = 1 ∨ n = 2 ∨ n = 3 ∨ n = 4 ∨ n = 5 ∨ n = 6 ∨ n = 7 ∨ n = 8 ∨ n = 9 := by omega
  rcases h2 with e | e | e | e | e | e | e | e | e | e <;> subst e <;> simp [strOfNums, wrap64]

theorem dec_step {n : Nat} (h : ¬ n < 10) : dec (n : Int) = dec ((n / 10 : Nat) : Int) ++ dec ((n % 10 : Nat) : Int) := by
  have h1 : Lib.decDigits (n % 10) = [UInt8.ofNat (48 + n % 10)] := by rw [Lib.decDigits, dif_pos (by omega)]
  unfold dec Lib.itoa
  rw [if_neg (by omega), if_neg (by omega), if_neg (by omega), Int.toNat_natCast, Int.toNat_natCast, Int.toNat_natCast, h1, Lib.decDigits, dif_neg h]
  apply ByteArray.ext
  simp

theorem dec_size : ∀ n : Nat, (dec (n : Int)).size ≤ n + 1 := by
  intro n
  induction n using Nat.strongRecOn with
  | _ n ih =>
    by_cases h : n < 10
    · rw [dec_small h]
      have : (strOfNums [(wrap64 (48 + (n : Int))) % 256]).size = 1 := rfl
      omega
    · rw [dec_step h, ByteArray.size_append]
      have h1 := ih (n / 10) (by omega)
      have h2 : (dec ((n % 10 : Nat) : Int)).size = 1 := by rw [dec_small (by omega)]; rfl
      omega

theorem ev_dec_all : ∀ n : Nat, n ≤ 1000001 → EvP (fun k => spec_l6Dec.f k (n : Int)) (· = dec (n : Int)) := by
  intro n
  induction n using Nat.strongRecOn with
  | _ n ih =>
    intro hn
    refine EvP.succ ?_
    simp only [spec_l6Dec.f]
    refine EvP.neg (by omega) (EvP.neg (by omega) (EvP.ite (fun h => EvP.ret _ (dec_small (by omega)).symm) (fun h => ?_)))
    have e1 : wrap64 (Int.tdiv (n : Int) 10) = ((n / 10 : Nat) : Int) := by
      have : Int.tdiv (n : Int) 10 = ((n / 10 : Nat) : Int) := rfl
      rw [this, w64 (by omega) (by omega)]
    have e2 : Int.tmod (n : Int) 10 = ((n % 10 : Nat) : Int) := rfl
    rw [e1, e2]
    refine EvP.bind (ih (n / 10) (by omega) (by omega)) (fun t ht => ?_)
    simp only [Option.bind_some]
    have hs := dec_size (n / 10)
    have h1 : (strOfNums [(wrap64 (48 + ((n % 10 : Nat) : Int))) % 256]).size = 1 := rfl
    refine EvP.pos (by rw [ht]; omega) (EvP.ret _ ?_)
    rw [ht, ← dec_small (by omega : n % 10 < 10), ← dec_step (by omega)]

/-- An instruction's text. -/
def insText (w : ByteArray) (a b : Int) : ByteArray :=
  if insOk w a b = true then (if (look w insTab).2.1 = 0 then w else if (look w insTab).2.2.1 = 0 then w ++ ((⟨#[32]⟩ : ByteArray) ++ dec a) else (w ++ ((⟨#[32]⟩ : ByteArray) ++ dec a)) ++ ((⟨#[32]⟩ : ByteArray) ++ dec b)) else ⟨#[]⟩

theorem lim_num {l n : Int} (h : lim l n = true) (h1 : l ≤ 1000001) (h0 : 0 ≤ l) : 0 ≤ n ∧ n ≤ 1000001 := by
  have := of_decide_eq_true h
  omega
theorem ins_num {w : ByteArray} {a b : Int} (h : insOk w a b = true) : (0 ≤ a ∧ a ≤ 1000001) ∧ 0 ≤ b ∧ b ≤ 1000001 := by
  obtain ⟨r0, r1, r2, r3⟩ := look_in w insTab insTab_ok
  unfold insOk at h
  rw [Bool.and_eq_true, Bool.and_eq_true] at h
  exact ⟨lim_num h.2.1 r1 r0, lim_num h.2.2 r3 r2⟩

theorem look_two_of (w : ByteArray) : ∀ T : List Tri, T.all (fun x => decide (x.2.1 = 0 → x.2.2 = 0)) = true → (look w T).2.1 = 0 → (look w T).2.2.1 = 0
  | [], _, _ => rfl
  | x :: xs, h, h0 => by
    rw [List.all_cons, Bool.and_eq_true] at h
    unfold look at h0 ⊢
    split
    · rename_i hc
      rw [if_pos hc] at h0
      exact of_decide_eq_true h.1 h0
    · rename_i hc
      rw [if_neg hc] at h0
      exact look_two_of w xs h.2 h0
theorem look_two (w : ByteArray) : (look w insTab).2.1 = 0 → (look w insTab).2.2.1 = 0 := look_two_of w insTab (by decide +kernel)

theorem eq_itoa {a : Int} (h0 : 0 ≤ a) (h1 : a ≤ 1000001) : strconv_Itoa.f a = some (dec a) := by
  unfold strconv_Itoa.f
  rw [if_pos (by omega)]
  rfl

theorem ev_impl_InsText (w : ByteArray) (hw : w.size ≤ 2000000) (a b : Int) : EvP (fun k => impl_InsText.f k w a b) (· = insText w a b) := by
  unfold impl_InsText.f insText
  refine EvP.bind (ev_impl_InsOk w a b) (fun t ht => ?_)
  subst ht
  refine EvP.ite (fun h => ?_) (fun h => EvP.ret _ (by rw [if_neg h]))
  rw [if_pos h]
  obtain ⟨⟨a0, a1⟩, b0, b1⟩ := ins_num h
  obtain ⟨r0, r1, r2, r3⟩ := look_in w insTab insTab_ok
  have sa := dec_size a.toNat
  have sb := dec_size b.toNat
  have ea : ((a.toNat : Nat) : Int) = a := by omega
  have eb : ((b.toNat : Nat) : Int) = b := by omega
  rw [ea] at sa
  rw [eb] at sb
  have s1 : ((⟨#[32]⟩ : ByteArray) ++ dec a).size = 1 + (dec a).size := by rw [ByteArray.size_append]; rfl
  have s2 : ((⟨#[32]⟩ : ByteArray) ++ dec b).size = 1 + (dec b).size := by rw [ByteArray.size_append]; rfl
  have ht : EvP (fun k => impl_insText.f k w a b) (· = (if (look w insTab).2.1 = 0 then w else if (look w insTab).2.2.1 = 0 then w ++ ((⟨#[32]⟩ : ByteArray) ++ dec a) else (w ++ ((⟨#[32]⟩ : ByteArray) ++ dec a)) ++ ((⟨#[32]⟩ : ByteArray) ++ dec b))) := by
    unfold impl_insText.f
    refine EvP.bind (ev_impl_formOf w) (fun t ht => ?_)
    subst ht
    have many : impl_insForm_many.f (look w insTab).1 (look w insTab).2.1 (look w insTab).2.2.1 = some (if (look w insTab).2.1 = 0 then 0 else if (look w insTab).2.2.1 = 0 then 1 else 2) := by
      unfold impl_insForm_many.f
      by_cases h1 : (look w insTab).2.1 = 0
      · rw [if_pos h1, if_pos h1]
      · rw [if_neg h1, if_neg h1]
        by_cases h2 : (look w insTab).2.2.1 = 0
        · rw [if_pos h2, if_pos h2]
        · rw [if_neg h2, if_neg h2]
    refine EvP.call many ?_
    by_cases h1 : (look w insTab).2.1 = 0
    · rw [if_pos h1, if_pos h1]
      refine EvP.neg (by omega) (EvP.succ ?_)
      simp only [impl_insText.j0]
      refine EvP.call many ?_
      rw [if_pos h1]
      exact EvP.neg (by omega) (EvP.ret _ rfl)
    · rw [if_neg h1, if_neg h1]
      refine EvP.pos (by split <;> omega) (EvP.call (eq_itoa a0 a1) (EvP.pos (by omega) (EvP.pos (by omega) (EvP.succ ?_))))
      simp only [impl_insText.j0]
      refine EvP.call many ?_
      rw [if_neg h1]
      by_cases h2 : (look w insTab).2.2.1 = 0
      · rw [if_pos h2, if_pos h2]
        exact EvP.neg (by omega) (EvP.ret _ rfl)
      · rw [if_neg h2, if_neg h2]
        have s3 : (w ++ ((⟨#[32]⟩ : ByteArray) ++ dec a)).size = w.size + (1 + (dec a).size) := by rw [ByteArray.size_append, s1]
        exact EvP.pos (by omega) (EvP.call (eq_itoa b0 b1) (EvP.pos (by omega) (EvP.pos (by omega) (EvP.ret _ rfl))))
  exact EvP.bind ht (fun t hq => EvP.ret _ hq)

theorem ev_spec_InsText (w : ByteArray) (hw : w.size ≤ 2000000) (a b : Int) : EvP (fun k => spec_InsText.f k w a b) (· = insText w a b) := by
  unfold spec_InsText.f insText
  refine EvP.bind (ev_spec_InsOk w a b) (fun t ht => ?_)
  subst ht
  refine EvP.ite (fun h => ?_) (fun h => EvP.ret _ (by rw [if_neg h]))
  rw [if_pos h]
  obtain ⟨⟨a0, a1⟩, b0, b1⟩ := ins_num h
  obtain ⟨r0, r1, r2, r3⟩ := look_in w insTab insTab_ok
  have sa := dec_size a.toNat
  have sb := dec_size b.toNat
  have da := ev_dec_all a.toNat (by omega)
  have db := ev_dec_all b.toNat (by omega)
  have ea : ((a.toNat : Nat) : Int) = a := by omega
  have eb : ((b.toNat : Nat) : Int) = b := by omega
  rw [ea] at sa da
  rw [eb] at sb db
  have s0 : (w ++ (⟨#[32]⟩ : ByteArray)).size = w.size + 1 := by rw [ByteArray.size_append]; rfl
  refine EvP.bind (ev_spec_l3Needs w) (fun t ht => ?_)
  subst ht
  refine EvP.ite (fun h1 => ?_) (fun h1 => ?_)
  · rw [if_neg (by omega)]
    refine EvP.pos (by omega) (EvP.bind da (fun t ht => ?_))
    subst ht
    have s1 : ((w ++ (⟨#[32]⟩ : ByteArray)) ++ dec a).size = w.size + 1 + (dec a).size := by rw [ByteArray.size_append, s0]
    refine EvP.pos (by omega) (EvP.ite (fun h2 => ?_) (fun h2 => EvP.ret _ ?_))
    · rw [if_neg (by omega)]
      refine EvP.pos (by omega) (EvP.bind db (fun t ht => ?_))
      subst ht
      have s2 : (((w ++ (⟨#[32]⟩ : ByteArray)) ++ dec a) ++ (⟨#[32]⟩ : ByteArray)).size = w.size + 1 + (dec a).size + 1 := by rw [ByteArray.size_append, s1]; rfl
      refine EvP.pos (by omega) (EvP.ret _ ?_)
      simp only [ByteArray.append_assoc]
    · rw [if_pos (by omega)]
      simp only [ByteArray.append_assoc]
  · have h3 : (look w insTab).2.1 = 0 := by omega
    have h4 := look_two w h3
    rw [if_pos h3]
    exact EvP.neg (by omega) (EvP.ret _ rfl)

theorem ev_l91Ins (s : List Int) (hs : gBy s) (p : Int) (hp : 0 ≤ p) (hp2 : p ≤ 900000) : EvP (fun k => spec_l91Ins.f k s p) (fun r => r.1.size ≤ 20 ∧ p ≤ r.2.2.2 ∧ r.2.2.2 ≤ p + 3) := by
  have ht : ∃ T, spec_l3Table.f = some T ∧ T.length = 37 ∧ T.all (fun x => decide (x.f0.size ≤ 20 ∧ 0 ≤ x.f1 ∧ x.f1 ≤ 1000001 ∧ 0 ≤ x.f2 ∧ x.f2 ≤ 1000)) = true := ⟨_, rfl, by decide +kernel, by decide +kernel⟩
  obtain ⟨T, ht, hl, ha⟩ := ht
  unfold spec_l91Ins.f
  refine EvP.call ht (EvP.bind (ev_pick s hs p T.length hp (by omega) (by omega) (by omega)) (fun r hr => ?_))
  refine EvP.pos hr.1 (EvP.pos hr.2.1 ?_)
  have hi : r.1.toNat < T.length := by omega
  have e : rd_T26 T r.1 = T[r.1.toNat] := by
    unfold rd_T26
    rw [List.getD_eq_getElem?_getD, List.getElem?_eq_getElem hi]
    rfl
  have hx := of_decide_eq_true (List.all_eq_true.1 ha _ (List.getElem_mem hi))
  rw [e]
  generalize T[r.1.toNat] = x at hx
  obtain ⟨x1, x2, x3, x4, x5⟩ := hx
  have last : ∀ (q : Int) (a : Int), p ≤ q → q ≤ p + 2 → EvP (fun k => if x.f2 > 0 then ((spec_l6Rd_pick.f k s q x.f2).bind fun bt226 => (some (x.f0, a, bt226.1, bt226.2))) else (some (x.f0, a, x.f2, q))) (fun r => r.1.size ≤ 20 ∧ p ≤ r.2.2.2 ∧ r.2.2.2 ≤ p + 3) := by
    intro q a h1 h2
    refine EvP.ite (fun h => EvP.bind (ev_pick s hs q x.f2 (by omega) (by omega) (by omega) (by omega)) (fun u hu => EvP.ret _ ⟨x1, by show p ≤ u.2; omega, by show u.2 ≤ p + 3; omega⟩)) (fun h => EvP.ret _ ⟨x1, h1, by show q ≤ p + 3; omega⟩)
  refine EvP.ite (fun h => ?_) (fun h => last r.2 x.f1 (by omega) (by omega))
  have hm : 1 ≤ mn x.f1 12 ∧ mn x.f1 12 ≤ 12 := by unfold mn; split <;> omega
  exact EvP.bind (ev_pick s hs r.2 _ (by omega) (by omega) (by omega) (by omega)) (fun u hu => last u.2 u.1 (by omega) (by omega))

/-- A text's words, with one blank between: one sign more. -/
def stepW (ws : List ByteArray) (c : UInt8) : List ByteArray := if c = 32 then ws ++ [⟨#[]⟩] else ws.set (ws.length - 1) (ws.getD (ws.length - 1) ByteArray.empty ++ ⟨#[c]⟩)

def wordsOf (s : ByteArray) : List ByteArray := s.data.toList.foldl stepW [⟨#[]⟩]

theorem step_last (pre : List ByteArray) (w : ByteArray) (c : UInt8) : stepW (pre ++ [w]) c = if c = 32 then (pre ++ [w]) ++ [⟨#[]⟩] else pre ++ [w ++ ⟨#[c]⟩] := by
  unfold stepW
  have e : (pre ++ [w]).length - 1 = pre.length := by simp
  rw [e]
  split
  · rfl
  · have e2 : (pre ++ [w]).getD pre.length ByteArray.empty = w := by simp [List.getD_eq_getElem?_getD]
    rw [e2, List.set_append_right _ _ (Nat.le_refl _)]
    simp

theorem fold_pre : ∀ (l : List UInt8) (pre : List ByteArray) (w : ByteArray), l.foldl stepW (pre ++ [w]) = pre ++ l.foldl stepW [w]
  | [], pre, w => rfl
  | c :: l, pre, w => by
    have e1 := step_last pre w c
    have e2 := step_last [] w c
    rw [List.nil_append] at e2
    rw [List.foldl_cons, List.foldl_cons, e1, e2]
    split
    · rw [fold_pre l (pre ++ [w]) ⟨#[]⟩, fold_pre l [w] ⟨#[]⟩, List.append_assoc]
    · exact fold_pre l pre (w ++ ⟨#[c]⟩)

theorem fold_plain : ∀ (l : List UInt8) (w : ByteArray), (∀ c ∈ l, c ≠ 32) → l.foldl stepW [w] = [w ++ ⟨l.toArray⟩]
  | [], w, _ => by
    show [w] = [w ++ ⟨#[]⟩]
    congr 1
    apply ByteArray.ext
    simp
  | c :: l, w, h => by
    have e2 := step_last [] w c
    rw [List.nil_append, if_neg (h c (by simp))] at e2
    rw [List.foldl_cons, e2, List.nil_append, fold_plain l _ (fun x hx => h x (by simp [hx]))]
    congr 1
    apply ByteArray.ext
    simp

theorem words_hit {a b : List UInt8} (h : ∀ c ∈ a, c ≠ 32) : (a ++ 32 :: b).foldl stepW [⟨#[]⟩] = ⟨a.toArray⟩ :: b.foldl stepW [⟨#[]⟩] := by
  have e : ((⟨#[]⟩ : ByteArray) ++ ⟨a.toArray⟩) = ⟨a.toArray⟩ := by apply ByteArray.ext; simp
  have e2 := step_last [] (⟨a.toArray⟩ : ByteArray) 32
  rw [List.nil_append, if_pos rfl] at e2
  rw [List.foldl_append, fold_plain a _ h, e, List.foldl_cons, e2, fold_pre]
  rfl

theorem words_plain {a : List UInt8} (h : ∀ c ∈ a, c ≠ 32) : a.foldl stepW [⟨#[]⟩] = [⟨a.toArray⟩] := by
  have e : ((⟨#[]⟩ : ByteArray) ++ ⟨a.toArray⟩) = ⟨a.toArray⟩ := by apply ByteArray.ext; simp
  rw [fold_plain a _ h, e]

theorem split_words : ∀ (k : Nat) (s : ByteArray), Lib.countB s ⟨#[32]⟩ = k → Lib.splitB ⟨#[32]⟩ 0 k s = wordsOf s := by
  intro k
  induction k with
  | zero =>
    intro s hk
    have hx : Lib.indexB s ⟨#[32]⟩ = Lib.indexByte s.data.toList 32 := Lib.index_one _ _
    rcases Lib.indexB_cases s ⟨#[32]⟩ with h | ⟨i, h, _⟩
    · rw [Lib.splitB_miss _ _ _ _ h]
      rw [hx] at h
      have h2 : ∀ c ∈ s.data.toList, c ≠ 32 := by
        intro c hc e
        obtain ⟨j, hj, rfl⟩ := List.mem_iff_getElem.1 hc
        exact Lib.indexByte_none h j (by rw [List.getElem?_eq_getElem hj, e])
      unfold wordsOf
      rw [words_plain h2]
    · have := Lib.countB_hit s ⟨#[32]⟩ i (by decide) h
      omega
  | succ k ih =>
    intro s hk
    have hx : Lib.indexB s ⟨#[32]⟩ = Lib.indexByte s.data.toList 32 := Lib.index_one _ _
    rcases Lib.indexB_cases s ⟨#[32]⟩ with h | ⟨i, h, _⟩
    · have := Lib.countB_miss s ⟨#[32]⟩ h
      omega
    · have hc := Lib.countB_hit s ⟨#[32]⟩ i (by decide) h
      rw [Lib.splitB_hit _ _ _ _ i h, ih _ (by omega)]
      rw [hx] at h
      obtain ⟨h1, h2⟩ := Lib.indexByte_some h
      obtain ⟨hi, h3⟩ := List.getElem?_eq_some_iff.1 h1
      have e1 : s.data.toList = s.data.toList.take i ++ 32 :: s.data.toList.drop (i + 1) := by
        rw [← h3, ← List.drop_eq_getElem_cons hi, List.take_append_drop]
      have h4 : ∀ c ∈ s.data.toList.take i, c ≠ 32 := by
        intro c hc e
        obtain ⟨j, hj, rfl⟩ := List.mem_iff_getElem.1 hc
        rw [List.length_take] at hj
        rw [List.getElem_take] at e
        exact h2 j (by omega) (by rw [List.getElem?_eq_getElem (by omega), e])
      have e2 : s.extract 0 (i + 0) = ⟨(s.data.toList.take i).toArray⟩ := by
        apply ByteArray.ext
        apply Array.toList_inj.1
        rw [ByteArray.data_extract, Array.toList_extract, List.extract_eq_take_drop]
        simp
      have e3 : (s.extract (i + (⟨#[32]⟩ : ByteArray).size) s.size).data.toList = s.data.toList.drop (i + 1) := by
        have : (⟨#[32]⟩ : ByteArray).size = 1 := rfl
        rw [this, ByteArray.data_extract, Array.toList_extract, List.extract_eq_take_drop]
        exact List.take_of_length_le (by simp)
      unfold wordsOf
      rw [e2, e3]
      conv => rhs; rw [e1]
      rw [words_hit h4]

def joinD : List ByteArray → List UInt8
  | [] => []
  | [w] => w.data.toList
  | w :: x :: ws => w.data.toList ++ 32 :: joinD (x :: ws)

theorem join_more : ∀ (pre : List ByteArray) (w : ByteArray) (c : UInt8), joinD (pre ++ [w ++ ⟨#[c]⟩]) = joinD (pre ++ [w]) ++ [c]
  | [], w, c => by simp [joinD]
  | [p], w, c => by simp [joinD]
  | p :: q :: ps, w, c => by
    have := join_more (q :: ps) w c
    simp only [List.cons_append] at this
    simp only [List.cons_append, joinD, this, List.append_assoc]

theorem join_next : ∀ (pre : List ByteArray) (w : ByteArray), joinD ((pre ++ [w]) ++ [⟨#[]⟩]) = joinD (pre ++ [w]) ++ [32]
  | [], w => by simp [joinD]
  | [p], w => by simp [joinD]
  | p :: q :: ps, w => by
    have := join_next (q :: ps) w
    show p.data.toList ++ 32 :: joinD ((q :: ps ++ [w]) ++ [⟨#[]⟩]) = (p.data.toList ++ 32 :: joinD (q :: ps ++ [w])) ++ [32]
    rw [this]
    simp

theorem join_fold : ∀ (l : List UInt8) (pre : List ByteArray) (w : ByteArray), joinD (l.foldl stepW (pre ++ [w])) = joinD (pre ++ [w]) ++ l
  | [], pre, w => by simp
  | c :: l, pre, w => by
    rw [List.foldl_cons, step_last]
    split
    · rename_i hc
      rw [join_fold l (pre ++ [w]) ⟨#[]⟩, join_next, hc, List.append_assoc]
      rfl
    · rw [join_fold l pre _, join_more, List.append_assoc]
      rfl

theorem join_words (s : ByteArray) : joinD (wordsOf s) = s.data.toList := by
  have := join_fold s.data.toList [] ⟨#[]⟩
  simpa [joinD, wordsOf] using this

theorem fold_len : ∀ (l : List UInt8) (ws : List ByteArray), ws.length ≤ (l.foldl stepW ws).length ∧ (l.foldl stepW ws).length ≤ ws.length + l.length
  | [], ws => by simp
  | c :: l, ws => by
    have h := fold_len l (stepW ws c)
    have e : ws.length ≤ (stepW ws c).length ∧ (stepW ws c).length ≤ ws.length + 1 := by
      unfold stepW
      split
      · rw [List.length_append]
        simp
      · rw [List.length_set]
        omega
    rw [List.foldl_cons, List.length_cons]
    omega

theorem words_pos (s : ByteArray) : 1 ≤ (wordsOf s).length := by
  have := fold_len s.data.toList [⟨#[]⟩]
  unfold wordsOf
  simpa using this.1

def digit (c : UInt8) : Bool := decide (48 ≤ c.toNat ∧ c.toNat ≤ 57)

/-- The text of a number, as it is written. -/
def isNum (l : List UInt8) : Bool := (decide (l ≠ []) && (decide (l.length ≤ 1) || decide (l.head? ≠ some 48))) && l.all digit

def valF (n : Nat) (c : UInt8) : Nat := 10 * n + (c.toNat - 48)

def val (l : List UInt8) : Nat := l.foldl valF 0

theorem val_snoc (l : List UInt8) (c : UInt8) : val (l ++ [c]) = 10 * val l + (c.toNat - 48) := by
  unfold val
  rw [List.foldl_append]
  rfl

theorem dig_small {u : Nat} (h : u < 10) : Lib.decDigits u = [UInt8.ofNat (48 + u)] := by rw [Lib.decDigits, dif_pos h]

theorem dig_big {u : Nat} (h : ¬ u < 10) : Lib.decDigits u = Lib.decDigits (u / 10) ++ [UInt8.ofNat (48 + u % 10)] := by rw [Lib.decDigits, dif_neg h]

theorem chr_nat {d : Nat} (h : d < 10) : (UInt8.ofNat (48 + d)).toNat = 48 + d := by
  rw [UInt8.toNat_ofNat']
  omega

theorem val_dig : ∀ u : Nat, val (Lib.decDigits u) = u := by
  intro u
  induction u using Nat.strongRecOn with
  | _ u ih =>
    by_cases h : u < 10
    · rw [dig_small h]
      show 10 * 0 + ((UInt8.ofNat (48 + u)).toNat - 48) = u
      rw [chr_nat h]
      omega
    · rw [dig_big h, val_snoc, ih _ (by omega), chr_nat (by omega)]
      omega

theorem all_dig : ∀ u : Nat, (Lib.decDigits u).all digit = true := by
  intro u
  induction u using Nat.strongRecOn with
  | _ u ih =>
    by_cases h : u < 10
    · rw [dig_small h, List.all_cons]
      have := chr_nat h
      simp [digit]
      omega
    · rw [dig_big h, List.all_append, ih _ (by omega), List.all_cons]
      have := chr_nat (d := u % 10) (by omega)
      simp [digit]
      omega

theorem dig_ne (u : Nat) : Lib.decDigits u ≠ [] := by
  by_cases h : u < 10
  · rw [dig_small h]
    simp
  · rw [dig_big h]
    simp

theorem dig_head : ∀ u : Nat, 1 ≤ u → (Lib.decDigits u).head? ≠ some 48 := by
  intro u
  induction u using Nat.strongRecOn with
  | _ u ih =>
    intro hu
    by_cases h : u < 10
    · rw [dig_small h]
      intro e
      have e2 := congrArg UInt8.toNat (Option.some.inj e)
      rw [chr_nat h] at e2
      have : (48 : UInt8).toNat = 48 := rfl
      omega
    · rw [dig_big h]
      have h1 := ih (u / 10) (by omega) (by omega)
      cases hd : Lib.decDigits (u / 10) with
      | nil => exact absurd hd (dig_ne _)
      | cons a as_ => rw [hd] at h1; simpa using h1

theorem num_dig (u : Nat) : isNum (Lib.decDigits u) = true := by
  unfold isNum
  rw [all_dig, Bool.and_true, Bool.and_eq_true]
  refine ⟨decide_eq_true (dig_ne u), ?_⟩
  rw [Bool.or_eq_true]
  by_cases h : u < 10
  · exact .inl (decide_eq_true (by rw [dig_small h]; simp))
  · exact .inr (decide_eq_true (dig_head u (by omega)))

theorem dig_len : ∀ (k u : Nat), u < 10 ^ (k + 1) → (Lib.decDigits u).length ≤ k + 1
  | 0, u, h => by rw [dig_small (by simpa using h)]; simp
  | k + 1, u, h => by
    by_cases h2 : u < 10
    · rw [dig_small h2]
      simp
    · rw [dig_big h2, List.length_append]
      have := dig_len k (u / 10) (by rw [Nat.pow_succ] at h; omega)
      simp
      omega

theorem val_grow : ∀ (l : List UInt8) (n : Nat), n ≤ l.foldl valF n
  | [], n => Nat.le_refl _
  | c :: l, n => by
    rw [List.foldl_cons]
    have := val_grow l (valF n c)
    unfold valF at this ⊢
    omega

theorem val_pos {c : UInt8} {l : List UInt8} (h : digit c = true) (h2 : c ≠ 48) : 1 ≤ val (c :: l) := by
  have h3 := of_decide_eq_true h
  have h4 : c.toNat ≠ 48 := fun e => h2 (by apply UInt8.toNat_inj.1; rw [e]; rfl)
  have h5 := val_grow l (valF 0 c)
  have h6 : 1 ≤ valF 0 c := by unfold valF; omega
  show 1 ≤ l.foldl valF (valF 0 c)
  omega

theorem chr_of {c : UInt8} (h : digit c = true) : UInt8.ofNat (48 + (c.toNat - 48)) = c := by
  have h3 := of_decide_eq_true h
  apply UInt8.toNat_inj.1
  rw [UInt8.toNat_ofNat']
  omega

theorem dig_val : ∀ (n : Nat) (l : List UInt8), l.length = n → isNum l = true → Lib.decDigits (val l) = l := by
  intro n
  induction n with
  | zero =>
    intro l hl h
    have := List.eq_nil_of_length_eq_zero hl
    subst this
    simp [isNum] at h
  | succ n ih =>
    intro l hl h
    have hne : l ≠ [] := by intro e; rw [e] at hl; simp at hl
    obtain ⟨a, c, rfl⟩ : ∃ a c, l = a ++ [c] := ⟨l.dropLast, l.getLast hne, (List.dropLast_concat_getLast hne).symm⟩
    unfold isNum at h
    rw [Bool.and_eq_true, Bool.and_eq_true, List.all_append, Bool.and_eq_true] at h
    obtain ⟨⟨_, h1⟩, h2, h3⟩ := h
    have hc : digit c = true := by simpa using h3
    have hd := of_decide_eq_true hc
    rw [val_snoc]
    cases a with
    | nil =>
      have e : val [] = 0 := rfl
      rw [e, Nat.mul_zero, Nat.zero_add, dig_small (by omega), chr_of hc]
      rfl
    | cons b bs =>
      have hb : b ≠ 48 := by
        rw [Bool.or_eq_true] at h1
        rcases h1 with h1 | h1
        · have := of_decide_eq_true h1
          simp at this
        · have := of_decide_eq_true h1
          simpa using this
      have hbd : digit b = true := by
        rw [List.all_cons, Bool.and_eq_true] at h2
        exact h2.1
      have hp := val_pos (l := bs) hbd hb
      have hn : isNum (b :: bs) = true := by
        unfold isNum
        rw [h2, Bool.and_true, Bool.and_eq_true, Bool.or_eq_true]
        exact ⟨by simp, .inr (decide_eq_true (by simpa using hb))⟩
      have e1 : (10 * val (b :: bs) + (c.toNat - 48)) / 10 = val (b :: bs) := by omega
      have e2 : (10 * val (b :: bs) + (c.toNat - 48)) % 10 = c.toNat - 48 := by omega
      rw [dig_big (by omega), e1, e2, ih _ (by simpa using hl) hn, chr_of hc]

theorem bt_list {x : ByteArray} {i : Nat} (h : i < x.data.toList.length) : bt x i = ((x.data.toList[i]).toNat : Int) := bt_of (by simp at h ⊢)

theorem isNum_ok {l : List UInt8} (h0 : l ≠ []) (h1 : l.length ≤ 1 ∨ l.head? ≠ some 48) : isNum l = l.all digit := by
  unfold isNum
  rw [decide_eq_true h0, Bool.true_and]
  have : (decide (l.length ≤ 1) || decide (l.head? ≠ some 48)) = true := by
    rw [Bool.or_eq_true]
    rcases h1 with h | h
    · exact .inl (decide_eq_true h)
    · exact .inr (decide_eq_true h)
  rw [this, Bool.true_and]

theorem isNum_no {l : List UInt8} (h0 : 1 < l.length) (h1 : l.head? = some 48) : isNum l = false := by
  unfold isNum
  rw [decide_eq_false (show ¬ l.length ≤ 1 by omega), decide_eq_false (show ¬ l.head? ≠ some 48 by simp [h1]), Bool.or_false, Bool.and_false, Bool.false_and]

theorem head_bt {x : ByteArray} (h : 0 < x.size) : x.data.toList.head? = some 48 ↔ bt x 0 = 48 := by
  have hl : 0 < x.data.toList.length := by simpa using h
  have e := bt_list (x := x) (i := 0) hl
  have e0 : ((0 : Nat) : Int) = 0 := rfl
  rw [e0] at e
  rw [e, List.head?_eq_getElem?, List.getElem?_eq_getElem hl]
  constructor
  · intro h2
    rw [Option.some.inj h2]
    rfl
  · intro h2
    congr 1
    apply UInt8.toNat_inj.1
    have : (48 : UInt8).toNat = 48 := rfl
    omega

def l3n (x : ByteArray) : Int := if (isNum x.data.toList && decide (x.size ≤ 8)) = true then (val x.data.toList : Int) else -1

def decn (x : ByteArray) : Int × Bool := if (isNum x.data.toList && decide (x.size ≤ 9)) = true then ((val x.data.toList : Int), true) else (0, false)

theorem pow_nine {i : Nat} (h : i ≤ 9) : 10 ^ i ≤ 1000000000 := Nat.pow_le_pow_right (n := 10) (by decide) h

theorem ev_spec_l3Number (x : ByteArray) : EvP (fun k => spec_l3Number.f k x) (· = l3n x) := by
  have hlen : x.data.toList.length = x.size := by simp
  have key : x.size ≤ 9 → ∀ i, i ≤ x.size → ∀ n : Nat, n + 1 ≤ 10 ^ i → EvP (fun k => spec_l3Number.l0 k x (n : Int) i) (· = if ((x.data.toList.drop i).all digit) = true then (((x.data.toList.drop i).foldl valF n : Nat) : Int) else -1) := by
    intro h9
    refine upInd ?_ ?_
    · intro n hn
      refine EvP.succ ?_
      simp only [spec_l3Number.l0]
      refine EvP.neg (by omega) (EvP.ret _ ?_)
      rw [← hlen, List.drop_length]
      rfl
    · intro i hi ih n hn
      refine EvP.succ ?_
      simp only [spec_l3Number.l0]
      have hi2 : i < x.data.toList.length := by omega
      have hb := bt_list hi2
      have hp := pow_nine (i := i) (by omega)
      have hp2 : 10 ^ (i + 1) = 10 ^ i * 10 := Nat.pow_succ 10 i
      have hc : (x.data.toList[i]).toNat < 256 := UInt8.toNat_lt _
      rw [List.drop_eq_getElem_cons hi2, List.all_cons, List.foldl_cons, hb, w64s hi (by omega)]
      generalize x.data.toList[i] = c at hc
      refine EvP.pos (by omega) (EvP.pos (by omega) (EvP.ite (fun h => EvP.ret _ ?_) (fun h => EvP.ite (fun h2 => EvP.ret _ ?_) (fun h2 => ?_))))
      · have : digit c = false := decide_eq_false (by omega)
        rw [this, Bool.false_and]
        rfl
      · have : digit c = false := decide_eq_false (by omega)
        rw [this, Bool.false_and]
        rfl
      · have : digit c = true := decide_eq_true (by omega)
        rw [this, Bool.true_and]
        have e : wrap64 ((wrap64 ((n : Int) * 10)) + (((c.toNat : Int) - 48) % 256)) = ((valF n c : Nat) : Int) := by
          unfold valF
          rw [w64 (n := (n : Int) * 10) (by omega) (by omega), w64 (by omega) (by omega)]
          omega
        rw [e]
        exact ih (valF n c) (by unfold valF; omega)
  have bad : EvP (fun k => spec_l3Number.j0 k x true) (· = -1) := by
    refine EvP.succ ?_
    simp only [spec_l3Number.j0]
    exact EvP.pos trivial (EvP.ret _ rfl)
  have good : 0 < x.size → x.size ≤ 8 → (x.data.toList.length ≤ 1 ∨ x.data.toList.head? ≠ some 48) → EvP (fun k => spec_l3Number.j0 k x false) (· = l3n x) := by
    intro h0 h8 h1
    refine EvP.succ ?_
    simp only [spec_l3Number.j0]
    refine EvP.neg (by simp) ((key (by omega) 0 (by omega) 0 (by simp)).mono (fun r hr => ?_))
    rw [hr, List.drop_zero]
    unfold l3n
    rw [isNum_ok (by intro e; rw [e] at hlen; simp at hlen; omega) h1, decide_eq_true h8, Bool.and_true]
    rfl
  unfold spec_l3Number.f
  refine EvP.ite (fun h => bad.mono (fun r hr => ?_)) (fun h => EvP.ite (fun h2 => bad.mono (fun r hr => ?_)) (fun h2 => EvP.ite (fun h3 => EvP.pos (by omega) ?_) (fun h3 => good (by omega) (by omega) (.inl (by omega)))))
  · have e : x.data.toList = [] := List.eq_nil_of_length_eq_zero (by omega)
    unfold l3n
    rw [hr, e]
    rfl
  · unfold l3n
    rw [hr, decide_eq_false (show ¬ x.size ≤ 8 by omega), Bool.and_false]
    rfl
  · by_cases h4 : bt x 0 = 48
    · have e : (bt x 0 == 48) = true := beq_iff_eq.2 h4
      rw [e]
      refine bad.mono (fun r hr => ?_)
      unfold l3n
      rw [hr, isNum_no (by omega) ((head_bt (by omega)).2 h4), Bool.false_and]
      rfl
    · have e : (bt x 0 == 48) = false := beq_eq_false_iff_ne.2 h4
      rw [e]
      exact good (by omega) (by omega) (.inr (fun h5 => h4 ((head_bt (by omega)).1 h5)))

theorem ev_impl_decimal (x : ByteArray) : EvP (fun k => impl_decimal.f k x) (· = decn x) := by
  have hlen : x.data.toList.length = x.size := by simp
  have key : x.size ≤ 9 → ∀ i, i ≤ x.size → ∀ n : Nat, n + 1 ≤ 10 ^ i → EvP (fun k => impl_decimal.l0 k x (n : Int) (x.size : Int) i) (· = if ((x.data.toList.drop i).all digit) = true then ((((x.data.toList.drop i).foldl valF n : Nat) : Int), true) else (0, false)) := by
    intro h9
    refine upInd ?_ ?_
    · intro n hn
      refine EvP.succ ?_
      simp only [impl_decimal.l0]
      refine EvP.neg (by omega) (EvP.ret _ ?_)
      rw [← hlen, List.drop_length]
      rfl
    · intro i hi ih n hn
      refine EvP.succ ?_
      simp only [impl_decimal.l0]
      have hi2 : i < x.data.toList.length := by omega
      have hb := bt_list hi2
      have hp := pow_nine (i := i) (by omega)
      have hp2 : 10 ^ (i + 1) = 10 ^ i * 10 := Nat.pow_succ 10 i
      have hc : (x.data.toList[i]).toNat < 256 := UInt8.toNat_lt _
      rw [List.drop_eq_getElem_cons hi2, List.all_cons, List.foldl_cons, hb, w64s hi (by omega)]
      generalize x.data.toList[i] = c at hc
      refine EvP.pos (by omega) (EvP.pos (by omega) (EvP.pos (by omega) (EvP.ite (fun h => EvP.ret _ ?_) (fun h => EvP.ite (fun h2 => EvP.ret _ ?_) (fun h2 => ?_)))))
      · have : digit c = false := decide_eq_false (by omega)
        rw [this, Bool.false_and]
        rfl
      · have : digit c = false := decide_eq_false (by omega)
        rw [this, Bool.false_and]
        rfl
      · have : digit c = true := decide_eq_true (by omega)
        rw [this, Bool.true_and]
        have e : wrap64 ((wrap64 (10 * (n : Int))) + (((c.toNat : Int) - 48) % 256)) = ((valF n c : Nat) : Int) := by
          unfold valF
          rw [w64 (n := 10 * (n : Int)) (by omega) (by omega), w64 (by omega) (by omega)]
          omega
        rw [e]
        exact ih (valF n c) (by unfold valF; omega)
  have bad : EvP (fun k => impl_decimal.j0 k x true) (· = (0, false)) := by
    refine EvP.succ ?_
    simp only [impl_decimal.j0]
    exact EvP.pos trivial (EvP.ret _ rfl)
  have good : 0 < x.size → x.size ≤ 9 → (x.data.toList.length ≤ 1 ∨ x.data.toList.head? ≠ some 48) → EvP (fun k => impl_decimal.j0 k x false) (· = decn x) := by
    intro h0 h8 h1
    refine EvP.succ ?_
    simp only [impl_decimal.j0]
    refine EvP.neg (by simp) ((key (by omega) 0 (by omega) 0 (by simp)).mono (fun r hr => ?_))
    rw [hr, List.drop_zero]
    unfold decn
    rw [isNum_ok (by intro e; rw [e] at hlen; simp at hlen; omega) h1, decide_eq_true h8, Bool.and_true]
    rfl
  unfold impl_decimal.f
  refine EvP.ite (fun h => bad.mono (fun r hr => ?_)) (fun h => EvP.ite (fun h2 => bad.mono (fun r hr => ?_)) (fun h2 => EvP.ite (fun h3 => EvP.pos (by omega) ?_) (fun h3 => good ?_ (by omega) (.inl (by omega)))))
  · have e0 := congrArg List.length h
    rw [list_size, List.length_nil] at e0
    have e : x.data.toList = [] := List.eq_nil_of_length_eq_zero (by omega)
    unfold decn
    rw [hr, e]
    rfl
  · unfold decn
    rw [hr, decide_eq_false (show ¬ x.size ≤ 9 by omega), Bool.and_false]
    rfl
  · by_cases h4 : bt x 0 = 48
    · have e : (bt x 0 == 48) = true := beq_iff_eq.2 h4
      rw [e]
      refine bad.mono (fun r hr => ?_)
      unfold decn
      rw [hr, isNum_no (by omega) ((head_bt (by omega)).2 h4), Bool.false_and]
      rfl
    · have e : (bt x 0 == 48) = false := beq_eq_false_iff_ne.2 h4
      rw [e]
      exact good (by omega) (by omega) (.inr (fun h5 => h4 ((head_bt (by omega)).1 h5)))
  · rcases Nat.eq_zero_or_pos x.size with e | e
    · exact absurd (List.eq_nil_of_length_eq_zero (by rw [list_size]; exact e)) h
    · exact e

theorem dec_list (n : Nat) : (dec (n : Int)).data.toList = Lib.decDigits n := by
  unfold dec Lib.itoa
  rw [if_neg (by omega), Int.toNat_natCast]

/-- A number's text is read as that number. -/
theorem l3n_dec {n : Nat} (h : n ≤ 1000001) : l3n (dec (n : Int)) = n := by
  have hl := dig_len 7 n (by omega)
  have hs : (dec (n : Int)).size ≤ 8 := by
    have := congrArg List.length (dec_list n)
    have e : (dec (n : Int)).data.toList.length = (dec (n : Int)).size := by simp
    omega
  unfold l3n
  rw [dec_list, num_dig, decide_eq_true hs, val_dig]
  rfl

theorem decn_dec {n : Nat} (h : n ≤ 1000001) : decn (dec (n : Int)) = ((n : Int), true) := by
  have hl := dig_len 7 n (by omega)
  have hs : (dec (n : Int)).size ≤ 9 := by
    have := congrArg List.length (dec_list n)
    have e : (dec (n : Int)).data.toList.length = (dec (n : Int)).size := by simp
    omega
  unfold decn
  rw [dec_list, num_dig, decide_eq_true hs, val_dig]
  rfl

theorem dec_of {x : ByteArray} (h : (decn x).2 = true) : ∃ n : Nat, x = dec (n : Int) ∧ decn x = ((n : Int), true) := by
  unfold decn at h ⊢
  split at h
  · rename_i hc
    rw [if_pos hc]
    rw [Bool.and_eq_true] at hc
    refine ⟨val x.data.toList, ?_, rfl⟩
    apply ByteArray.ext
    apply Array.toList_inj.1
    rw [dec_list, dig_val _ _ rfl hc.1]
  · cases h

theorem fold_size : ∀ (l : List UInt8) (ws : List ByteArray) (B : Nat), (∀ w ∈ ws, w.size ≤ B) → ∀ w ∈ l.foldl stepW ws, w.size ≤ B + l.length
  | [], ws, B, h, w, hw => h w hw
  | c :: l, ws, B, h, w, hw => by
    rw [List.foldl_cons] at hw
    have h2 : ∀ w ∈ stepW ws c, w.size ≤ B + 1 := by
      intro y hy
      unfold stepW at hy
      split at hy
      · rcases List.mem_append.1 hy with h3 | h3
        · have := h y h3
          omega
        · rw [List.mem_singleton.1 h3]
          show 0 ≤ B + 1
          omega
      · rcases List.mem_or_eq_of_mem_set hy with h3 | h3
        · have := h y h3
          omega
        · rw [h3, ByteArray.size_append]
          have h4 : (ws.getD (ws.length - 1) ByteArray.empty).size ≤ B := by
            rw [List.getD_eq_getElem?_getD]
            cases e : ws[ws.length - 1]? with
            | none => exact Nat.zero_le _
            | some y => exact h y (List.mem_of_getElem? e)
          have h5 : (⟨#[c]⟩ : ByteArray).size = 1 := rfl
          omega
    have := fold_size l _ (B + 1) h2 w hw
    rw [List.length_cons]
    omega

theorem ev_spec_l3Words (s : ByteArray) (hs : s.size ≤ 1000) : EvP (fun k => spec_l3Words.f k s) (· = wordsOf s) := by
  have hlen : s.data.toList.length = s.size := by simp
  have key : ∀ i, i ≤ s.size → ∀ ws : List ByteArray, ws = (s.data.toList.take i).foldl stepW [⟨#[]⟩] → EvP (fun k => spec_l3Words.l0 k s ws i) (· = wordsOf s) := by
    refine upInd ?_ ?_
    · intro ws hw
      refine EvP.succ ?_
      simp only [spec_l3Words.l0]
      refine EvP.neg (by omega) (EvP.ret _ ?_)
      rw [hw, List.take_of_length_le (by omega)]
      rfl
    · intro i hi ih ws hw
      refine EvP.succ ?_
      simp only [spec_l3Words.l0]
      have hi2 : i < s.data.toList.length := by omega
      have hb := bt_list hi2
      have hl := fold_len (s.data.toList.take i) [⟨#[]⟩]
      have hz := fold_size (s.data.toList.take i) [⟨#[]⟩] 0 (by intro w hw2; rw [List.mem_singleton.1 hw2]; exact Nat.le_refl _)
      rw [← hw] at hl hz
      have ht : (s.data.toList.take i).length = i := by rw [List.length_take]; omega
      rw [ht] at hl hz
      have hl1 : 1 ≤ ws.length := by simpa using hl.1
      have hl2 : ws.length ≤ 1 + i := by simpa using hl.2
      have hn : (s.data.toList.take (i + 1)).foldl stepW [⟨#[]⟩] = stepW ws s.data.toList[i] := by
        rw [List.take_succ_eq_append_getElem hi2, List.foldl_append, ← hw]
        rfl
      rw [hb, w64s hi (by omega)]
      have h32 : (32 : UInt8).toNat = 32 := rfl
      refine EvP.pos (by omega) (EvP.pos (by omega) (EvP.ite (fun h => ?_) (fun h => ?_)))
      · have hc : s.data.toList[i] = 32 := by apply UInt8.toNat_inj.1; omega
        refine EvP.pos (by omega) (ih _ ?_)
        rw [hn]
        unfold stepW
        rw [if_pos hc]
      · have hc : s.data.toList[i] ≠ 32 := by intro e; apply h; rw [e]; rfl
        have e1 : wrap64 ((ws.length : Int) - 1) = ((ws.length - 1 : Nat) : Int) := by rw [w64 (by omega) (by omega)]; omega
        have e2 : rdOf ByteArray.empty ws ((ws.length - 1 : Nat) : Int) = ws.getD (ws.length - 1) ByteArray.empty := by rw [← Int.toNat_natCast (ws.length - 1)]; rfl
        have e3 : s.extract ((i : Int)).toNat (((i + 1 : Nat) : Int)).toNat = ⟨#[s.data.toList[i]]⟩ := by
          rw [Int.toNat_natCast, Int.toNat_natCast]
          apply ByteArray.ext
          apply Array.toList_inj.1
          rw [ByteArray.data_extract, Array.toList_extract, List.extract_eq_take_drop]
          rw [show i + 1 - i = 1 by omega, List.drop_eq_getElem_cons hi2]
          rfl
        have e4 : (ws.getD (ws.length - 1) ByteArray.empty).size ≤ i := by
          rw [List.getD_eq_getElem?_getD]
          cases e : ws[ws.length - 1]? with
          | none => exact Nat.zero_le _
          | some y => have := hz y (List.mem_of_getElem? e); simpa using this
        have e5 : (⟨#[s.data.toList[i]]⟩ : ByteArray).size = 1 := rfl
        rw [e1, e2, e3]
        refine EvP.pos (by omega) (EvP.pos (by omega) (EvP.pos (by omega) (EvP.pos (by omega) (EvP.pos (by omega) (ih _ ?_)))))
        rw [hn, Int.toNat_natCast]
        unfold stepW
        rw [if_neg hc]
  unfold spec_l3Words.f
  exact key 0 (by omega) _ rfl

/-- A blank. -/
abbrev sp : ByteArray := ⟨#[32]⟩

def no32 (x : ByteArray) : Prop := ∀ c ∈ x.data.toList, c ≠ 32

theorem mk_list (x : ByteArray) : (⟨x.data.toList.toArray⟩ : ByteArray) = x := by apply ByteArray.ext; simp

theorem words1 {w : ByteArray} (h : no32 w) : wordsOf w = [w] := by
  unfold wordsOf
  rw [words_plain h, mk_list]

theorem words2 {w x : ByteArray} (h : no32 w) (h2 : no32 x) : wordsOf (w ++ (sp ++ x)) = [w, x] := by
  have e : (w ++ (sp ++ x)).data.toList = w.data.toList ++ 32 :: x.data.toList := by simp
  unfold wordsOf
  rw [e, words_hit h, words_plain h2, mk_list, mk_list]

theorem words3 {w x y : ByteArray} (h : no32 w) (h2 : no32 x) (h3 : no32 y) : wordsOf ((w ++ (sp ++ x)) ++ (sp ++ y)) = [w, x, y] := by
  have e : ((w ++ (sp ++ x)) ++ (sp ++ y)).data.toList = w.data.toList ++ 32 :: (x.data.toList ++ 32 :: y.data.toList) := by simp
  unfold wordsOf
  rw [e, words_hit h, words_hit h2, words_plain h3, mk_list, mk_list, mk_list]

theorem joined1 {s w : ByteArray} (h : wordsOf s = [w]) : s = w := by
  have e := join_words s
  rw [h] at e
  apply ByteArray.ext
  apply Array.toList_inj.1
  rw [← e]
  rfl

theorem joined2 {s w x : ByteArray} (h : wordsOf s = [w, x]) : s = w ++ (sp ++ x) := by
  have e := join_words s
  rw [h] at e
  apply ByteArray.ext
  apply Array.toList_inj.1
  rw [← e]
  simp [joinD]

theorem joined3 {s w x y : ByteArray} (h : wordsOf s = [w, x, y]) : s = (w ++ (sp ++ x)) ++ (sp ++ y) := by
  have e := join_words s
  rw [h] at e
  apply ByteArray.ext
  apply Array.toList_inj.1
  rw [← e]
  simp [joinD]

theorem dec_no32 (n : Nat) : no32 (dec (n : Int)) := by
  intro c hc e
  rw [dec_list] at hc
  have := List.all_eq_true.1 (all_dig n) c hc
  rw [e] at this
  exact absurd (of_decide_eq_true this) (by decide)

theorem look_plain (w : ByteArray) : ∀ T : List Tri, T.all (fun x => decide (x.1.size ≤ 20) && x.1.data.toList.all (fun c => decide (c ≠ 32))) = true → (look w T).2.2.2 = true → w.size ≤ 20 ∧ no32 w
  | [], _, h => by unfold look at h; cases h
  | x :: xs, h, h2 => by
    rw [List.all_cons, Bool.and_eq_true] at h
    unfold look at h2
    split at h2
    · rename_i hc
      have e : x.1 = w := bytes_ext hc
      rw [← e]
      rw [Bool.and_eq_true] at h
      exact ⟨of_decide_eq_true h.1.1, fun c hc2 => of_decide_eq_true (List.all_eq_true.1 h.1.2 c hc2)⟩
    · exact look_plain w xs h.2 h2

theorem word_plain {w : ByteArray} (h : (look w insTab).2.2.2 = true) : w.size ≤ 20 ∧ no32 w := look_plain w insTab (by decide +kernel) h

theorem insOk_word {w : ByteArray} {a b : Int} (h : insOk w a b = true) : (look w insTab).2.2.2 = true := by
  unfold insOk at h
  rw [Bool.and_eq_true] at h
  exact h.1

/-- How many numbers a word has. -/
def manyOf (w : ByteArray) : Nat := if (look w insTab).2.1 = 0 then 0 else if (look w insTab).2.2.1 = 0 then 1 else 2

theorem text_words {w : ByteArray} {a b : Int} (h : insOk w a b = true) : (manyOf w = 0 → insText w a b = w) ∧ (manyOf w = 1 → insText w a b = w ++ (sp ++ dec a)) ∧ (manyOf w = 2 → insText w a b = (w ++ (sp ++ dec a)) ++ (sp ++ dec b)) := by
  unfold manyOf insText
  rw [if_pos h]
  by_cases h1 : (look w insTab).2.1 = 0
  · rw [if_pos h1, if_pos h1]
    exact ⟨fun _ => rfl, fun e => by omega, fun e => by omega⟩
  · rw [if_neg h1, if_neg h1]
    by_cases h2 : (look w insTab).2.2.1 = 0
    · rw [if_pos h2, if_pos h2]
      exact ⟨fun e => by omega, fun _ => rfl, fun e => by omega⟩
    · rw [if_neg h2, if_neg h2]
      exact ⟨fun e => by omega, fun e => by omega, fun _ => rfl⟩

theorem many_le (w : ByteArray) : manyOf w = 0 ∨ manyOf w = 1 ∨ manyOf w = 2 := by
  unfold manyOf
  split
  · exact .inl rfl
  · split
    · exact .inr (.inl rfl)
    · exact .inr (.inr rfl)

abbrev badIns : ByteArray × Int × Int × Bool := (⟨#[]⟩, 0, 0, false)

/-- The instruction whose text it is. -/
def readIns (s : ByteArray) : ByteArray × Int × Int × Bool :=
  let w := (wordsOf s).getD 0 ByteArray.empty
  let a := if (wordsOf s).length > 1 then l3n ((wordsOf s).getD 1 ByteArray.empty) else 0
  let b := if (wordsOf s).length > 2 then l3n ((wordsOf s).getD 2 ByteArray.empty) else 0
  if insOk w a b = true ∧ insText w a b = s then (w, a, b, true) else badIns

theorem text_size {w : ByteArray} {a b : Int} (h : insOk w a b = true) : (insText w a b).size ≤ 40 := by
  obtain ⟨⟨a0, a1⟩, b0, b1⟩ := ins_num h
  have hw := (word_plain (insOk_word h)).1
  have sz : ∀ n : Nat, n ≤ 1000001 → (dec (n : Int)).size ≤ 7 := by
    intro n hn
    have h1 := dig_len 6 n (by omega)
    have h2 := congrArg List.length (dec_list n)
    have e : (dec (n : Int)).data.toList.length = (dec (n : Int)).size := by simp
    omega
  have sa := sz a.toNat (by omega)
  have sb := sz b.toNat (by omega)
  have ea : ((a.toNat : Nat) : Int) = a := by omega
  have eb : ((b.toNat : Nat) : Int) = b := by omega
  rw [ea] at sa
  rw [eb] at sb
  have s1 : sp.size = 1 := rfl
  obtain ⟨t0, t1, t2⟩ := text_words h
  rcases many_le w with m | m | m
  · rw [t0 m]
    omega
  · rw [t1 m, ByteArray.size_append, ByteArray.size_append]
    omega
  · rw [t2 m, ByteArray.size_append, ByteArray.size_append, ByteArray.size_append, ByteArray.size_append]
    omega

theorem ev_spec_InsRead (s : ByteArray) : EvP (fun k => spec_InsRead.f k s) (· = readIns s) := by
  unfold spec_InsRead.f
  refine EvP.ite (fun h => EvP.ret _ ?_) (fun h => ?_)
  · unfold readIns
    simp only
    rw [if_neg]
    rintro ⟨h1, h2⟩
    have := text_size h1
    rw [h2] at this
    omega
  · refine EvP.bind (ev_spec_l3Words s (by omega)) (fun t ht => ?_)
    subst ht
    have hp := words_pos s
    have hz : ∀ x ∈ wordsOf s, x.size ≤ 2000 := by
      intro x hx
      have := fold_size s.data.toList [⟨#[]⟩] 0 (by intro w hw; rw [List.mem_singleton.1 hw]; exact Nat.le_refl _) x hx
      have e : s.data.toList.length = s.size := by simp
      omega
    have hz0 : ((wordsOf s).getD 0 ByteArray.empty).size ≤ 2000 := by
      rw [List.getD_eq_getElem?_getD, List.getElem?_eq_getElem (by omega)]
      exact hz _ (List.getElem_mem _)
    have j1 : ∀ a b : Int, EvP (fun k => spec_InsRead.j1 k s ((wordsOf s).getD 0 ByteArray.empty) a b) (· = if insOk ((wordsOf s).getD 0 ByteArray.empty) a b = true ∧ insText ((wordsOf s).getD 0 ByteArray.empty) a b = s then ((wordsOf s).getD 0 ByteArray.empty, a, b, true) else badIns) := by
      intro a b
      refine EvP.succ ?_
      simp only [spec_InsRead.j1]
      refine EvP.bind (ev_spec_InsOk _ a b) (fun t ht => EvP.ite (fun h1 => ?_) (fun h1 => EvP.ret _ ?_))
      · rw [ht] at h1
        refine EvP.bind (ev_spec_InsText _ (by omega) a b) (fun u hu => EvP.ite (fun h2 => EvP.ret _ ?_) (fun h2 => EvP.ret _ ?_))
        · rw [if_pos ⟨h1, by rw [← hu]; exact bytes_ext h2⟩]
        · rw [if_neg]
          rintro ⟨_, h3⟩
          rw [hu, h3] at h2
          exact h2 rfl
      · rw [ht] at h1
        rw [if_neg (fun h2 => h1 h2.1)]
    have j0 : ∀ a b : Int, b = (if (wordsOf s).length > 2 then l3n ((wordsOf s).getD 2 ByteArray.empty) else 0) → EvP (fun k => spec_InsRead.j0 k s (wordsOf s) ((wordsOf s).getD 0 ByteArray.empty) a 0) (· = if insOk ((wordsOf s).getD 0 ByteArray.empty) a b = true ∧ insText ((wordsOf s).getD 0 ByteArray.empty) a b = s then ((wordsOf s).getD 0 ByteArray.empty, a, b, true) else badIns) := by
      intro a b hb
      refine EvP.succ ?_
      simp only [spec_InsRead.j0]
      refine EvP.ite (fun h1 => EvP.pos (by omega) ?_) (fun h1 => ?_)
      · have e : b = l3n ((wordsOf s).getD 2 ByteArray.empty) := by rw [hb]; exact if_pos (by omega)
        subst e
        refine EvP.bind (ev_spec_l3Number _) (fun t ht => ?_)
        subst ht
        exact j1 _ _
      · have e : b = 0 := by rw [hb]; exact if_neg (by omega)
        subst e
        exact j1 _ _
    refine EvP.pos (by omega) (EvP.ite (fun h1 => EvP.pos (by omega) ?_) (fun h1 => ?_))
    · refine EvP.bind (ev_spec_l3Number _) (fun t ht => ?_)
      subst ht
      refine (j0 _ _ rfl).mono (fun r hr => ?_)
      rw [hr]
      unfold readIns
      simp only
      rw [if_pos (show (wordsOf s).length > 1 by omega)]
      rfl
    · refine (j0 0 _ rfl).mono (fun r hr => ?_)
      rw [hr]
      unfold readIns
      simp only
      rw [if_neg (show ¬ (wordsOf s).length > 1 by omega)]

theorem l3n_cases {n : Nat} : l3n (dec (n : Int)) = n ∨ l3n (dec (n : Int)) = -1 := by
  unfold l3n
  split
  · rw [dec_list, val_dig]
    exact .inl rfl
  · exact .inr rfl

theorem list_two (l : List ByteArray) (h : l.length = 2) : ∃ a b, l = [a, b] := by
  match l, h with
  | [a, b], _ => exact ⟨a, b, rfl⟩

theorem list_three (l : List ByteArray) (h : l.length = 3) : ∃ a b c, l = [a, b, c] := by
  match l, h with
  | [a, b, c], _ => exact ⟨a, b, c, rfl⟩

theorem ev_impl_InsRead (s : ByteArray) (hs : s.size ≤ 1048576) : EvP (fun k => impl_InsRead.f k s) (· = readIns s) := by
  have hsplit : strings_Split.f s (⟨#[32]⟩ : ByteArray) = some (wordsOf s) := by
    unfold strings_Split.f
    rw [if_pos ⟨by omega, by decide⟩, split_words _ s rfl]
  have hp := words_pos s
  unfold impl_InsRead.f
  refine EvP.call hsplit (EvP.pos (by omega) ?_)
  have e01 : wrap64 (0 + 1) = 1 := by rw [w64 (by omega) (by omega)]; rfl
  have e12 : wrap64 (1 + 1) = 2 := by rw [w64 (by omega) (by omega)]; rfl
  obtain ⟨w, hw⟩ : ∃ w, (wordsOf s).getD 0 ByteArray.empty = w := ⟨_, rfl⟩
  have hw2 : rdOf ByteArray.empty (wordsOf s) 0 = w := hw
  rw [hw2]
  refine EvP.bind (ev_impl_formOf w) (fun t ht => ?_)
  subst ht
  have bad : EvP (fun k => impl_InsRead.j0 k (wordsOf s) true) (· = badIns) := by
    refine EvP.succ ?_
    simp only [impl_InsRead.j0]
    exact EvP.pos trivial (EvP.ret _ rfl)
  have no : (∀ a b, insOk w a b = true → insText w a b = s → (1 < (wordsOf s).length → l3n ((wordsOf s).getD 1 ByteArray.empty) = a) → (2 < (wordsOf s).length → l3n ((wordsOf s).getD 2 ByteArray.empty) = b) → False) → readIns s = badIns := by
    intro h
    unfold readIns
    simp only [hw]
    rw [if_neg]
    rintro ⟨h1, h2⟩
    exact h _ _ h1 h2 (fun h3 => by rw [if_pos (by omega)]) (fun h3 => by rw [if_pos (by omega)])
  refine EvP.ite (fun hok => ?_) (fun hok => bad.mono (fun r hr => by rw [hr, no (fun a b h1 _ _ _ => hok (insOk_word h1))]))
  have many : impl_insForm_many.f (look w insTab).1 (look w insTab).2.1 (look w insTab).2.2.1 = some (manyOf w : Int) := by
    unfold impl_insForm_many.f manyOf
    by_cases h1 : (look w insTab).2.1 = 0
    · rw [if_pos h1, if_pos h1]
      rfl
    · rw [if_neg h1, if_neg h1]
      by_cases h2 : (look w insTab).2.2.1 = 0
      · rw [if_pos h2, if_pos h2]
        rfl
      · rw [if_neg h2, if_neg h2]
        rfl
  refine EvP.call many ?_
  obtain ⟨hwz, hw32⟩ := word_plain hok
  have hm := many_le w
  have e1 : wrap64 (1 + (manyOf w : Int)) = ((1 + manyOf w : Nat) : Int) := by rw [w64 (by omega) (by omega)]; omega
  rw [e1]
  have wlen : ∀ a b, insOk w a b = true → insText w a b = s → wordsOf s = (if manyOf w = 0 then [w] else if manyOf w = 1 then [w, dec a] else [w, dec a, dec b]) := by
    intro a b h1 h2
    obtain ⟨⟨a0, a1⟩, b0, b1⟩ := ins_num h1
    have ea : ((a.toNat : Nat) : Int) = a := by omega
    have eb : ((b.toNat : Nat) : Int) = b := by omega
    have na := dec_no32 a.toNat
    have nb := dec_no32 b.toNat
    rw [ea] at na
    rw [eb] at nb
    obtain ⟨t0, t1, t2⟩ := text_words h1
    rw [← h2]
    rcases hm with m | m | m
    · rw [t0 m, if_pos m, words1 hw32]
    · rw [t1 m, if_neg (by omega), if_pos m, words2 hw32 na]
    · rw [t2 m, if_neg (by omega), if_neg (by omega), words3 hw32 na nb]
  by_cases hl : (wordsOf s).length = 1 + manyOf w
  · have e2 : (((wordsOf s).length : Int) != ((1 + manyOf w : Nat) : Int)) = false := by rw [hl]; simp
    rw [e2]
    refine EvP.succ ?_
    simp only [impl_InsRead.j0]
    refine EvP.neg (by simp) (EvP.pos (by omega) (EvP.pos (by omega) ?_))
    simp only [Option.bind_some]
    rw [hw2]
    have fin : ∀ (xs : List ByteArray) (i : Nat) (a b : Int), i = xs.length → EvP (fun k => impl_InsRead.l0 k xs (xs.length : Int) i w a b) (· = if insOk w a b = true then (w, a, b, true) else badIns) := by
      intro xs i a b hi
      subst hi
      refine EvP.succ ?_
      simp only [impl_InsRead.l0]
      refine EvP.neg (by omega) (EvP.bind (ev_impl_InsOk w a b) (fun t ht => EvP.ite (fun h => EvP.ret _ ?_) (fun h => EvP.ret _ ?_)))
      · rw [if_pos (by rw [← ht]; exact h)]
      · rw [if_neg (by rw [← ht]; exact h)]
    rcases hm with m | m | m
    · -- no number
      rw [m] at hl
      obtain ⟨w', hws⟩ : ∃ w', wordsOf s = [w'] := List.length_eq_one_iff.1 (by omega)
      have ew : w' = w := by rw [hws] at hw; exact hw
      subst ew
      rw [hws]
      have hs1 := joined1 hws
      have h0 : (look w' insTab).2.1 = 0 := by
        unfold manyOf at m
        by_cases h : (look w' insTab).2.1 = 0
        · exact h
        · rw [if_neg h] at m
          split at m <;> omega
      have h1 := look_two w' h0
      have ok : insOk w' 0 0 = true := by
        unfold insOk
        rw [hok, h0, h1]
        rfl
      refine (fin [] 0 0 0 rfl).mono (fun r hr => ?_)
      rw [hr, if_pos ok]
      unfold readIns
      simp only [hws]
      have ht := (text_words ok).1 m
      exact (if_pos ⟨ok, by rw [hs1]; exact ht⟩).symm
    · -- one number
      rw [m] at hl
      obtain ⟨w', x, hws⟩ : ∃ w' x, wordsOf s = [w', x] := list_two _ (by omega)
      have ew : w' = w := by rw [hws] at hw; exact hw
      subst ew
      rw [hws]
      have hs2 := joined2 hws
      refine EvP.succ ?_
      simp only [impl_InsRead.l0]
      show EvP (fun k => if (0 : Int) < 1 then (if (0 : Int) ≤ 0 then (if (0 : Int) < 1 then ((impl_decimal.f k x).bind fun bt246 => (if bt246.2 = true then (if (0 : Int) = 0 then (impl_InsRead.l0 k [x] 1 (wrap64 (0 + 1)) w' bt246.1 0) else (impl_InsRead.l0 k [x] 1 (wrap64 (0 + 1)) w' 0 bt246.1)) else (some badIns))) else none) else none) else _) _
      refine EvP.pos (by omega) (EvP.pos (by omega) (EvP.pos (by omega) (EvP.bind (ev_impl_decimal x) (fun t ht => ?_))))
      subst ht
      refine EvP.ite (fun h => EvP.pos rfl ?_) (fun h => EvP.ret _ ?_)
      · obtain ⟨n, rfl, hd⟩ := dec_of h
        rw [hd, e01]
        show EvP (fun k => impl_InsRead.l0 k [dec (n : Int)] 1 1 w' (n : Int) 0) _
        refine (fin [dec (n : Int)] 1 n 0 rfl).mono (fun r hr => ?_)
        rw [hr]
        by_cases ok : insOk w' n 0 = true
        · rw [if_pos ok]
          have hn := (ins_num ok).1
          have ht := (text_words ok).2.1 m
          unfold readIns
          simp only [hws]
          have e3 : l3n (dec (n : Int)) = n := l3n_dec (by omega)
          show _ = if insOk w' (l3n (dec (n : Int))) 0 = true ∧ insText w' (l3n (dec (n : Int))) 0 = s then (w', l3n (dec (n : Int)), 0, true) else badIns
          rw [e3, if_pos ⟨ok, by rw [ht]; exact hs2.symm⟩]
        · rw [if_neg ok]
          refine (no (fun a b h1 h2 h3 _ => ?_)).symm
          have e4 : l3n (dec (n : Int)) = a := by have := h3 (by rw [hws]; simp); rw [hws] at this; exact this
          have hb : b = 0 ∨ True := .inr trivial
          have e5 := wlen a b h1 h2
          rw [hws, if_neg (by omega), if_pos m] at e5
          injection e5 with _ e5
          injection e5 with e5 _
          obtain ⟨⟨a0, a1⟩, b0, b1⟩ := ins_num h1
          rcases l3n_cases (n := n) with e6 | e6
          · rw [e4] at e6
            have hb0 : b = 0 := by
              have hB : (look w' insTab).2.2.1 = 0 := by
                unfold manyOf at m
                split at m
                · omega
                · split at m
                  · assumption
                  · omega
              unfold insOk at h1
              rw [Bool.and_eq_true, Bool.and_eq_true, hB] at h1
              have := of_decide_eq_true h1.2.2
              omega
            rw [e6, hb0] at h1
            exact ok h1
          · omega
      · refine (no (fun a b h1 h2 _ _ => ?_)).symm
        have e5 := wlen a b h1 h2
        rw [hws, if_neg (by omega), if_pos m] at e5
        injection e5 with _ e5
        injection e5 with e5 _
        obtain ⟨⟨a0, a1⟩, b0, b1⟩ := ins_num h1
        have hd := decn_dec (n := a.toNat) (by omega)
        have ea : ((a.toNat : Nat) : Int) = a := by omega
        rw [ea, ← e5] at hd
        rw [hd] at h
        exact h rfl
    · -- two numbers
      rw [m] at hl
      obtain ⟨w', x, y, hws⟩ : ∃ w' x y, wordsOf s = [w', x, y] := list_three _ (by omega)
      have ew : w' = w := by rw [hws] at hw; exact hw
      subst ew
      rw [hws]
      have hs3 := joined3 hws
      have badx : ∀ a b, insOk w' a b = true → insText w' a b = s → (decn x).2 = true ∧ (decn y).2 = true := by
        intro a b h1 h2
        have e5 := wlen a b h1 h2
        rw [hws, if_neg (by omega), if_neg (by omega)] at e5
        injection e5 with _ e5
        injection e5 with e5 e6
        injection e6 with e6 _
        obtain ⟨⟨a0, a1⟩, b0, b1⟩ := ins_num h1
        have hd := decn_dec (n := a.toNat) (by omega)
        have ea : ((a.toNat : Nat) : Int) = a := by omega
        have hd2 := decn_dec (n := b.toNat) (by omega)
        have eb : ((b.toNat : Nat) : Int) = b := by omega
        rw [ea, ← e5] at hd
        rw [eb, ← e6] at hd2
        rw [hd, hd2]
        exact ⟨rfl, rfl⟩
      refine EvP.succ ?_
      simp only [impl_InsRead.l0]
      show EvP (fun k => if (0 : Int) < 2 then (if (0 : Int) ≤ 0 then (if (0 : Int) < 2 then ((impl_decimal.f k x).bind fun bt246 => (if bt246.2 = true then (if (0 : Int) = 0 then (impl_InsRead.l0 k [x, y] 2 (wrap64 (0 + 1)) w' bt246.1 0) else (impl_InsRead.l0 k [x, y] 2 (wrap64 (0 + 1)) w' 0 bt246.1)) else (some badIns))) else none) else none) else _) _
      refine EvP.pos (by omega) (EvP.pos (by omega) (EvP.pos (by omega) (EvP.bind (ev_impl_decimal x) (fun t ht => ?_))))
      subst ht
      refine EvP.ite (fun h => EvP.pos rfl ?_) (fun h => EvP.ret _ (no (fun a b h1 h2 _ _ => h (badx a b h1 h2).1)).symm)
      obtain ⟨n, rfl, hd⟩ := dec_of h
      rw [hd, e01]
      show EvP (fun k => impl_InsRead.l0 k [dec (n : Int), y] 2 1 w' (n : Int) 0) _
      refine EvP.succ ?_
      simp only [impl_InsRead.l0]
      show EvP (fun k => if (1 : Int) < 2 then (if (0 : Int) ≤ 1 then (if (1 : Int) < 2 then ((impl_decimal.f k y).bind fun bt246 => (if bt246.2 = true then (if (1 : Int) = 0 then (impl_InsRead.l0 k [dec (n : Int), y] 2 (wrap64 (1 + 1)) w' bt246.1 0) else (impl_InsRead.l0 k [dec (n : Int), y] 2 (wrap64 (1 + 1)) w' n bt246.1)) else (some badIns))) else none) else none) else _) _
      refine EvP.pos (by omega) (EvP.pos (by omega) (EvP.pos (by omega) (EvP.bind (ev_impl_decimal y) (fun t ht => ?_))))
      subst ht
      refine EvP.ite (fun h => EvP.neg (by omega) ?_) (fun h => EvP.ret _ (no (fun a b h1 h2 _ _ => h (badx a b h1 h2).2)).symm)
      obtain ⟨q, rfl, hd2⟩ := dec_of h
      rw [hd2, e12]
      show EvP (fun k => impl_InsRead.l0 k [dec (n : Int), dec (q : Int)] 2 2 w' (n : Int) (q : Int)) _
      refine (fin [dec (n : Int), dec (q : Int)] 2 n q rfl).mono (fun r hr => ?_)
      rw [hr]
      by_cases ok : insOk w' n q = true
      · rw [if_pos ok]
        obtain ⟨hn, hq⟩ := ins_num ok
        have ht := (text_words ok).2.2 m
        unfold readIns
        simp only [hws]
        have e3 : l3n (dec (n : Int)) = n := l3n_dec (by omega)
        have e4 : l3n (dec (q : Int)) = q := l3n_dec (by omega)
        show _ = if insOk w' (l3n (dec (n : Int))) (l3n (dec (q : Int))) = true ∧ insText w' (l3n (dec (n : Int))) (l3n (dec (q : Int))) = s then (w', l3n (dec (n : Int)), l3n (dec (q : Int)), true) else badIns
        rw [e3, e4, if_pos ⟨ok, by rw [ht]; exact hs3.symm⟩]
      · rw [if_neg ok]
        refine (no (fun a b h1 h2 h3 h4 => ?_)).symm
        have e4 : l3n (dec (n : Int)) = a := by have := h3 (by rw [hws]; simp); rw [hws] at this; exact this
        have e5 : l3n (dec (q : Int)) = b := by have := h4 (by rw [hws]; simp); rw [hws] at this; exact this
        obtain ⟨⟨a0, a1⟩, b0, b1⟩ := ins_num h1
        rcases l3n_cases (n := n) with e6 | e6
        · rcases l3n_cases (n := q) with e7 | e7
          · rw [← e4, ← e5, e6, e7] at h1
            exact ok h1
          · omega
        · omega
  · have e2 : (((wordsOf s).length : Int) != ((1 + manyOf w : Nat) : Int)) = true := by
      rw [bne_iff_ne]
      omega
    rw [e2]
    refine bad.mono (fun r hr => ?_)
    rw [hr, no (fun a b h1 h2 _ _ => ?_)]
    have e5 := congrArg List.length (wlen a b h1 h2)
    rcases hm with m | m | m
    · rw [m] at hl e5
      exact hl (by simpa using e5)
    · rw [m] at hl e5
      exact hl (by simpa using e5)
    · rw [m] at hl e5
      exact hl (by simpa using e5)

theorem read_ok {s : ByteArray} (h : (readIns s).2.2.2 = true) : insOk (readIns s).1 (readIns s).2.1 (readIns s).2.2.1 = true ∧ insText (readIns s).1 (readIns s).2.1 (readIns s).2.2.1 = s := by
  unfold readIns at h ⊢
  simp only at h ⊢
  generalize (if (wordsOf s).length > 1 then l3n ((wordsOf s).getD 1 ByteArray.empty) else 0) = a at h ⊢
  generalize (if (wordsOf s).length > 2 then l3n ((wordsOf s).getD 2 ByteArray.empty) else 0) = b at h ⊢
  generalize (wordsOf s).getD 0 ByteArray.empty = w at h ⊢
  by_cases hc : insOk w a b = true ∧ insText w a b = s
  · rw [if_pos hc]
    exact hc
  · rw [if_neg hc] at h
    cases h

theorem text_small (w : ByteArray) (a b : Int) : (insText w a b).size ≤ 40 := by
  by_cases h : insOk w a b = true
  · exact text_size h
  · unfold insText
    rw [if_neg h]
    decide

theorem FnInsRead : laws_FnInsRead.Pure := by
  intro l _ _ hw
  refine EvP.rounds ?_
  unfold laws_FnInsRead.f
  refine EvP.ite (fun _ => EvP.ret _ rfl) (fun _ => ?_)
  obtain ⟨s, ho, hs⟩ := eq_open l (gCode_wf hw)
  have hd : EvP (fun k => spec_DrawInsRead.f k l) (fun r => r.size ≤ 1000) := by
    have j0 : ∀ (q : Int) (t : ByteArray), 0 ≤ q → q ≤ 500 → t.size ≤ 100 → EvP (fun k => spec_DrawInsRead.j0 k t s q) (fun r => r.size ≤ 1000) := by
      intro q t h1 h2 h3
      refine EvP.succ ?_
      simp only [spec_DrawInsRead.j0]
      refine EvP.bind (ev_pick s hs q 8 (by omega) (by omega) (by omega) (by omega)) (fun r hr => EvP.ite (fun _ => ?_) (fun _ => EvP.ret _ (by omega)))
      refine EvP.bind (ev_of s hs r.2 _ (by omega) (by omega) (by simp) (by simp)) (fun u hu => EvP.ret _ ?_)
      have := hu.1
      simp only [List.mem_cons, List.not_mem_nil, or_false] at this
      rcases this with e | e | e | e | e | e | e | e <;> (rw [e]; decide)
    unfold spec_DrawInsRead.f
    refine EvP.call ho (EvP.bind (ev_l91Ins s hs 0 (by omega) (by omega)) (fun i hi => ?_))
    refine EvP.bind (ev_spec_InsText i.1 (by omega) _ _) (fun t ht => ?_)
    have hz := text_small i.1 i.2.1 i.2.2.1
    rw [← ht] at hz
    refine EvP.bind (ev_pick s hs i.2.2.2 4 (by omega) (by omega) (by omega) (by omega)) (fun r hr => EvP.ite (fun _ => ?_) (fun _ => j0 _ _ (by omega) (by omega) (by omega)))
    refine EvP.bind (ev_of s hs r.2 _ (by omega) (by omega) (by simp) (by simp)) (fun u hu => ?_)
    have hu1 : u.1.size ≤ 2 := by
      have := hu.1
      simp only [List.mem_cons, List.not_mem_nil, or_false] at this
      rcases this with e | e | e | e <;> (rw [e]; decide)
    exact EvP.pos (by omega) (j0 _ _ (by omega) (by omega) (by rw [ByteArray.size_append]; omega))
  refine EvP.bind hd (fun t ht => ?_)
  refine EvP.bind (ev_impl_InsRead t (by omega)) (fun u hu => ?_)
  refine EvP.bind (ev_spec_InsRead t) (fun v hv => ?_)
  subst hu
  subst hv
  refine EvP.neg (by simp) (EvP.succ ?_)
  simp only [laws_FnInsRead.j0]
  refine EvP.neg (by simp) (EvP.ite (fun h => ?_) (fun _ => EvP.ret _ rfl))
  obtain ⟨r1, r2⟩ := read_ok h
  refine EvP.bind (ev_impl_InsOk _ _ _) (fun y hy => EvP.pos (by rw [hy, r1]) ?_)
  have hz := (word_plain (insOk_word r1)).1
  refine EvP.bind (ev_impl_InsText _ (by omega) _ _) (fun z hz2 => EvP.ret _ ?_)
  rw [hz2, r2]
  simp


end Go.Proofs.YtfkhjnmgaadomaaDoor.Pure
