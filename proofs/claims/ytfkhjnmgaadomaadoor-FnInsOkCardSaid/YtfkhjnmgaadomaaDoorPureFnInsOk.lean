/- For every code: the program and the reference tell the same of the instruction that is drawn from it, and it is one just if it has a text. -/
import Derived.Test.YtfkhjnmgaadomaaDoorOFnInsOkx1
import Derived.Test.YtfkhjnmgaadomaaDoorOFnInsOkx2
import Derived.Test.YtfkhjnmgaadomaaDoorOFnInsOkx3
import Derived.Test.YtfkhjnmgaadomaaDoorBase
namespace Go.Proofs.YtfkhjnmgaadomaaDoor.Pure
open Go.RowKit Go.Proofs.YtfkhjnmgaadomaaDoor.OFnInsOk Go.Proofs.YtfkhjnmgaadomaaDoorW.PrintWords Go.Proofs.YtfkhjnmgaadomaaDoorW.PrintLast Go.Proofs.YtfkhjnmgaadomaaDoorW.PrintMore Go.Proofs.YtfkhjnmgaadomaaDoor.Base
set_option linter.unusedVariables false
set_option linter.unusedSimpArgs false

theorem list_size (s : ByteArray) : s.toList.length = s.size := by
  rw [ByteArray.toList_eq, Array.length_toList]
  rfl

/-- The bytes that a reader draws from. -/
def gBy (s : List Int) : Prop := s.length ≤ 2000 ∧ ∀ x ∈ s, 0 ≤ x ∧ x ≤ 255

theorem rd_by {s : List Int} (h : gBy s) (i : Int) : 0 ≤ rd s i ∧ rd s i ≤ 255 := by
  unfold rd
  rw [List.getD_eq_getElem?_getD]
  cases e : s[i.toNat]? with
  | none => simp
  | some v => simpa using h.2 v (List.mem_of_getElem? e)

theorem xor_pos {x y : Int} (hx : 0 ≤ x) (hx2 : x < 4611686018427387904) (hy : 0 ≤ y) (hy2 : y < 4611686018427387904) : 0 ≤ Go.bits .xor .i64 x y := by
  have hw : ∀ n : Nat, n < 4611686018427387904 → 0 ≤ IntKind.wrap .i64 (n : Int) := by
    intro n hn
    have e : IntKind.wrap .i64 (n : Int) = wrap64 (n : Int) := i64_w _
    rw [e, w64 (by omega) (by omega)]
    omega
  unfold Go.bits
  refine hw _ ?_
  show ((BitVec.ofInt 64 x) ^^^ (BitVec.ofInt 64 y)).toNat < 4611686018427387904
  rw [BitVec.toNat_xor]
  have h1 : (BitVec.ofInt 64 x).toNat < 2 ^ 62 := by
    rw [BitVec.toNat_ofInt]
    omega
  have h2 : (BitVec.ofInt 64 y).toNat < 2 ^ 62 := by
    rw [BitVec.toNat_ofInt]
    omega
  exact Nat.xor_lt_two_pow h1 h2

theorem tmod_in {x n : Int} (hx : 0 ≤ x) (hn : 1 ≤ n) : 0 ≤ Int.tmod x n ∧ Int.tmod x n < n := ⟨Int.tmod_nonneg _ hx, Int.tmod_lt_of_pos _ (by omega)⟩

theorem ev_pick (s : List Int) (hs : gBy s) (p n : Int) (hp : 0 ≤ p) (hp2 : p ≤ 1000000) (hn : 1 ≤ n) (hn2 : n ≤ 1000000) : EvP (fun k => spec_l6Rd_pick.f k s p n) (fun r => 0 ≤ r.1 ∧ r.1 < n ∧ r.2 = p + 1) := by
  unfold spec_l6Rd_pick.f
  have w1 : wrap64 (p + 1) = p + 1 := w64 (by omega) (by omega)
  rw [w1]
  refine EvP.neg (by omega) (EvP.succ ?_)
  simp only [spec_l6Rd_pick.j0]
  have w2 : wrap64 (p + 1 - 1) = p := by rw [w64 (by omega) (by omega)]; omega
  rw [w2]
  refine EvP.ite (fun h => EvP.ret _ ⟨by omega, by show (0 : Int) < n; omega, rfl⟩) (fun h => ?_)
  have hl : (s.length : Int) ≠ 0 := by simpa using h
  have hl1 : 1 ≤ (s.length : Int) := by omega
  have hl2 : (s.length : Int) ≤ 2000 := by have := hs.1; omega
  refine EvP.ite (fun h1 => EvP.pos hp (EvP.neg (by omega) (EvP.ret _ ?_))) (fun h1 => ?_)
  · obtain ⟨h2, h3⟩ := rd_by hs p
    rw [w64 (n := rd s p) (by omega) (by omega)]
    exact ⟨(tmod_in h2 hn).1, (tmod_in h2 hn).2, rfl⟩
  · have w3 : wrap64 (p * 7) = p * 7 := w64 (by omega) (by omega)
    have w4 : wrap64 (p * 7 + 3) = p * 7 + 3 := w64 (by omega) (by omega)
    simp only [w3, w4]
    refine EvP.neg hl (EvP.pos (tmod_in hp hl1).1 (EvP.pos (tmod_in hp hl1).2 (EvP.pos (tmod_in (by omega) hl1).1 (EvP.pos (tmod_in (by omega) hl1).2 (EvP.neg (by omega) (EvP.ret _ ?_))))))
    refine ⟨?_, ?_, rfl⟩
    all_goals
      obtain ⟨a0, a1⟩ := rd_by hs (Int.tmod p (s.length : Int))
      obtain ⟨b0, b1⟩ := rd_by hs (Int.tmod (p * 7 + 3) (s.length : Int))
      generalize rd s (Int.tmod p (s.length : Int)) = a at a0 a1
      generalize rd s (Int.tmod (p * 7 + 3) (s.length : Int)) = b at b0 b1
      have q0 : 0 ≤ Int.tdiv p (s.length : Int) := Int.tdiv_nonneg hp (by omega)
      have q1 : Int.tdiv p (s.length : Int) ≤ p := Int.tdiv_le_self _ hp
      generalize Int.tdiv p (s.length : Int) = q at q0 q1
      have e1 : wrap64 a = a := w64 (by omega) (by omega)
      have e2 : wrap64 (a * 131) = a * 131 := w64 (by omega) (by omega)
      have e3 : wrap64 b = b := w64 (by omega) (by omega)
      have e4 : wrap64 (b * 1117) = b * 1117 := w64 (by omega) (by omega)
      have e5 : wrap64 (a * 131 + b * 1117) = a * 131 + b * 1117 := w64 (by omega) (by omega)
      have e6 : wrap64 (p * 29) = p * 29 := w64 (by omega) (by omega)
      have e7 : wrap64 (a * 131 + b * 1117 + p * 29) = a * 131 + b * 1117 + p * 29 := w64 (by omega) (by omega)
      have e8 : wrap64 q = q := w64 (by omega) (by omega)
      have e9 : wrap64 (q * 53) = q * 53 := w64 (by omega) (by omega)
      have e10 : wrap64 (a * 131 + b * 1117 + p * 29 + q * 53) = a * 131 + b * 1117 + p * 29 + q * 53 := w64 (by omega) (by omega)
      simp only [e1, e2, e3, e4, e5, e6, e7, e8, e9, e10]
      have x0 : 0 ≤ a * 131 + b * 1117 + p * 29 + q * 53 := by omega
      have x1 : a * 131 + b * 1117 + p * 29 + q * 53 ≤ 1000000000 := by omega
      generalize a * 131 + b * 1117 + p * 29 + q * 53 = X at x0 x1
      have y0 : 0 ≤ Int.tdiv X 64 := Int.tdiv_nonneg x0 (by omega)
      have y1 : Int.tdiv X 64 ≤ X := Int.tdiv_le_self _ x0
      generalize Int.tdiv X 64 = Y at y0 y1
      have e11 : wrap64 Y = Y := w64 (by omega) (by omega)
      rw [e11]
      have z := xor_pos (x := X) (y := Y) x0 (by omega) y0 (by omega)
    · exact (tmod_in z hn).1
    · exact (tmod_in z hn).2

theorem ev_of (s : List Int) (hs : gBy s) (p : Int) (l : List ByteArray) (hp : 0 ≤ p) (hp2 : p ≤ 1000000) (hn : 1 ≤ l.length) (hn2 : l.length ≤ 1000000) : EvP (fun k => spec_l6Rd_of.f k s p l) (fun r => r.1 ∈ l ∧ r.2 = p + 1) := by
  unfold spec_l6Rd_of.f
  refine EvP.bind (ev_pick s hs p l.length hp hp2 (by omega) (by omega)) (fun r hr => ?_)
  refine EvP.pos hr.1 (EvP.pos hr.2.1 (EvP.ret _ ⟨?_, hr.2.2⟩))
  show l.getD r.1.toNat _ ∈ l
  have h : r.1.toNat < l.length := by omega
  rw [List.getD_eq_getElem?_getD, List.getElem?_eq_getElem h]
  exact List.getElem_mem h

theorem ev_num (s : List Int) (hs : gBy s) (p : Int) (l : List Int) (hp : 0 ≤ p) (hp2 : p ≤ 1000000) (hn : 1 ≤ l.length) (hn2 : l.length ≤ 1000000) : EvP (fun k => spec_l91Num.f k s p l) (fun r => r.1 ∈ l ∧ r.2 = p + 1) := by
  unfold spec_l91Num.f
  refine EvP.bind (ev_pick s hs p l.length hp hp2 (by omega) (by omega)) (fun r hr => ?_)
  refine EvP.pos hr.1 (EvP.pos hr.2.1 (EvP.ret _ ⟨?_, hr.2.2⟩))
  show l.getD r.1.toNat _ ∈ l
  have h : r.1.toNat < l.length := by omega
  rw [List.getD_eq_getElem?_getD, List.getElem?_eq_getElem h]
  exact List.getElem_mem h

/-- A law's code, as its reading grants it. -/
def gCode (l : List Int) : Prop := ∀ x ∈ l, 0 ≤ x ∧ x ≤ 255

theorem gCode_wf {l : List Int} (h : ∀ x ∈ l, (Lit.int .u8 x).wf = true) : gCode l := by
  intro x hx
  have := h x hx
  simp [Lit.wf] at this
  have h1 : IntKind.u8.min = 0 := by decide
  have h2 : IntKind.u8.max = 255 := by decide
  omega

theorem eq_open (l : List Int) (h : gCode l) : ∃ s, spec_l6Open.f l = some (s, 0) ∧ gBy s := by
  unfold spec_l6Open.f
  by_cases hc : (l.length : Int) > 2000
  · rw [if_pos hc, if_pos (by omega)]
    exact ⟨_, rfl, by simp; omega, fun x hx => h x (List.mem_of_mem_take hx)⟩
  · rw [if_neg hc]
    exact ⟨l, rfl, by omega, h⟩

abbrev Tri := ByteArray × Int × Int

/-- The row of a word in a table. -/
def look (w : ByteArray) : List Tri → ByteArray × Int × Int × Bool
  | [] => (⟨#[]⟩, 0, 0, false)
  | x :: xs => if x.1.toList = w.toList then (x.1, x.2.1, x.2.2, true) else look w xs

def triF (x : S46) : Tri := (x.f0, x.f1, x.f2)

def triI (x : S26) : Tri := (x.f0, x.f1, x.f2)

/-- The table of the instructions. -/
def insTab : List Tri := match spec_l3Table.f with | some t => t.map triI | none => []

theorem insTab_ok : insTab.all (fun x => decide (0 ≤ x.2.1 ∧ x.2.1 ≤ 1000001 ∧ 0 ≤ x.2.2 ∧ x.2.2 ≤ 1000001)) = true := by decide +kernel

theorem look_in (w : ByteArray) : ∀ T : List Tri, T.all (fun x => decide (0 ≤ x.2.1 ∧ x.2.1 ≤ 1000001 ∧ 0 ≤ x.2.2 ∧ x.2.2 ≤ 1000001)) = true → 0 ≤ (look w T).2.1 ∧ (look w T).2.1 ≤ 1000001 ∧ 0 ≤ (look w T).2.2.1 ∧ (look w T).2.2.1 ≤ 1000001
  | [], _ => by unfold look; simp
  | x :: xs, h => by
    rw [List.all_cons, Bool.and_eq_true] at h
    unfold look
    split
    · exact of_decide_eq_true h.1
    · exact look_in w xs h.2

def insForms : List S46 := insTab.map fun x => ⟨x.1, x.2.1, x.2.2⟩

theorem forms_eq (k : Nat) : impl_insForms.f (k + 60) = some insForms := by kernel_rfl

theorem ev_impl_insForms : EvP (fun k => impl_insForms.f k) (· = insForms) := ⟨insForms, ⟨60, fun k hk => by
  obtain ⟨d, rfl⟩ := Nat.exists_eq_add_of_le' hk
  exact forms_eq d⟩, rfl⟩

theorem ev_impl_formOf (w : ByteArray) : EvP (fun k => impl_formOf.f k w) (· = look w insTab) := by
  have loop : ∀ xs : List S46, xs.length ≤ 1000 → EvP (fun k => impl_formOf.l0 k w xs (xs.length : Int) 0) (· = look w (xs.map triF)) := by
    intro xs hl
    have key : ∀ i, i ≤ xs.length → EvP (fun k => impl_formOf.l0 k w xs (xs.length : Int) i) (· = look w ((xs.drop i).map triF)) := by
      refine upInd ?_ ?_
      · refine EvP.succ ?_
        simp only [impl_formOf.l0]
        exact EvP.neg (by omega) (EvP.ret _ (by rw [List.drop_length]; rfl))
      · intro i hi ih
        refine EvP.succ ?_
        simp only [impl_formOf.l0]
        have e : rd_T46 xs (i : Int) = xs[i] := getDn hi
        rw [e, w64s hi (by omega), List.drop_eq_getElem_cons hi, List.map_cons, look]
        refine EvP.pos (by omega) (EvP.pos (by omega) (EvP.pos (by omega) (EvP.ite (fun h => EvP.ret _ ?_) (fun h => ih.mono (fun r hr => ?_)))))
        · exact (if_pos h).symm
        · rw [hr]
          exact (if_neg h).symm
    exact (key 0 (by omega)).mono (fun r hr => by rw [hr, List.drop_zero])
  unfold impl_formOf.f
  refine EvP.bind ev_impl_insForms (fun t ht => ?_)
  subst ht
  have hl : insForms.length ≤ 1000 := by decide +kernel
  have e : insForms.map triF = insTab := by
    unfold insForms
    rw [List.map_map]
    exact List.map_id _
  rw [← e]
  exact loop insForms hl

theorem ev_spec_l3Needs (w : ByteArray) : EvP (fun k => spec_l3Needs.f k w) (· = look w insTab) := by
  have loop : ∀ xs : List S26, xs.length ≤ 1000 → EvP (fun k => spec_l3Needs.l0 k w xs 0) (· = look w (xs.map triI)) := by
    intro xs hl
    have key : ∀ i, i ≤ xs.length → EvP (fun k => spec_l3Needs.l0 k w xs i) (· = look w ((xs.drop i).map triI)) := by
      refine upInd ?_ ?_
      · refine EvP.succ ?_
        simp only [spec_l3Needs.l0]
        exact EvP.neg (by omega) (EvP.ret _ (by rw [List.drop_length]; rfl))
      · intro i hi ih
        refine EvP.succ ?_
        simp only [spec_l3Needs.l0]
        have e : rd_T26 xs (i : Int) = xs[i] := getDn hi
        rw [e, w64s hi (by omega), List.drop_eq_getElem_cons hi, List.map_cons, look]
        refine EvP.pos (by omega) (EvP.pos (by omega) (EvP.ite (fun h => EvP.ret _ ?_) (fun h => ih.mono (fun r hr => ?_))))
        · exact (if_pos h).symm
        · rw [hr]
          exact (if_neg h).symm
    exact (key 0 (by omega)).mono (fun r hr => by rw [hr, List.drop_zero])
  unfold spec_l3Needs.f
  have ht : ∃ T, spec_l3Table.f = some T ∧ T.length ≤ 1000 := ⟨_, rfl, by decide +kernel⟩
  obtain ⟨T, ht, hl⟩ := ht
  have hi : insTab = T.map triI := by unfold insTab; rw [ht]
  rw [hi]
  exact EvP.call ht (loop T hl)

/-- A number is below a limit, or 0 if there is none. -/
def lim (l n : Int) : Bool := decide (n = 0 ∨ (0 < n ∧ n < l))

def insOk (w : ByteArray) (a b : Int) : Bool := (look w insTab).2.2.2 && (lim (look w insTab).2.1 a && lim (look w insTab).2.2.1 b)

theorem eq_impl_limitOk (l n : Int) : impl_limitOk.f l n = some (lim l n) := by
  unfold impl_limitOk.f lim
  by_cases h : n = 0
  · rw [if_pos h, decide_eq_true (.inl h)]
  · rw [if_neg h]
    by_cases h2 : n > 0
    · rw [if_pos h2]
      congr 1
      rw [decide_eq_decide]
      omega
    · rw [if_neg h2, decide_eq_false (by omega)]

theorem eq_spec_l3Fits (n l : Int) (h0 : 0 ≤ l) (h1 : l ≤ 1000001) : spec_l3Fits.f n l = some (lim l n) := by
  unfold spec_l3Fits.f lim spec_l6In.f
  by_cases h : l = 0
  · rw [if_pos h]
    congr 1
    rw [Bool.eq_iff_iff, beq_iff_eq, decide_eq_true_iff]
    omega
  · rw [if_neg h, w64 (by omega) (by omega)]
    by_cases h2 : n ≥ 0
    · rw [if_pos h2]
      simp only [Option.bind_some]
      congr 1
      rw [decide_eq_decide]
      omega
    · rw [if_neg h2, decide_eq_false (by omega)]
      rfl

theorem ev_impl_InsOk (w : ByteArray) (a b : Int) : EvP (fun k => impl_InsOk.f k w a b) (· = insOk w a b) := by
  unfold impl_InsOk.f insOk
  refine EvP.bind (ev_impl_formOf w) (fun t ht => ?_)
  subst ht
  refine EvP.ite (fun h => EvP.call (eq_impl_limitOk _ _) (EvP.ite (fun h2 => EvP.call (eq_impl_limitOk _ _) (EvP.ret _ ?_)) (fun h2 => EvP.ret _ ?_))) (fun h => EvP.ret _ ?_)
  · rw [h, h2, Bool.true_and, Bool.true_and]
  · rw [Bool.not_eq_true] at h2
    rw [h, h2, Bool.true_and, Bool.false_and]
  · rw [Bool.not_eq_true] at h
    rw [h, Bool.false_and]

theorem ev_spec_InsOk (w : ByteArray) (a b : Int) : EvP (fun k => spec_InsOk.f k w a b) (· = insOk w a b) := by
  unfold spec_InsOk.f insOk
  obtain ⟨r0, r1, r2, r3⟩ := look_in w insTab insTab_ok
  refine EvP.bind (ev_spec_l3Needs w) (fun t ht => ?_)
  subst ht
  refine EvP.ite (fun h => EvP.call (eq_spec_l3Fits _ _ r0 r1) (EvP.ite (fun h2 => EvP.call (eq_spec_l3Fits _ _ r2 r3) (EvP.ret _ ?_)) (fun h2 => EvP.ret _ ?_))) (fun h => EvP.ret _ ?_)
  · rw [h, h2, Bool.true_and, Bool.true_and]
  · rw [Bool.not_eq_true] at h2
    rw [h, h2, Bool.true_and, Bool.false_and]
  · rw [Bool.not_eq_true] at h
    rw [h, Bool.false_and]

/-- A number's text. -/
def dec (n : Int) : ByteArray := ⟨(Lib.itoa n).toArray⟩

theorem dec_small {n : Nat} (h : n < 10) : dec (n : Int) = strOfNums [(wrap64 (48 + (n : Int))) % 256] := by
  unfold dec Lib.itoa
  rw [if_neg (by omega), Int.toNat_natCast, Lib.decDigits, dif_pos h]
  have h2 : n = 0 ∨ n = 1 ∨ n = 2 ∨ n = 3 ∨ n = 4 ∨ n = 5 ∨ n = 6 ∨ n = 7 ∨ n = 8 ∨ n = 9 := by omega
  rcases h2 with e | e | e | e | e | e | e | e | e | e <;> subst e <;> simp [strOfNums, wrap64]

theorem dec_step {n : Nat} (h : ¬ n < 10) : dec (n : Int) = dec ((n / 10 : Nat) : Int) ++ dec ((n % 10 : Nat) : Int) := by
  have h1 : Lib.decDigits (n % 10) = [UInt8.ofNat (48 + n % 10)] := by rw [Lib.decDigits, dif_pos (by omega)]
  unfold dec Lib.itoa
  rw [if_neg (by omega), if_neg (by omega), if_neg (by omega), Int.toNat_natCast, Int.toNat_natCast, Int.toNat_natCast, h1, Lib.decDigits, dif_neg h]
  apply ByteArray.ext
  simp

theorem dec_size : ∀ n : Nat, (dec (n : Int)).size ≤ n + 1 := by
  intro n
  induction n using Nat.strongRecOn with
  | _ n ih =>
    by_cases h : n < 10
    · rw [dec_small h]
      have : (strOfNums [(wrap64 (48 + (n : Int))) % 256]).size = 1 := rfl
      omega
    · rw [dec_step h, ByteArray.size_append]
      have h1 := ih (n / 10) (by omega)
      have h2 : (dec ((n % 10 : Nat) : Int)).size = 1 := by rw [dec_small (by omega)]; rfl
      omega

/-- An instruction's text. -/
def insText (w : ByteArray) (a b : Int) : ByteArray :=
  if insOk w a b = true then (if (look w insTab).2.1 = 0 then w else if (look w insTab).2.2.1 = 0 then w ++ ((⟨#[32]⟩ : ByteArray) ++ dec a) else (w ++ ((⟨#[32]⟩ : ByteArray) ++ dec a)) ++ ((⟨#[32]⟩ : ByteArray) ++ dec b)) else ⟨#[]⟩

theorem lim_num {l n : Int} (h : lim l n = true) (h1 : l ≤ 1000001) (h0 : 0 ≤ l) : 0 ≤ n ∧ n ≤ 1000001 := by
  have := of_decide_eq_true h
  omega
theorem ins_num {w : ByteArray} {a b : Int} (h : insOk w a b = true) : (0 ≤ a ∧ a ≤ 1000001) ∧ 0 ≤ b ∧ b ≤ 1000001 := by
  obtain ⟨r0, r1, r2, r3⟩ := look_in w insTab insTab_ok
  unfold insOk at h
  rw [Bool.and_eq_true, Bool.and_eq_true] at h
  exact ⟨lim_num h.2.1 r1 r0, lim_num h.2.2 r3 r2⟩

theorem eq_itoa {a : Int} (h0 : 0 ≤ a) (h1 : a ≤ 1000001) : strconv_Itoa.f a = some (dec a) := by
  unfold strconv_Itoa.f
  rw [if_pos (by omega)]
  rfl

theorem ev_impl_InsText (w : ByteArray) (hw : w.size ≤ 2000000) (a b : Int) : EvP (fun k => impl_InsText.f k w a b) (· = insText w a b) := by
  unfold impl_InsText.f insText
  refine EvP.bind (ev_impl_InsOk w a b) (fun t ht => ?_)
  subst ht
  refine EvP.ite (fun h => ?_) (fun h => EvP.ret _ (by rw [if_neg h]))
  rw [if_pos h]
  obtain ⟨⟨a0, a1⟩, b0, b1⟩ := ins_num h
  obtain ⟨r0, r1, r2, r3⟩ := look_in w insTab insTab_ok
  have sa := dec_size a.toNat
  have sb := dec_size b.toNat
  have ea : ((a.toNat : Nat) : Int) = a := by omega
  have eb : ((b.toNat : Nat) : Int) = b := by omega
  rw [ea] at sa
  rw [eb] at sb
  have s1 : ((⟨#[32]⟩ : ByteArray) ++ dec a).size = 1 + (dec a).size := by rw [ByteArray.size_append]; rfl
  have s2 : ((⟨#[32]⟩ : ByteArray) ++ dec b).size = 1 + (dec b).size := by rw [ByteArray.size_append]; rfl
  have ht : EvP (fun k => impl_insText.f k w a b) (· = (if (look w insTab).2.1 = 0 then w else if (look w insTab).2.2.1 = 0 then w ++ ((⟨#[32]⟩ : ByteArray) ++ dec a) else (w ++ ((⟨#[32]⟩ : ByteArray) ++ dec a)) ++ ((⟨#[32]⟩ : ByteArray) ++ dec b))) := by
    unfold impl_insText.f
    refine EvP.bind (ev_impl_formOf w) (fun t ht => ?_)
    subst ht
    have many : impl_insForm_many.f (look w insTab).1 (look w insTab).2.1 (look w insTab).2.2.1 = some (if (look w insTab).2.1 = 0 then 0 else if (look w insTab).2.2.1 = 0 then 1 else 2) := by
      unfold impl_insForm_many.f
      by_cases h1 : (look w insTab).2.1 = 0
      · rw [if_pos h1, if_pos h1]
      · rw [if_neg h1, if_neg h1]
        by_cases h2 : (look w insTab).2.2.1 = 0
        · rw [if_pos h2, if_pos h2]
        · rw [if_neg h2, if_neg h2]
    refine EvP.call many ?_
    by_cases h1 : (look w insTab).2.1 = 0
    · rw [if_pos h1, if_pos h1]
      refine EvP.neg (by omega) (EvP.succ ?_)
      simp only [impl_insText.j0]
      refine EvP.call many ?_
      rw [if_pos h1]
      exact EvP.neg (by omega) (EvP.ret _ rfl)
    · rw [if_neg h1, if_neg h1]
      refine EvP.pos (by split <;> omega) (EvP.call (eq_itoa a0 a1) (EvP.pos (by omega) (EvP.pos (by omega) (EvP.succ ?_))))
      simp only [impl_insText.j0]
      refine EvP.call many ?_
      rw [if_neg h1]
      by_cases h2 : (look w insTab).2.2.1 = 0
      · rw [if_pos h2, if_pos h2]
        exact EvP.neg (by omega) (EvP.ret _ rfl)
      · rw [if_neg h2, if_neg h2]
        have s3 : (w ++ ((⟨#[32]⟩ : ByteArray) ++ dec a)).size = w.size + (1 + (dec a).size) := by rw [ByteArray.size_append, s1]
        exact EvP.pos (by omega) (EvP.call (eq_itoa b0 b1) (EvP.pos (by omega) (EvP.pos (by omega) (EvP.ret _ rfl))))
  exact EvP.bind ht (fun t hq => EvP.ret _ hq)

theorem ev_l91Ins (s : List Int) (hs : gBy s) (p : Int) (hp : 0 ≤ p) (hp2 : p ≤ 900000) : EvP (fun k => spec_l91Ins.f k s p) (fun r => r.1.size ≤ 20 ∧ p ≤ r.2.2.2 ∧ r.2.2.2 ≤ p + 3) := by
  have ht : ∃ T, spec_l3Table.f = some T ∧ T.length = 37 ∧ T.all (fun x => decide (x.f0.size ≤ 20 ∧ 0 ≤ x.f1 ∧ x.f1 ≤ 1000001 ∧ 0 ≤ x.f2 ∧ x.f2 ≤ 1000)) = true := ⟨_, rfl, by decide +kernel, by decide +kernel⟩
  obtain ⟨T, ht, hl, ha⟩ := ht
  unfold spec_l91Ins.f
  refine EvP.call ht (EvP.bind (ev_pick s hs p T.length hp (by omega) (by omega) (by omega)) (fun r hr => ?_))
  refine EvP.pos hr.1 (EvP.pos hr.2.1 ?_)
  have hi : r.1.toNat < T.length := by omega
  have e : rd_T26 T r.1 = T[r.1.toNat] := by
    unfold rd_T26
    rw [List.getD_eq_getElem?_getD, List.getElem?_eq_getElem hi]
    rfl
  have hx := of_decide_eq_true (List.all_eq_true.1 ha _ (List.getElem_mem hi))
  rw [e]
  generalize T[r.1.toNat] = x at hx
  obtain ⟨x1, x2, x3, x4, x5⟩ := hx
  have last : ∀ (q : Int) (a : Int), p ≤ q → q ≤ p + 2 → EvP (fun k => if x.f2 > 0 then ((spec_l6Rd_pick.f k s q x.f2).bind fun bt226 => (some (x.f0, a, bt226.1, bt226.2))) else (some (x.f0, a, x.f2, q))) (fun r => r.1.size ≤ 20 ∧ p ≤ r.2.2.2 ∧ r.2.2.2 ≤ p + 3) := by
    intro q a h1 h2
    refine EvP.ite (fun h => EvP.bind (ev_pick s hs q x.f2 (by omega) (by omega) (by omega) (by omega)) (fun u hu => EvP.ret _ ⟨x1, by show p ≤ u.2; omega, by show u.2 ≤ p + 3; omega⟩)) (fun h => EvP.ret _ ⟨x1, h1, by show q ≤ p + 3; omega⟩)
  refine EvP.ite (fun h => ?_) (fun h => last r.2 x.f1 (by omega) (by omega))
  have hm : 1 ≤ mn x.f1 12 ∧ mn x.f1 12 ≤ 12 := by unfold mn; split <;> omega
  exact EvP.bind (ev_pick s hs r.2 _ (by omega) (by omega) (by omega) (by omega)) (fun u hu => last u.2 u.1 (by omega) (by omega))

theorem look_word (w : ByteArray) : ∀ T : List Tri, T.all (fun x => decide (x.1.size ≠ 0)) = true → (look w T).2.2.2 = true → 0 < w.size
  | [], _, h => by unfold look at h; cases h
  | x :: xs, h, h2 => by
    rw [List.all_cons, Bool.and_eq_true] at h
    unfold look at h2
    split at h2
    · rename_i hc
      have h3 := of_decide_eq_true h.1
      have h4 := congrArg List.length hc
      rw [list_size, list_size] at h4
      omega
    · exact look_word w xs h.2 h2

theorem text_some {w : ByteArray} {a b : Int} (h : insOk w a b = true) : 0 < (insText w a b).size := by
  have h0 : 0 < w.size := by
    unfold insOk at h
    rw [Bool.and_eq_true] at h
    exact look_word w insTab (by decide +kernel) h.1
  unfold insText
  rw [if_pos h]
  split
  · exact h0
  · split
    · rw [ByteArray.size_append]
      omega
    · rw [ByteArray.size_append, ByteArray.size_append]
      omega

theorem FnInsOk : laws_FnInsOk.Pure := by
  intro l _ _ hw
  refine EvP.rounds ?_
  unfold laws_FnInsOk.f
  refine EvP.ite (fun _ => EvP.ret _ rfl) (fun _ => ?_)
  obtain ⟨s, ho, hs⟩ := eq_open l (gCode_wf hw)
  have hd : EvP (fun k => spec_DrawInsOk.f k l) (fun r => r.1.size ≤ 20) := by
    have j1 : ∀ (q : Int) (w : ByteArray) (a b : Int), 0 ≤ q → q ≤ 1000 → w.size ≤ 20 → EvP (fun k => spec_DrawInsOk.j1 k s q w a b) (fun r => r.1.size ≤ 20) := by
      intro q w a b h1 h2 h3
      refine EvP.succ ?_
      simp only [spec_DrawInsOk.j1]
      refine EvP.bind (ev_pick s hs q 15 (by omega) (by omega) (by omega) (by omega)) (fun r hr => EvP.ite (fun _ => ?_) (fun _ => EvP.ret _ h3))
      refine EvP.bind (ev_of s hs r.2 _ (by omega) (by omega) (by simp) (by simp)) (fun u hu => EvP.ret _ ?_)
      have := hu.1
      simp only [List.mem_cons, List.not_mem_nil, or_false] at this
      show u.1.size ≤ 20
      rcases this with e | e | e <;> (rw [e]; decide)
    have j0 : ∀ (q : Int) (w : ByteArray) (a b : Int), 0 ≤ q → q ≤ 500 → w.size ≤ 20 → EvP (fun k => spec_DrawInsOk.j0 k s q w a b) (fun r => r.1.size ≤ 20) := by
      intro q w a b h1 h2 h3
      refine EvP.succ ?_
      simp only [spec_DrawInsOk.j0]
      refine EvP.bind (ev_pick s hs q 6 (by omega) (by omega) (by omega) (by omega)) (fun r hr => EvP.ite (fun _ => ?_) (fun _ => j1 _ _ _ _ (by omega) (by omega) h3))
      exact EvP.bind (ev_num s hs r.2 _ (by omega) (by omega) (by simp) (by simp)) (fun u hu => j1 _ _ _ _ (by omega) (by omega) h3)
    unfold spec_DrawInsOk.f
    refine EvP.call ho (EvP.bind (ev_l91Ins s hs 0 (by omega) (by omega)) (fun i hi => ?_))
    refine EvP.bind (ev_pick s hs i.2.2.2 4 (by omega) (by omega) (by omega) (by omega)) (fun r hr => EvP.ite (fun _ => ?_) (fun _ => j0 _ _ _ _ (by omega) (by omega) hi.1))
    exact EvP.bind (ev_num s hs r.2 _ (by omega) (by omega) (by simp) (by simp)) (fun u hu => j0 _ _ _ _ (by omega) (by omega) hi.1)
  refine EvP.bind hd (fun r hr => ?_)
  refine EvP.bind (ev_impl_InsOk _ _ _) (fun t1 h1 => ?_)
  refine EvP.bind (ev_spec_InsOk _ _ _) (fun t2 h2 => ?_)
  refine EvP.neg (by rw [h1, h2]; simp) ?_
  refine EvP.bind (ev_impl_InsText r.1 (by omega) _ _) (fun t3 h3 => EvP.ret _ ?_)
  rw [h1, h3]
  cases hc : insOk r.1 r.2.1 r.2.2 with
  | true =>
    have h4 := text_some hc
    have h5 : (insText r.1 r.2.1 r.2.2).toList ≠ ([] : List UInt8) := by
      intro h6
      have := congrArg List.length h6
      rw [list_size, List.length_nil] at this
      omega
    simp [h5]
  | false =>
    have h4 : insText r.1 r.2.1 r.2.2 = ⟨#[]⟩ := by
      unfold insText
      rw [if_neg (by rw [hc]; simp)]
    have h5 : (⟨#[]⟩ : ByteArray).toList = ([] : List UInt8) := List.eq_nil_of_length_eq_zero (by rw [list_size]; rfl)
    rw [h4, h5]
    rfl


end Go.Proofs.YtfkhjnmgaadomaaDoor.Pure
