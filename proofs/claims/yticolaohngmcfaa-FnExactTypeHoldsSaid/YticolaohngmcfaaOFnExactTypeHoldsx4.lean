-- Laid by a program of this session (wip/myprint.py): the kit's print of the functions, contracts of our own among them.
import Derived.Test.YticolaohngmcfaaOFnExactTypeHoldsx0
import Derived.Test.YticolaohngmcfaaOFnExactTypeHoldsx3
namespace Go.Proofs.Yticolaohngmcfaa.OFnExactTypeHolds
open Go.RowKit Go.Proofs.YticolaohngmcfaaW.PrintWords Go.Proofs.YticolaohngmcfaaW.PrintLast Go.Proofs.YticolaohngmcfaaW.PrintMore
attribute [local go_sem] max2_int min2_int max_two min_two max_three min_three max_four min_four   -- for this text's walks alone
set_option linter.unusedVariables false
set_option linter.unusedSimpArgs false

/-! ### impl_recordOf: function 72 -/
def impl_recordOf.f (l0 : List (List (S53))) (a1 : ByteArray) : Option (Int × List ByteArray) := (impl_kindAt.f a1).bind fun bt153 => (if 0 ≤ bt153.1 then (if bt153.1 < (l0.length : Int) then (if 0 ≤ bt153.2.1 then (if bt153.2.1 < ((rd_L6 l0 bt153.1).length : Int) then (some ((rd_T53 (rd_L6 l0 bt153.1) bt153.2.1).f0, (rd_T53 (rd_L6 l0 bt153.1) bt153.2.1).f1)) else (none)) else (none)) else (none)) else (none))
set_option maxHeartbeats 8000000 in
set_option maxRecDepth 100000 in
theorem impl_recordOf.calls (P0_ : Nat → Prop) (A0 : Option Addr) (c0 : Nat) (l0 : List (List (S53))) (a1 : ByteArray) (r1 : Int) (r2 : List ByteArray) (w : World) (hs0 : Kd.V (Kd.slice 53 k53) 50 w w.heap.size (fun k_ => P0_ k_) (.slice A0 l0.length c0) l0) (h : impl_recordOf.f l0 a1 = some (r1, r2)) :
    Calls Try.prog 72 #[.slice A0 l0.length c0, .string a1] w fun e w' => ∃ v1_ : Value, e = .returned (.agg #[.int .i64 r1, v1_]) ∧ Kd.V Kd.string 9 w' w.heap.size (fun k_ => (P0_ k_ ∨ w.heap.size ≤ k_)) v1_ r2 ∧ Below w.heap.size w w' := by
  have hu53 := Try.underlying53
  have HO0 := Aside0.mk (show Kd.V (Kd.slice 53 k53) 50 w w.heap.size (fun k_ => (P0_ k_ ∨ w.heap.size ≤ k_)) (.slice A0 l0.length c0) l0 from Kd.V_mono hs0 (fun k_ hk => .inl hk))
  have HB := Aside0.mk (Below.refl w.heap.size w)
  have H : ((impl_kindAt.f a1).bind fun bt153 => (if 0 ≤ bt153.1 then (if bt153.1 < (l0.length : Int) then (if 0 ≤ bt153.2.1 then (if bt153.2.1 < ((rd_L6 l0 bt153.1).length : Int) then (some ((rd_T53 (rd_L6 l0 bt153.1) bt153.2.1).f0, (rd_T53 (rd_L6 l0 bt153.1) bt153.2.1).f1)) else (none)) else (none)) else (none)) else (none))) = some (r1, r2) := h
  clear h
  replace H := Option.bind_eq_some_iff.mp H
  obtain ⟨⟨t153, t154, t155⟩, A30, H⟩ := H
  replace H : (if 0 ≤ t153 then (if t153 < (l0.length : Int) then (if 0 ≤ t154 then (if t154 < ((rd_L6 l0 t153).length : Int) then (some ((rd_T53 (rd_L6 l0 t153) t154).f0, (rd_T53 (rd_L6 l0 t153) t154).f1)) else (none)) else (none)) else (none)) else (none)) = some (r1, r2) := H
  have A3 := Aside0.mk A30
  clear A30
  by_cases c4 : 0 ≤ t153
  · rw [if_pos c4] at H
    have c4b0 : decide (0 ≤ t153) = true := decide_eq_true c4
    clear c4
    by_cases c5 : t153 < (l0.length : Int)
    · rw [if_pos c5] at H
      have c5b0 : decide (t153 < (l0.length : Int)) = true := decide_eq_true c5
      clear c5
      by_cases c6 : 0 ≤ t154
      · rw [if_pos c6] at H
        have c6b0 : decide (0 ≤ t154) = true := decide_eq_true c6
        clear c6
        by_cases c7 : t154 < ((rd_L6 l0 t153).length : Int)
        · rw [if_pos c7] at H
          have c7b0 : decide (t154 < ((rd_L6 l0 t153).length : Int)) = true := decide_eq_true c7
          clear c7
          simp only [Option.some.injEq, Prod.mk.injEq] at H
          obtain ⟨rfl, rfl⟩ := H
          go_enter Try.func72, Try.ntmps72
          go_wp2_with (first | ((with_reducible refine gate_dst (N := 4) rfl ?_); refine box_event ?hg (N := 4) ?hd (cs := #[.int .i64 0, .slice none 0 0]) (t := 53) ?hr ?_; (case hd => rfl); (case hg => rfl); (case hr => first | (go_simp; done) | (go_simp; rfl)); intro gb152 hg w8 hbox hb; have n0_ := Aside0.mk (Kd.V_below (Kd.V_elderB (by (with_reducible repeat (first | apply Kd.V_alloc | apply Kd.V_drewN | apply Kd.V_drew)); exact HO0.out) gb152 (Nat.le_of_eq hg.symm)) hb); have n1_ := Aside0.mk (below_step (by repeat (first | (with_reducible first | exact HB.out | apply below_alloc | apply pw_below_drewN | apply below_drew1) | exact HB.out)) hb); have n2_ := Aside0.mk (hbox); have n3_ := Aside0.mk ((by rw [hg]; exact (below_size (by repeat (first | (with_reducible first | exact HB.out | apply below_alloc | apply pw_below_drewN | apply below_drew1) | exact HB.out))) : w.heap.size ≤ gb152)); have n4_ := Aside0.mk ((by rw [hg]; exact (below_size (by repeat (first | (with_reducible first | exact HB.out | apply below_alloc | apply pw_below_drewN | apply below_drew1) | exact HB.out))) : w.heap.size ≤ gb152)); clear HO0; clear HB; have HO0 := n0_; have HB := n1_; have BK152 := n2_; have GW152 := n3_; have GE152 := n4_; clear n0_ n1_ n2_ n3_ n4_; clear hb hbox hg) | ((with_reducible refine gate_callee (f := 61) rfl ?_); refine goesL_ (some 10) rfl rfl Try.func61 (by kernel_rfl) rfl #[.string a1] rfl (by (try simp only [List.map_toArray, List.map_cons, List.map_nil]); first | done | rfl | (simp only [List.length_drop, List.length_take]; rfl)) ?_; (with_reducible refine (impl_kindAt.calls a1 t153 t154 t155 _ A3.out).mono ?_); rintro e w' ⟨rfl, ⟨nd, rfl⟩⟩; refine ⟨_, rfl, ?_⟩; (try (rw [drewN_self w8]; generalize hq_ : World.drewN w8 _ = w8; have n0_ : Aside0 (Kd.V (Kd.slice 53 k53) 50 w8 w.heap.size (fun k_ => (P0_ k_ ∨ w.heap.size ≤ k_) ∧ k_ ≠ gb152) (.slice A0 l0.length c0) l0) := ⟨by rw [← hq_]; exact (by (with_reducible repeat (first | apply Kd.V_alloc | apply Kd.V_drewN | apply Kd.V_drew)); exact HO0.out)⟩; have n1_ : Aside0 (w8.heap[gb152]? = some (.cells #[.int .i64 0, .slice none 0 0] 53 (0, 0))) := ⟨by rw [← hq_]; exact (by (with_reducible repeat (first | refine blk_drewN ?_ _ | refine blk_drew ?_ | refine blk_alloc ?_ _)); exact BK152.out)⟩; have n2_ : Aside0 (Below w.heap.size w w8) := ⟨by rw [← hq_]; exact (by repeat (first | (with_reducible first | exact HB.out | apply below_alloc | apply pw_below_drewN | apply below_drew1 | refine below_set ?_ GE152.out) | exact HB.out))⟩; clear HO0 BK152 HB hq_; have HO0 := n0_; have BK152 := n1_; have HB := n2_; clear n0_ n1_ n2_)); have p156 : 0 ≤ (t153 : Int) := of_decide_eq_true (by first | (with_reducible assumption) | assumption); have q156 : t153 < (l0.length : Int) := of_decide_eq_true (by first | (with_reducible assumption) | assumption); obtain ⟨ad156, A156_0, c156_0, e156, hx156_0, hl156_0, hi156_0⟩ := at_L6 (Kd.V_reads' HO0.out).2.2 t153 p156 q156; cases e156; obtain ⟨ce156, hce156, hMe156, hcc156⟩ := Kd.V_get HO0.out [] t153 p156 (by first | exact q156 | exact of_decide_eq_true (by first | (with_reducible assumption) | assumption) | (have e_ := (Kd.V_reads' HO0.out).1; omega)); obtain ⟨ua156_0, uc156_0, rfl, ul156_0, ge156_0⟩ := Kd.FK_slice_open hMe156; have hv156_0 := hcc156 0 _ rfl; rw [Nat.add_zero, show ((Kd.slice 53 k53)).sz = 1 from rfl, Nat.mul_one] at hv156_0; replace hv156_0 := Option.some.inj (hv156_0.symm.trans hx156_0); injection hv156_0 with hva_ hvn_ hvc_; rw [hva_] at ge156_0; rw [hvc_] at ul156_0; have HL156_0 := Aside0.mk (show Kd.V k53 53 _ w.heap.size _ _ (rd_L6 l0 t153) from Kd.V_mk ul156_0 ge156_0); clear hva_ hvn_ hvc_ ge156_0 ul156_0; clear hcc156 hce156; have HR156_0 := Aside0.mk hi156_0; have HC156_0 := Aside0.mk hl156_0; clear hi156_0 hl156_0; replace p156 := eq_true p156; replace q156 := eq_true q156; have p157 : 0 ≤ (t154 : Int) := of_decide_eq_true (by first | (with_reducible assumption) | assumption); have q157 : t154 < ((rd_L6 l0 t153).length : Int) := of_decide_eq_true (by first | (with_reducible assumption) | assumption); obtain ⟨ad157, A157_1, c157_1, e157, hx157_0, hx157_1, hl157_1, hi157_1⟩ := at_T53 (by repeat (first | (with_reducible exact HR156_0.out) | (with_reducible refine Kd.C_alloc ?_ _) | (with_reducible refine Kd.C_drewN ?_ _) | (with_reducible refine Kd.C_drew ?_) | exact HR156_0.out)) t154 p157 q157; cases e157; obtain ⟨ce157, hce157, hMe157, hcc157⟩ := Kd.V_get HL156_0.out z53 t154 p157 (by first | exact q157 | exact of_decide_eq_true (by first | (with_reducible assumption) | assumption) | (have e_ := (Kd.V_reads' HL156_0.out).1; omega)); obtain ⟨ua157_1, uc157_1, rfl, ul157_1, ge157_1⟩ := k53_openF hMe157; have hv157_1 := hcc157 1 _ rfl; rw [add_field _ _ 1 (by omega)] at hv157_1; replace hv157_1 := Option.some.inj (hv157_1.symm.trans hx157_1); injection hv157_1 with hva_ hvn_ hvc_; rw [hva_] at ge157_1; rw [hvc_] at ul157_1; have HL157_1 := Aside0.mk (show Kd.V Kd.string 9 _ w.heap.size _ _ ((rd_T53 (rd_L6 l0 t153) t154).f1) from Kd.V_mk ul157_1 ge157_1); clear hva_ hvn_ hvc_ ge157_1 ul157_1; clear hcc157 hce157; have HR157_1 := Aside0.mk hi157_1; have HC157_1 := Aside0.mk hl157_1; clear hi157_1 hl157_1; replace p157 := eq_true p157; replace q157 := eq_true q157; have hcz9_0 : w8.cell? ⟨gb152, 0, none⟩ = some (.int .i64 0) := (blk_cell BK152.out 0).trans rfl; have hcz9_1 : w8.cell? ⟨gb152, 1, none⟩ = some (.slice none 0 0) := (blk_cell BK152.out 1).trans rfl; have hfz9_0 := blk_frozen BK152.out 0; have hfz9_1 := blk_frozen BK152.out 1))
          refine bodyPost_ret (results_cell_row rfl _ _ gb152 53 #[.int .i64 ((rd_T53 (rd_L6 l0 t153) t154).f0), .slice A157_1 ((rd_T53 (rd_L6 l0 t153) t154).f1).length c157_1] (0, 0) _ rfl (by (with_reducible repeat (first | refine blk_drewN ?_ _ | refine blk_drew ?_ | refine blk_alloc ?_ _)); refine blk_put (cs := #[.int .i64 ((rd_T53 (rd_L6 l0 t153) t154).f0), .slice none 0 0]) ?_ 1 _ rfl; (with_reducible repeat (first | refine blk_drewN ?_ _ | refine blk_drew ?_ | refine blk_alloc ?_ _)); refine blk_put (cs := #[.int .i64 0, .slice none 0 0]) ?_ 0 _ rfl; (with_reducible repeat (first | refine blk_drewN ?_ _ | refine blk_drew ?_ | refine blk_alloc ?_ _)); exact BK152.out) Try.underlying53 rfl (by kernel_rfl)) rfl ?_
          exact ⟨_, by first | rfl | (simp [errW_none, errW_some] <;> rfl) | (simp [*, errW_none, errW_some] <;> rfl), by (with_reducible repeat (first | apply Kd.V_alloc | apply Kd.V_drewN | apply Kd.V_drew)); exact Kd.V_mono (Kd.V_far (p := ⟨gb152, 1, none⟩) (Kd.V_far (p := ⟨gb152, 0, none⟩) (Kd.V_mono HL157_1.out (fun k_ hk => (⟨hk, hk.2⟩ : _ ∧ k_ ≠ gb152))) (fun _ hk => hk.2) (.int .i64 ((rd_T53 (rd_L6 l0 t153) t154).f0))) (fun _ hk => hk.2) (.slice A157_1 ((rd_T53 (rd_L6 l0 t153) t154).f1).length c157_1)) (fun _ hk => hk.1.1), by repeat (first | (with_reducible first | exact HB.out | apply below_alloc | apply pw_below_drewN | apply below_drew1 | refine below_set ?_ GE152.out) | exact HB.out)⟩
        · rw [if_neg c7] at H
          exact absurd H (by simp)
      · rw [if_neg c6] at H
        exact absurd H (by simp)
    · rw [if_neg c5] at H
      exact absurd H (by simp)
  · rw [if_neg c4] at H
    exact absurd H (by simp)

/-! ### impl_ableOf: function 52 -/
def impl_ableOf.f (l0 : List (List (S53))) (a1 : ByteArray) : Option (Int) := (impl_signOf.f a1).bind fun bt158 => (if bt158.1.toList = ([38] : List UInt8) then (some 3) else (if bt158.1.toList = ([33] : List UInt8) then (some 2) else ((impl_kindIn.f l0 bt158.2).bind fun t160 => (if t160 = true then ((impl_recordOf.f l0 bt158.2).bind fun bt161 => (some bt161.1)) else (some 7)))))
set_option maxHeartbeats 8000000 in
set_option maxRecDepth 100000 in
theorem impl_ableOf.calls (A0 : Option Addr) (c0 : Nat) (l0 : List (List (S53))) (a1 : ByteArray) (r : Int) (w : World) (hr0 : Kd.C (Kd.slice 53 k53) w A0 l0.length l0) (hc0 : l0.length ≤ c0) (h : impl_ableOf.f l0 a1 = some r) :
    Calls Try.prog 52 #[.slice A0 l0.length c0, .string a1] w fun e w' => e = .returned (.int .i64 r) ∧ Below w.heap.size w w' := by
  have HR0 := Aside0.mk hr0
  have HC0 := Aside0.mk hc0
  clear hr0 hc0
  have HB := Aside0.mk (Below.refl w.heap.size w)
  have H : ((impl_signOf.f a1).bind fun bt158 => (if bt158.1.toList = ([38] : List UInt8) then (some 3) else (if bt158.1.toList = ([33] : List UInt8) then (some 2) else ((impl_kindIn.f l0 bt158.2).bind fun t160 => (if t160 = true then ((impl_recordOf.f l0 bt158.2).bind fun bt161 => (some bt161.1)) else (some 7)))))) = some r := h
  clear h
  replace H := Option.bind_eq_some_iff.mp H
  obtain ⟨⟨t158, t159⟩, A30, H⟩ := H
  replace H : (if t158.toList = ([38] : List UInt8) then (some 3) else (if t158.toList = ([33] : List UInt8) then (some 2) else ((impl_kindIn.f l0 t159).bind fun t160 => (if t160 = true then ((impl_recordOf.f l0 t159).bind fun bt161 => (some bt161.1)) else (some 7))))) = some r := H
  have A3 := Aside0.mk A30
  clear A30
  by_cases c4 : t158.toList = ([38] : List UInt8)
  · rw [if_pos c4] at H
    have c4b0 : (t158.toList == ([38] : List UInt8)) = true := beq_iff_eq.mpr c4
    have c4b1 : (t158.toList != ([38] : List UInt8)) = false := bne_eq_false_iff_eq.mpr c4
    clear c4
    obtain rfl := Option.some.inj H
    go_enter Try.func52, Try.ntmps52
    go_wp2_with (first | ((with_reducible refine gate_callee (f := 48) rfl ?_); refine goesL_ (some 9) rfl rfl Try.func48 (by kernel_rfl) rfl #[.string a1] rfl (by (try simp only [List.map_toArray, List.map_cons, List.map_nil]); first | done | rfl | (simp only [List.length_drop, List.length_take]; rfl)) ?_; (with_reducible refine (impl_signOf.calls a1 t158 t159 _ A3.out).mono ?_); rintro e w' ⟨rfl, ⟨nd, rfl⟩⟩; refine ⟨_, rfl, ?_⟩))
    go_ret
    exact ⟨by first | rfl | (simp [errW_none, errW_some] <;> rfl) | (simp [*, errW_none, errW_some] <;> rfl), by repeat (first | (with_reducible first | exact HB.out | apply below_alloc | apply pw_below_drewN | apply below_drew1) | exact HB.out)⟩
  · rw [if_neg c4] at H
    have c4b0 : (t158.toList == ([38] : List UInt8)) = false := beq_eq_false_iff_ne.mpr c4
    have c4b1 : (t158.toList != ([38] : List UInt8)) = true := bne_iff_ne.mpr c4
    by_cases c5 : t158.toList = ([33] : List UInt8)
    · rw [if_pos c5] at H
      have c5b0 : (t158.toList == ([33] : List UInt8)) = true := beq_iff_eq.mpr c5
      have c5b1 : (t158.toList != ([33] : List UInt8)) = false := bne_eq_false_iff_eq.mpr c5
      clear c5
      obtain rfl := Option.some.inj H
      go_enter Try.func52, Try.ntmps52
      go_wp2_with (first | ((with_reducible refine gate_callee (f := 48) rfl ?_); refine goesL_ (some 9) rfl rfl Try.func48 (by kernel_rfl) rfl #[.string a1] rfl (by (try simp only [List.map_toArray, List.map_cons, List.map_nil]); first | done | rfl | (simp only [List.length_drop, List.length_take]; rfl)) ?_; (with_reducible refine (impl_signOf.calls a1 t158 t159 _ A3.out).mono ?_); rintro e w' ⟨rfl, ⟨nd, rfl⟩⟩; refine ⟨_, rfl, ?_⟩))
      go_ret
      exact ⟨by first | rfl | (simp [errW_none, errW_some] <;> rfl) | (simp [*, errW_none, errW_some] <;> rfl), by repeat (first | (with_reducible first | exact HB.out | apply below_alloc | apply pw_below_drewN | apply below_drew1) | exact HB.out)⟩
    · rw [if_neg c5] at H
      have c5b0 : (t158.toList == ([33] : List UInt8)) = false := beq_eq_false_iff_ne.mpr c5
      have c5b1 : (t158.toList != ([33] : List UInt8)) = true := bne_iff_ne.mpr c5
      replace H := Option.bind_eq_some_iff.mp H
      obtain ⟨t160, A60, H⟩ := H
      replace H : (if t160 = true then ((impl_recordOf.f l0 t159).bind fun bt161 => (some bt161.1)) else (some 7)) = some r := H
      have A6 := Aside0.mk A60
      clear A60
      by_cases c7 : t160 = true
      · subst c7
        have H1 : ((impl_recordOf.f l0 t159).bind fun bt161 => (some bt161.1)) = some r := by rw [if_pos rfl] at H; exact H
        clear H
        have H := H1
        clear H1
        replace H := Option.bind_eq_some_iff.mp H
        obtain ⟨⟨t161, t162⟩, A80, H⟩ := H
        replace H : (some t161) = some r := H
        have A8 := Aside0.mk A80
        clear A80
        obtain rfl := Option.some.inj H
        go_enter Try.func52, Try.ntmps52
        go_wp2_with (first | ((with_reducible refine gate_callee (f := 48) rfl ?_); refine goesL_ (some 9) rfl rfl Try.func48 (by kernel_rfl) rfl #[.string a1] rfl (by (try simp only [List.map_toArray, List.map_cons, List.map_nil]); first | done | rfl | (simp only [List.length_drop, List.length_take]; rfl)) ?_; (with_reducible refine (impl_signOf.calls a1 t158 t159 _ A3.out).mono ?_); rintro e w' ⟨rfl, ⟨nd, rfl⟩⟩; refine ⟨_, rfl, ?_⟩) | ((with_reducible refine gate_callee (f := 69) rfl ?_); refine goesL_ (some 21) rfl rfl Try.func69 (by kernel_rfl) rfl #[.slice A0 l0.length c0, .string t159] rfl (by (try simp only [List.map_toArray, List.map_cons, List.map_nil]); first | done | rfl | (simp only [List.length_drop, List.length_take]; rfl)) ?_; (with_reducible refine (impl_kindIn.calls _ _ l0 t159 true _ ?side1 ?side2 A6.out).mono ?_); (case side1 => repeat (first | exact HR0.out | (with_reducible refine Kd.C_alloc ?_ _) | (with_reducible refine Kd.C_drewN ?_ _) | (with_reducible refine Kd.C_drew ?_))); (case side2 => exact HC0.out); rintro e w' ⟨rfl, ⟨nd, rfl⟩⟩; refine ⟨_, rfl, ?_⟩) | ((with_reducible refine gate_callee (f := 72) rfl ?_); refine goesL_ (some 24) rfl rfl Try.func72 (by kernel_rfl) rfl #[.slice A0 l0.length c0, .string t159] rfl (by (try simp only [List.map_toArray, List.map_cons, List.map_nil]); first | done | rfl | (simp only [List.length_drop, List.length_take]; rfl)) ?_; (with_reducible refine (impl_recordOf.calls (fun k_ => k_ < w.heap.size) _ _ l0 t159 t161 t162 _ ?side1 A8.out).mono ?_); (case side1 => exact Kd.V_mk HC0.out (Kd.F_below (Kd.C_F (Kd.heap_slice 53 k53_heap) HR0.out) (by repeat (first | (with_reducible first | exact HB.out | apply below_alloc | apply pw_below_drewN | apply below_drew1) | exact HB.out)))); rintro e w9 ⟨v163, rfl, ho0, hb⟩; refine ⟨_, rfl, ?_⟩; have n0_ := Aside0.mk (Kd.V_lower (Kd.V_mono (ok' := fun k_ => True) ho0 (fun k_ hk_ => trivial)) (below_size (by repeat (first | (with_reducible first | exact HB.out | apply below_alloc | apply pw_below_drewN | apply below_drew1) | exact HB.out)))); have n1_ := Aside0.mk (below_step (by repeat (first | (with_reducible first | exact HB.out | apply below_alloc | apply pw_below_drewN | apply below_drew1) | exact HB.out)) hb); clear HB; have HO164 := n0_; have HB := n1_; clear n0_ n1_; (try clear hb); (try clear hb2); (try clear hk); (try clear hi); (try clear ho0); (obtain ⟨Av_, cv_, ev_⟩ := Kd.V_slice HO164.out); subst ev_; (have hfl_ : ∀ w', (Instr.field 53 (.agg #[.int .i64 t161, .slice Av_ t162.length cv_]) 0).run Try.prog w' = .ok (.int .i64 t161) w' := fun _ => by kernel_rfl)))
        go_ret
        exact ⟨by first | rfl | (simp [errW_none, errW_some] <;> rfl) | (simp [*, errW_none, errW_some] <;> rfl), by repeat (first | (with_reducible first | exact HB.out | apply below_alloc | apply pw_below_drewN | apply below_drew1) | exact HB.out)⟩
      · replace c7 := Bool.eq_false_iff.mpr c7
        subst c7
        have H1 : (some 7) = some r := by rw [if_neg (show ¬ (false = true) by decide)] at H; exact H
        clear H
        have H := H1
        clear H1
        obtain rfl := Option.some.inj H
        go_enter Try.func52, Try.ntmps52
        go_wp2_with (first | ((with_reducible refine gate_callee (f := 48) rfl ?_); refine goesL_ (some 9) rfl rfl Try.func48 (by kernel_rfl) rfl #[.string a1] rfl (by (try simp only [List.map_toArray, List.map_cons, List.map_nil]); first | done | rfl | (simp only [List.length_drop, List.length_take]; rfl)) ?_; (with_reducible refine (impl_signOf.calls a1 t158 t159 _ A3.out).mono ?_); rintro e w' ⟨rfl, ⟨nd, rfl⟩⟩; refine ⟨_, rfl, ?_⟩) | ((with_reducible refine gate_callee (f := 69) rfl ?_); refine goesL_ (some 21) rfl rfl Try.func69 (by kernel_rfl) rfl #[.slice A0 l0.length c0, .string t159] rfl (by (try simp only [List.map_toArray, List.map_cons, List.map_nil]); first | done | rfl | (simp only [List.length_drop, List.length_take]; rfl)) ?_; (with_reducible refine (impl_kindIn.calls _ _ l0 t159 false _ ?side1 ?side2 A6.out).mono ?_); (case side1 => repeat (first | exact HR0.out | (with_reducible refine Kd.C_alloc ?_ _) | (with_reducible refine Kd.C_drewN ?_ _) | (with_reducible refine Kd.C_drew ?_))); (case side2 => exact HC0.out); rintro e w' ⟨rfl, ⟨nd, rfl⟩⟩; refine ⟨_, rfl, ?_⟩))
        go_ret
        exact ⟨by first | rfl | (simp [errW_none, errW_some] <;> rfl) | (simp [*, errW_none, errW_some] <;> rfl), by repeat (first | (with_reducible first | exact HB.out | apply below_alloc | apply pw_below_drewN | apply below_drew1) | exact HB.out)⟩

/-! ### impl_recordOk: function 41 -/
mutual
def impl_recordOk.j0 : Nat → List (List (S53)) → Int → Int → Bool → Int → List ByteArray → Option (Bool)
  | 0, _, _, _, _, _, _ => none
  | k + 1, x0, x1, x2, x34, x168000, x168001 => if x34 = true then (some false) else (impl_recordOk.l0 k x0 x1 x2 x168001 (x168001.length : Int) 0 x168000 x168001)
def impl_recordOk.l0 : Nat → List (List (S53)) → Int → Int → List ByteArray → Int → Int → Int → List ByteArray → Option (Bool)
  | 0, _, _, _, _, _, _, _, _ => none
  | k + 1, x0, x1, x2, x36, x37, x38, x168000, x168001 => if x38 < x37 then (if 0 ≤ x38 then (if x38 < (x36.length : Int) then ((impl_kindAt.f (rdOf ByteArray.empty x36 x38)).bind fun bt169 => (if bt169.2.2 = true then (if bt169.1 > x1 then (impl_recordOk.j2 k x0 x1 x2 (rdOf ByteArray.empty x36 x38) x36 x37 x38 true x168000 x168001) else (if bt169.1 = x1 then (if bt169.2.1 ≥ x2 then (impl_recordOk.j2 k x0 x1 x2 (rdOf ByteArray.empty x36 x38) x36 x37 x38 true x168000 x168001) else ((impl_plainOk.f x0 (rdOf ByteArray.empty x36 x38)).bind fun t172 => (impl_recordOk.j2 k x0 x1 x2 (rdOf ByteArray.empty x36 x38) x36 x37 x38 (!t172) x168000 x168001))) else ((impl_plainOk.f x0 (rdOf ByteArray.empty x36 x38)).bind fun t173 => (impl_recordOk.j2 k x0 x1 x2 (rdOf ByteArray.empty x36 x38) x36 x37 x38 (!t173) x168000 x168001)))) else ((impl_plainOk.f x0 (rdOf ByteArray.empty x36 x38)).bind fun t174 => (impl_recordOk.j2 k x0 x1 x2 (rdOf ByteArray.empty x36 x38) x36 x37 x38 (!t174) x168000 x168001)))) else (none)) else (none)) else (some true)
def impl_recordOk.j2 : Nat → List (List (S53)) → Int → Int → ByteArray → List ByteArray → Int → Int → Bool → Int → List ByteArray → Option (Bool)
  | 0, _, _, _, _, _, _, _, _, _, _ => none
  | k + 1, x0, x1, x2, x9, x36, x37, x38, x69, x168000, x168001 => if x69 = true then (some false) else ((impl_ableOf.f x0 x9).bind fun t175 => (if (Go.bits .andNot .i64 (Go.bits .and .i64 x168000 7) t175) = 0 then (if (Go.bits .and .i64 x168000 8) = 0 then (impl_recordOk.l0 k x0 x1 x2 x36 x37 (wrap64 (x38 + 1)) x168000 x168001) else (if (Go.bits .and .i64 t175 4) = 0 then (some false) else (impl_recordOk.l0 k x0 x1 x2 x36 x37 (wrap64 (x38 + 1)) x168000 x168001))) else (some false)))
end
def impl_recordOk.f (k : Nat) (l0 : List (List (S53))) (a1 : Int) (a2 : Int) : Option (Bool) := if 0 ≤ a1 then (if a1 < (l0.length : Int) then (if 0 ≤ a2 then (if a2 < ((rd_L6 l0 a1).length : Int) then (if ((rd_T53 (rd_L6 l0 a1) a2).f0) < 0 then (impl_recordOk.j0 k l0 a1 a2 true ((rd_T53 (rd_L6 l0 a1) a2).f0) ((rd_T53 (rd_L6 l0 a1) a2).f1)) else (if ((rd_T53 (rd_L6 l0 a1) a2).f0) > 15 then (impl_recordOk.j0 k l0 a1 a2 true ((rd_T53 (rd_L6 l0 a1) a2).f0) ((rd_T53 (rd_L6 l0 a1) a2).f1)) else (impl_recordOk.j0 k l0 a1 a2 (decide ((((rd_T53 (rd_L6 l0 a1) a2).f1).length : Int) > 3)) ((rd_T53 (rd_L6 l0 a1) a2).f0) ((rd_T53 (rd_L6 l0 a1) a2).f1)))) else (none)) else (none)) else (none)) else (none)
theorem impl_recordOk.mono_l : ∀ k, (∀ y0 y1 y2 y3 y4 y5, LeO (impl_recordOk.j0 k y0 y1 y2 y3 y4 y5) (impl_recordOk.j0 (k + 1) y0 y1 y2 y3 y4 y5)) ∧ (∀ y0 y1 y2 y3 y4 y5 y6 y7, LeO (impl_recordOk.l0 k y0 y1 y2 y3 y4 y5 y6 y7) (impl_recordOk.l0 (k + 1) y0 y1 y2 y3 y4 y5 y6 y7)) ∧ (∀ y0 y1 y2 y3 y4 y5 y6 y7 y8 y9, LeO (impl_recordOk.j2 k y0 y1 y2 y3 y4 y5 y6 y7 y8 y9) (impl_recordOk.j2 (k + 1) y0 y1 y2 y3 y4 y5 y6 y7 y8 y9))
  | 0 => ⟨fun _ _ _ _ _ _ r h => by simp [impl_recordOk.j0] at h, fun _ _ _ _ _ _ _ _ r h => by simp [impl_recordOk.l0] at h, fun _ _ _ _ _ _ _ _ _ _ r h => by simp [impl_recordOk.j2] at h⟩
  | k + 1 => by
    obtain ⟨ih0, ih1, ih2⟩ := impl_recordOk.mono_l k
    refine ⟨?_, ?_, ?_⟩
    · intro y0 y1 y2 y3 y4 y5
      unfold impl_recordOk.j0
      repeat' first
      | (with_reducible exact ih0 _ _ _ _ _ _)
      | (with_reducible exact ih1 _ _ _ _ _ _ _ _)
      | (with_reducible exact ih2 _ _ _ _ _ _ _ _ _ _)
      | (with_reducible exact LeO.refl _)
      | (with_reducible exact LeO.none _)
      | (with_reducible refine LeO.ite ?_ ?_)
      | (with_reducible refine LeO.bind ?_ (fun _ => ?_))
      | exact ih0 _ _ _ _ _ _
      | exact ih1 _ _ _ _ _ _ _ _
      | exact ih2 _ _ _ _ _ _ _ _ _ _
      | exact LeO.none _
      | refine LeO.ite ?_ ?_
      | refine LeO.bind ?_ (fun _ => ?_)
    · intro y0 y1 y2 y3 y4 y5 y6 y7
      unfold impl_recordOk.l0
      repeat' first
      | (with_reducible exact ih0 _ _ _ _ _ _)
      | (with_reducible exact ih1 _ _ _ _ _ _ _ _)
      | (with_reducible exact ih2 _ _ _ _ _ _ _ _ _ _)
      | (with_reducible exact LeO.refl _)
      | (with_reducible exact LeO.none _)
      | (with_reducible refine LeO.ite ?_ ?_)
      | (with_reducible refine LeO.bind ?_ (fun _ => ?_))
      | exact ih0 _ _ _ _ _ _
      | exact ih1 _ _ _ _ _ _ _ _
      | exact ih2 _ _ _ _ _ _ _ _ _ _
      | exact LeO.none _
      | refine LeO.ite ?_ ?_
      | refine LeO.bind ?_ (fun _ => ?_)
    · intro y0 y1 y2 y3 y4 y5 y6 y7 y8 y9
      unfold impl_recordOk.j2
      repeat' first
      | (with_reducible exact ih0 _ _ _ _ _ _)
      | (with_reducible exact ih1 _ _ _ _ _ _ _ _)
      | (with_reducible exact ih2 _ _ _ _ _ _ _ _ _ _)
      | (with_reducible exact LeO.refl _)
      | (with_reducible exact LeO.none _)
      | (with_reducible refine LeO.ite ?_ ?_)
      | (with_reducible refine LeO.bind ?_ (fun _ => ?_))
      | exact ih0 _ _ _ _ _ _
      | exact ih1 _ _ _ _ _ _ _ _
      | exact ih2 _ _ _ _ _ _ _ _ _ _
      | exact LeO.none _
      | refine LeO.ite ?_ ?_
      | refine LeO.bind ?_ (fun _ => ?_)
theorem impl_recordOk.mono : ∀ a0 a1 a2 k, LeO (impl_recordOk.f k a0 a1 a2) (impl_recordOk.f (k + 1) a0 a1 a2) := by
  intro a0 a1 a2 k
  obtain ⟨ih0, ih1, ih2⟩ := impl_recordOk.mono_l k
  unfold impl_recordOk.f
  repeat' first
      | (with_reducible exact ih0 _ _ _ _ _ _)
      | (with_reducible exact ih1 _ _ _ _ _ _ _ _)
      | (with_reducible exact ih2 _ _ _ _ _ _ _ _ _ _)
      | (with_reducible exact LeO.refl _)
      | (with_reducible exact LeO.none _)
      | (with_reducible refine LeO.ite ?_ ?_)
      | (with_reducible refine LeO.bind ?_ (fun _ => ?_))
      | exact ih0 _ _ _ _ _ _
      | exact ih1 _ _ _ _ _ _ _ _
      | exact ih2 _ _ _ _ _ _ _ _ _ _
      | exact LeO.none _
      | refine LeO.ite ?_ ?_
      | refine LeO.bind ?_ (fun _ => ?_)
set_option maxHeartbeats 8000000 in
set_option maxRecDepth 100000 in
theorem impl_recordOk.calls (k : Nat) (A0 : Option Addr) (c0 : Nat) (l0 : List (List (S53))) (a1 : Int) (a2 : Int) (r : Bool) (w : World) (hr0 : Kd.C (Kd.slice 53 k53) w A0 l0.length l0) (hc0 : l0.length ≤ c0) (h : impl_recordOk.f k l0 a1 a2 = some r) :
    Calls Try.prog 41 #[.slice A0 l0.length c0, .int .i64 a1, .int .i64 a2] w fun e w' => e = .returned (.bool r) ∧ Below w.heap.size w w' := by
  have hu53 := Try.underlying53
  have HR0 := Aside0.mk hr0
  have HC0 := Aside0.mk hc0
  clear hr0 hc0
  have HB := Aside0.mk (Below.refl w.heap.size w)
  have H : (if 0 ≤ a1 then (if a1 < (l0.length : Int) then (if 0 ≤ a2 then (if a2 < ((rd_L6 l0 a1).length : Int) then (if ((rd_T53 (rd_L6 l0 a1) a2).f0) < 0 then (impl_recordOk.j0 k l0 a1 a2 true ((rd_T53 (rd_L6 l0 a1) a2).f0) ((rd_T53 (rd_L6 l0 a1) a2).f1)) else (if ((rd_T53 (rd_L6 l0 a1) a2).f0) > 15 then (impl_recordOk.j0 k l0 a1 a2 true ((rd_T53 (rd_L6 l0 a1) a2).f0) ((rd_T53 (rd_L6 l0 a1) a2).f1)) else (impl_recordOk.j0 k l0 a1 a2 (decide ((((rd_T53 (rd_L6 l0 a1) a2).f1).length : Int) > 3)) ((rd_T53 (rd_L6 l0 a1) a2).f0) ((rd_T53 (rd_L6 l0 a1) a2).f1)))) else (none)) else (none)) else (none)) else (none)) = some r := h
  clear h
  by_cases c4 : 0 ≤ a1
  · rw [if_pos c4] at H
    have c4b0 : decide (0 ≤ a1) = true := decide_eq_true c4
    clear c4
    by_cases c5 : a1 < (l0.length : Int)
    · rw [if_pos c5] at H
      have c5b0 : decide (a1 < (l0.length : Int)) = true := decide_eq_true c5
      clear c5
      by_cases c6 : 0 ≤ a2
      · rw [if_pos c6] at H
        have c6b0 : decide (0 ≤ a2) = true := decide_eq_true c6
        clear c6
        by_cases c7 : a2 < ((rd_L6 l0 a1).length : Int)
        · rw [if_pos c7] at H
          have c7b0 : decide (a2 < ((rd_L6 l0 a1).length : Int)) = true := decide_eq_true c7
          clear c7
          have HC8 := Aside0.mk H
          clear H
          have p165 : 0 ≤ (a1 : Int) := of_decide_eq_true (by first | (with_reducible assumption) | assumption)
          have q165 : a1 < (l0.length : Int) := of_decide_eq_true (by first | (with_reducible assumption) | assumption)
          obtain ⟨ad165, A165_0, c165_0, e165, hx165_0, hl165_0, hi165_0⟩ := at_L6 HR0.out a1 p165 q165
          cases e165
          have HR165_0 := Aside0.mk hi165_0
          have HC165_0 := Aside0.mk hl165_0
          clear hi165_0 hl165_0
          replace p165 := eq_true p165
          replace q165 := eq_true q165
          have p166 : 0 ≤ (a2 : Int) := of_decide_eq_true (by first | (with_reducible assumption) | assumption)
          have q166 : a2 < ((rd_L6 l0 a1).length : Int) := of_decide_eq_true (by first | (with_reducible assumption) | assumption)
          obtain ⟨ad166, A166_1, c166_1, e166, hx166_0, hx166_1, hl166_1, hi166_1⟩ := at_T53 HR165_0.out a2 p166 q166
          cases e166
          have HR166_1 := Aside0.mk hi166_1
          have HC166_1 := Aside0.mk hl166_1
          clear hi166_1 hl166_1
          replace p166 := eq_true p166
          replace q166 := eq_true q166
          go_enter Try.func41, Try.ntmps41
          go_upto_region 2 with (first | ((with_reducible refine gate_dst (N := 7) rfl ?_); (try (refine gate_guard (by rfl) ?_; dsimp only)); refine box_event ?hg (N := 7) ?hd (cs := #[.int .i64 0, .slice none 0 0]) (t := 53) ?hr ?_; (case hd => rfl); (case hg => rfl); (case hr => first | (go_simp; done) | (go_simp; rfl)); intro gb167 hg w9 hbox hb; have n0_ := Aside0.mk (below_step (by repeat (first | (with_reducible first | exact HB.out | apply below_alloc | apply pw_below_drewN | apply below_drew1) | exact HB.out)) hb); have n1_ := Aside0.mk (hbox); have n2_ := Aside0.mk ((by rw [hg]; exact (below_size (by repeat (first | (with_reducible first | exact HB.out | apply below_alloc | apply pw_below_drewN | apply below_drew1) | exact HB.out))) : w.heap.size ≤ gb167)); have n3_ := Aside0.mk ((by rw [hg]; exact (below_size (by repeat (first | (with_reducible first | exact HB.out | apply below_alloc | apply pw_below_drewN | apply below_drew1) | exact HB.out))) : w.heap.size ≤ gb167)); clear HB; have HB := n0_; have BK167 := n1_; have GW167 := n2_; have GE167 := n3_; clear n0_ n1_ n2_ n3_; clear hb hbox hg; have hcz10_0 : w9.cell? ⟨gb167, 0, none⟩ = some (.int .i64 0) := (blk_cell BK167.out 0).trans rfl; have hcz10_1 : w9.cell? ⟨gb167, 1, none⟩ = some (.slice none 0 0) := (blk_cell BK167.out 1).trans rfl; have hfz10_0 := blk_frozen BK167.out 0; have hfz10_1 := blk_frozen BK167.out 1))
          (try simp only [Act.put, List.setIfInBounds_toArray, List.set_cons_zero, List.set_cons_succ])
          go_cut [34] (fun v34 wc => ∃ (kq : Nat) (x34_7 : Bool), v34 = .bool x34_7 ∧ Aside0 (impl_recordOk.j0 kq l0 a1 a2 x34_7 ((rd_T53 (rd_L6 l0 a1) a2).f0) ((rd_T53 (rd_L6 l0 a1) a2).f1) = some r) ∧ Aside0 (kq ≤ k) ∧ Aside0 (wc.heap[gb167]? = some (.cells #[.int .i64 ((rd_T53 (rd_L6 l0 a1) a2).f0), (.slice A166_1 ((rd_T53 (rd_L6 l0 a1) a2).f1).length c166_1)] 53 (0, 0))) ∧ Aside0 (Below w.heap.size w wc))
          case first =>
            have H := HC8.out
            clear HC8
            by_cases c11 : ((rd_T53 (rd_L6 l0 a1) a2).f0) < 0
            · rw [if_pos c11] at H
              have c11b0 : decide (((rd_T53 (rd_L6 l0 a1) a2).f0) < 0) = true := decide_eq_true c11
              clear c11
              (first | rw [c11b0] | (simp only [i64_w, i32_w]; rw [c11b0]) | skip)
              have H' := Aside0.mk H
              clear H
              have hcz12_0 : w9.cell? ⟨gb167, 0, none⟩ = some (.int .i64 0) := (blk_cell BK167.out 0).trans rfl
              have hcz12_1 : w9.cell? ⟨gb167, 1, none⟩ = some (.slice none 0 0) := (blk_cell BK167.out 1).trans rfl
              have hfz12_0 := blk_frozen BK167.out 0
              have hfz12_1 := blk_frozen BK167.out 1
              go_wp2
              go_meet
              case rel => exact ⟨_, (true), (by first | rfl | (simp; done) | (simp [*]; done)), H', ⟨by first | omega | exact Nat.le_refl _⟩, ⟨by (with_reducible repeat (first | refine blk_drewN ?_ _ | refine blk_drew ?_ | refine blk_alloc ?_ _)); refine blk_put (cs := #[.int .i64 ((rd_T53 (rd_L6 l0 a1) a2).f0), .slice none 0 0]) ?_ 1 _ rfl; (with_reducible repeat (first | refine blk_drewN ?_ _ | refine blk_drew ?_ | refine blk_alloc ?_ _)); refine blk_put (cs := #[.int .i64 0, .slice none 0 0]) ?_ 0 _ rfl; (with_reducible repeat (first | refine blk_drewN ?_ _ | refine blk_drew ?_ | refine blk_alloc ?_ _)); exact BK167.out⟩, ⟨by repeat (first | (with_reducible first | exact HB.out | apply below_alloc | apply pw_below_drewN | apply below_drew1 | refine below_set ?_ GE167.out) | exact HB.out)⟩⟩
            · rw [if_neg c11] at H
              have c11b0 : decide (((rd_T53 (rd_L6 l0 a1) a2).f0) < 0) = false := decide_eq_false c11
              clear c11
              (first | rw [c11b0] | (simp only [i64_w, i32_w]; rw [c11b0]) | skip)
              by_cases c13 : ((rd_T53 (rd_L6 l0 a1) a2).f0) > 15
              · rw [if_pos c13] at H
                have c13b0 : decide (15 < ((rd_T53 (rd_L6 l0 a1) a2).f0)) = true := decide_eq_true c13
                clear c13
                have H' := Aside0.mk H
                clear H
                have hcz14_0 : w9.cell? ⟨gb167, 0, none⟩ = some (.int .i64 0) := (blk_cell BK167.out 0).trans rfl
                have hcz14_1 : w9.cell? ⟨gb167, 1, none⟩ = some (.slice none 0 0) := (blk_cell BK167.out 1).trans rfl
                have hfz14_0 := blk_frozen BK167.out 0
                have hfz14_1 := blk_frozen BK167.out 1
                go_wp2
                go_meet
                case rel => exact ⟨_, (true), (by first | rfl | (simp; done) | (simp [*]; done)), H', ⟨by first | omega | exact Nat.le_refl _⟩, ⟨by (with_reducible repeat (first | refine blk_drewN ?_ _ | refine blk_drew ?_ | refine blk_alloc ?_ _)); refine blk_put (cs := #[.int .i64 ((rd_T53 (rd_L6 l0 a1) a2).f0), .slice none 0 0]) ?_ 1 _ rfl; (with_reducible repeat (first | refine blk_drewN ?_ _ | refine blk_drew ?_ | refine blk_alloc ?_ _)); refine blk_put (cs := #[.int .i64 0, .slice none 0 0]) ?_ 0 _ rfl; (with_reducible repeat (first | refine blk_drewN ?_ _ | refine blk_drew ?_ | refine blk_alloc ?_ _)); exact BK167.out⟩, ⟨by repeat (first | (with_reducible first | exact HB.out | apply below_alloc | apply pw_below_drewN | apply below_drew1 | refine below_set ?_ GE167.out) | exact HB.out)⟩⟩
              · rw [if_neg c13] at H
                have c13b0 : decide (15 < ((rd_T53 (rd_L6 l0 a1) a2).f0)) = false := decide_eq_false c13
                clear c13
                have H' := Aside0.mk H
                clear H
                have hcz15_0 : w9.cell? ⟨gb167, 0, none⟩ = some (.int .i64 0) := (blk_cell BK167.out 0).trans rfl
                have hcz15_1 : w9.cell? ⟨gb167, 1, none⟩ = some (.slice none 0 0) := (blk_cell BK167.out 1).trans rfl
                have hfz15_0 := blk_frozen BK167.out 0
                have hfz15_1 := blk_frozen BK167.out 1
                go_wp2
                go_meet
                case rel => exact ⟨_, (decide ((((rd_T53 (rd_L6 l0 a1) a2).f1).length : Int) > 3)), (by first | rfl | (simp; done) | (simp [*]; done)), H', ⟨by first | omega | exact Nat.le_refl _⟩, ⟨by (with_reducible repeat (first | refine blk_drewN ?_ _ | refine blk_drew ?_ | refine blk_alloc ?_ _)); refine blk_put (cs := #[.int .i64 ((rd_T53 (rd_L6 l0 a1) a2).f0), .slice none 0 0]) ?_ 1 _ rfl; (with_reducible repeat (first | refine blk_drewN ?_ _ | refine blk_drew ?_ | refine blk_alloc ?_ _)); refine blk_put (cs := #[.int .i64 0, .slice none 0 0]) ?_ 0 _ rfl; (with_reducible repeat (first | refine blk_drewN ?_ _ | refine blk_drew ?_ | refine blk_alloc ?_ _)); exact BK167.out⟩, ⟨by repeat (first | (with_reducible first | exact HB.out | apply below_alloc | apply pw_below_drewN | apply below_drew1 | refine below_set ?_ GE167.out) | exact HB.out)⟩⟩
          case rest =>
            clear HC8
            try clear c1
            try clear p1
            try clear q1
            try clear hx1
            try clear p2
            try clear c4
            try clear c4b0
            try clear c5
            try clear c5b0
            try clear c6
            try clear c6b0
            try clear c7
            try clear c7b0
            try clear c11
            try clear c11b0
            try clear c13
            try clear c13b0
            try clear hcz10_0
            try clear hcz10_1
            try clear hcz12_0
            try clear hcz12_1
            try clear hcz14_0
            try clear hcz14_1
            try clear hcz15_0
            try clear hcz15_1
            try clear hfz10_0
            try clear hfz10_1
            try clear hfz12_0
            try clear hfz12_1
            try clear hfz14_0
            try clear hfz14_1
            try clear hfz15_0
            try clear hfz15_1
            try clear hx165_0
            try clear hx166_0
            try clear hx166_1
            try clear p165
            try clear p166
            try clear q165
            try clear q166
            obtain ⟨kq, x34_7, rfl, HA, HJ7, BK167, HB⟩ := hcut
            cases kq with
            | zero => exact absurd HA.out (by simp [impl_recordOk.j0])
            | succ kj7 =>
              have H := HA.out
              clear HA
              simp only [impl_recordOk.j0] at H
              by_cases c16 : x34_7 = true
              · subst c16
                have H1 : (some false) = some r := by rw [if_pos rfl] at H; exact H
                clear H
                have H := H1
                clear H1
                obtain rfl := Option.some.inj H
                go_wp2
                go_ret
                exact ⟨by first | rfl | (simp [errW_none, errW_some] <;> rfl) | (simp [*, errW_none, errW_some] <;> rfl), by repeat (first | (with_reducible first | exact HB.out | apply below_alloc | apply pw_below_drewN | apply below_drew1 | refine below_set ?_ GE167.out) | exact HB.out)⟩
              · replace c16 := Bool.eq_false_iff.mpr c16
                subst c16
                have H1 : (impl_recordOk.l0 kj7 l0 a1 a2 ((rd_T53 (rd_L6 l0 a1) a2).f1) (((rd_T53 (rd_L6 l0 a1) a2).f1).length : Int) 0 ((rd_T53 (rd_L6 l0 a1) a2).f0) ((rd_T53 (rd_L6 l0 a1) a2).f1)) = some r := by rw [if_neg (show ¬ (false = true) by decide)] at H; exact H
                clear H
                have H := H1
                clear H1
                have H' := Aside0.mk H
                clear H
                have hcz17_0 : wc.cell? ⟨gb167, 0, none⟩ = some (.int .i64 ((rd_T53 (rd_L6 l0 a1) a2).f0)) := (blk_cell BK167.out 0).trans rfl
                have hcz17_1 : wc.cell? ⟨gb167, 1, none⟩ = some (.slice A166_1 ((rd_T53 (rd_L6 l0 a1) a2).f1).length c166_1) := (blk_cell BK167.out 1).trans rfl
                have hfz17_0 := blk_frozen BK167.out 0
                have hfz17_1 := blk_frozen BK167.out 1
                go_wp2
                go_loopg [38] kj7 (fun kq v38 w' => ∃ (x38_2 : Int), v38 = .int .i64 x38_2 ∧ Aside0 (impl_recordOk.l0 kq l0 a1 a2 ((rd_T53 (rd_L6 l0 a1) a2).f1) (((rd_T53 (rd_L6 l0 a1) a2).f1).length : Int) x38_2 ((rd_T53 (rd_L6 l0 a1) a2).f0) ((rd_T53 (rd_L6 l0 a1) a2).f1) = some r) ∧ Aside0 (kq ≤ kj7) ∧ Aside0 (w'.heap[gb167]? = some (.cells #[.int .i64 ((rd_T53 (rd_L6 l0 a1) a2).f0), (.slice A166_1 ((rd_T53 (rd_L6 l0 a1) a2).f1).length c166_1)] 53 (0, 0))) ∧ Aside0 (Below w.heap.size w w'))
                case atStart => exact ⟨(0), (by first | rfl | (simp; done) | (simp [*]; done)), H', ⟨Nat.le_refl _⟩, ⟨by (with_reducible repeat (first | refine blk_drewN ?_ _ | refine blk_drew ?_ | refine blk_alloc ?_ _)); exact BK167.out⟩, ⟨by repeat (first | (with_reducible first | exact HB.out | apply below_alloc | apply pw_below_drewN | apply below_drew1 | refine below_set ?_ GE167.out) | exact HB.out)⟩⟩
                case round =>
                  clear H'
                  try clear c1
                  try clear p1
                  try clear q1
                  try clear hx1
                  try clear p2
                  try clear c4
                  try clear c4b0
                  try clear c5
                  try clear c5b0
                  try clear c6
                  try clear c6b0
                  try clear c7
                  try clear c7b0
                  try clear c11
                  try clear c11b0
                  try clear c13
                  try clear c13b0
                  try clear c16
                  try clear p16
                  try clear q16
                  try clear hx16
                  try clear hcz10_0
                  try clear hcz10_1
                  try clear hcz12_0
                  try clear hcz12_1
                  try clear hcz14_0
                  try clear hcz14_1
                  try clear hcz15_0
                  try clear hcz15_1
                  try clear hcz17_0
                  try clear hcz17_1
                  try clear hfz10_0
                  try clear hfz10_1
                  try clear hfz12_0
                  try clear hfz12_1
                  try clear hfz14_0
                  try clear hfz14_1
                  try clear hfz15_0
                  try clear hfz15_1
                  try clear hfz17_0
                  try clear hfz17_1
                  try clear hx165_0
                  try clear hx166_0
                  try clear hx166_1
                  try clear p1
                  try clear p165
                  try clear p166
                  try clear p2
                  try clear q1
                  try clear q165
                  try clear q166
                  obtain ⟨x38_2, rfl, HA, HK2, BK167, HB⟩ := hrel
                  cases gk with
                  | zero => exact absurd HA.out (by simp [impl_recordOk.l0])
                  | succ k2 =>
                    have H := HA.out
                    clear HA
                    simp only [impl_recordOk.l0] at H
                    by_cases c18 : x38_2 < (((rd_T53 (rd_L6 l0 a1) a2).f1).length : Int)
                    · rw [if_pos c18] at H
                      have c18b0 : decide (x38_2 < (((rd_T53 (rd_L6 l0 a1) a2).f1).length : Int)) = true := decide_eq_true c18
                      clear c18
                      by_cases c19 : 0 ≤ x38_2
                      · rw [if_pos c19] at H
                        have c19b0 : decide (0 ≤ x38_2) = true := decide_eq_true c19
                        clear c19
                        by_cases c20 : x38_2 < (((rd_T53 (rd_L6 l0 a1) a2).f1).length : Int)
                        · rw [if_pos c20] at H
                          have c20b0 : decide (x38_2 < (((rd_T53 (rd_L6 l0 a1) a2).f1).length : Int)) = true := decide_eq_true c20
                          clear c20
                          replace H := Option.bind_eq_some_iff.mp H
                          obtain ⟨⟨t169, t170, t171⟩, A210, H⟩ := H
                          replace H : (if t171 = true then (if t169 > a1 then (impl_recordOk.j2 k2 l0 a1 a2 (rdOf ByteArray.empty ((rd_T53 (rd_L6 l0 a1) a2).f1) x38_2) ((rd_T53 (rd_L6 l0 a1) a2).f1) (((rd_T53 (rd_L6 l0 a1) a2).f1).length : Int) x38_2 true ((rd_T53 (rd_L6 l0 a1) a2).f0) ((rd_T53 (rd_L6 l0 a1) a2).f1)) else (if t169 = a1 then (if t170 ≥ a2 then (impl_recordOk.j2 k2 l0 a1 a2 (rdOf ByteArray.empty ((rd_T53 (rd_L6 l0 a1) a2).f1) x38_2) ((rd_T53 (rd_L6 l0 a1) a2).f1) (((rd_T53 (rd_L6 l0 a1) a2).f1).length : Int) x38_2 true ((rd_T53 (rd_L6 l0 a1) a2).f0) ((rd_T53 (rd_L6 l0 a1) a2).f1)) else ((impl_plainOk.f l0 (rdOf ByteArray.empty ((rd_T53 (rd_L6 l0 a1) a2).f1) x38_2)).bind fun t172 => (impl_recordOk.j2 k2 l0 a1 a2 (rdOf ByteArray.empty ((rd_T53 (rd_L6 l0 a1) a2).f1) x38_2) ((rd_T53 (rd_L6 l0 a1) a2).f1) (((rd_T53 (rd_L6 l0 a1) a2).f1).length : Int) x38_2 (!t172) ((rd_T53 (rd_L6 l0 a1) a2).f0) ((rd_T53 (rd_L6 l0 a1) a2).f1)))) else ((impl_plainOk.f l0 (rdOf ByteArray.empty ((rd_T53 (rd_L6 l0 a1) a2).f1) x38_2)).bind fun t173 => (impl_recordOk.j2 k2 l0 a1 a2 (rdOf ByteArray.empty ((rd_T53 (rd_L6 l0 a1) a2).f1) x38_2) ((rd_T53 (rd_L6 l0 a1) a2).f1) (((rd_T53 (rd_L6 l0 a1) a2).f1).length : Int) x38_2 (!t173) ((rd_T53 (rd_L6 l0 a1) a2).f0) ((rd_T53 (rd_L6 l0 a1) a2).f1))))) else ((impl_plainOk.f l0 (rdOf ByteArray.empty ((rd_T53 (rd_L6 l0 a1) a2).f1) x38_2)).bind fun t174 => (impl_recordOk.j2 k2 l0 a1 a2 (rdOf ByteArray.empty ((rd_T53 (rd_L6 l0 a1) a2).f1) x38_2) ((rd_T53 (rd_L6 l0 a1) a2).f1) (((rd_T53 (rd_L6 l0 a1) a2).f1).length : Int) x38_2 (!t174) ((rd_T53 (rd_L6 l0 a1) a2).f0) ((rd_T53 (rd_L6 l0 a1) a2).f1)))) = some r := H
                          have A21 := Aside0.mk A210
                          clear A210
                          have HC22 := Aside0.mk H
                          clear H
                          have p168 : 0 ≤ (x38_2 : Int) := of_decide_eq_true (by first | (with_reducible assumption) | assumption)
                          have q168 : x38_2 < (((rd_T53 (rd_L6 l0 a1) a2).f1).length : Int) := of_decide_eq_true (by first | (with_reducible assumption) | assumption)
                          obtain ⟨ad168, e168, hx168_0⟩ := Kd.at_string HR166_1.out x38_2 p168 q168
                          cases e168
                          replace hx168_0 := (HB.out.cell (World.block_lt_of_cell? w _ hx168_0)).trans hx168_0
                          replace p168 := eq_true p168
                          replace q168 := eq_true q168
                          go_upto_region 8 with (first | ((with_reducible refine gate_callee (f := 61) rfl ?_); refine goesL_ (some 44) rfl rfl Try.func61 (by kernel_rfl) rfl #[.string (rdOf ByteArray.empty ((rd_T53 (rd_L6 l0 a1) a2).f1) x38_2)] rfl (by (try simp only [List.map_toArray, List.map_cons, List.map_nil]); first | done | rfl | (simp only [List.length_drop, List.length_take]; rfl)) ?_; (with_reducible refine (impl_kindAt.calls (rdOf ByteArray.empty ((rd_T53 (rd_L6 l0 a1) a2).f1) x38_2) t169 t170 t171 _ A21.out).mono ?_); rintro e w' ⟨rfl, ⟨nd, rfl⟩⟩; refine ⟨_, rfl, ?_⟩))
                          (try simp only [Act.put, List.setIfInBounds_toArray, List.set_cons_zero, List.set_cons_succ])
                          go_cut [69] (fun v69 wc => ∃ (kq : Nat) (x69_21 : Bool), v69 = .bool x69_21 ∧ Aside0 (impl_recordOk.j2 kq l0 a1 a2 (rdOf ByteArray.empty ((rd_T53 (rd_L6 l0 a1) a2).f1) x38_2) ((rd_T53 (rd_L6 l0 a1) a2).f1) (((rd_T53 (rd_L6 l0 a1) a2).f1).length : Int) x38_2 x69_21 ((rd_T53 (rd_L6 l0 a1) a2).f0) ((rd_T53 (rd_L6 l0 a1) a2).f1) = some r) ∧ Aside0 (kq ≤ k2) ∧ Aside0 (wc.heap[gb167]? = some (.cells #[.int .i64 ((rd_T53 (rd_L6 l0 a1) a2).f0), (.slice (some ad168) ((rd_T53 (rd_L6 l0 a1) a2).f1).length c166_1)] 53 (0, 0))) ∧ Aside0 (Below w.heap.size w wc))
                          case first =>
                            have H := HC22.out
                            clear HC22
                            by_cases c23 : t171 = true
                            · subst c23
                              have H1 : (if t169 > a1 then (impl_recordOk.j2 k2 l0 a1 a2 (rdOf ByteArray.empty ((rd_T53 (rd_L6 l0 a1) a2).f1) x38_2) ((rd_T53 (rd_L6 l0 a1) a2).f1) (((rd_T53 (rd_L6 l0 a1) a2).f1).length : Int) x38_2 true ((rd_T53 (rd_L6 l0 a1) a2).f0) ((rd_T53 (rd_L6 l0 a1) a2).f1)) else (if t169 = a1 then (if t170 ≥ a2 then (impl_recordOk.j2 k2 l0 a1 a2 (rdOf ByteArray.empty ((rd_T53 (rd_L6 l0 a1) a2).f1) x38_2) ((rd_T53 (rd_L6 l0 a1) a2).f1) (((rd_T53 (rd_L6 l0 a1) a2).f1).length : Int) x38_2 true ((rd_T53 (rd_L6 l0 a1) a2).f0) ((rd_T53 (rd_L6 l0 a1) a2).f1)) else ((impl_plainOk.f l0 (rdOf ByteArray.empty ((rd_T53 (rd_L6 l0 a1) a2).f1) x38_2)).bind fun t172 => (impl_recordOk.j2 k2 l0 a1 a2 (rdOf ByteArray.empty ((rd_T53 (rd_L6 l0 a1) a2).f1) x38_2) ((rd_T53 (rd_L6 l0 a1) a2).f1) (((rd_T53 (rd_L6 l0 a1) a2).f1).length : Int) x38_2 (!t172) ((rd_T53 (rd_L6 l0 a1) a2).f0) ((rd_T53 (rd_L6 l0 a1) a2).f1)))) else ((impl_plainOk.f l0 (rdOf ByteArray.empty ((rd_T53 (rd_L6 l0 a1) a2).f1) x38_2)).bind fun t173 => (impl_recordOk.j2 k2 l0 a1 a2 (rdOf ByteArray.empty ((rd_T53 (rd_L6 l0 a1) a2).f1) x38_2) ((rd_T53 (rd_L6 l0 a1) a2).f1) (((rd_T53 (rd_L6 l0 a1) a2).f1).length : Int) x38_2 (!t173) ((rd_T53 (rd_L6 l0 a1) a2).f0) ((rd_T53 (rd_L6 l0 a1) a2).f1))))) = some r := by rw [if_pos rfl] at H; exact H
                              clear H
                              have H := H1
                              clear H1
                              by_cases c24 : t169 > a1
                              · rw [if_pos c24] at H
                                have c24b0 : decide (a1 < t169) = true := decide_eq_true c24
                                clear c24
                                (first | rw [c24b0] | (simp only [i64_w, i32_w]; rw [c24b0]) | skip)
                                have H' := Aside0.mk H
                                clear H
                                go_wp2
                                go_meet
                                case rel => exact ⟨_, (true), (by first | rfl | (simp; done) | (simp [*]; done)), H', ⟨by have := HJ7.out; have := HK2.out; first | omega | exact Nat.le_refl _⟩, ⟨by (with_reducible repeat (first | refine blk_drewN ?_ _ | refine blk_drew ?_ | refine blk_alloc ?_ _)); exact BK167.out⟩, ⟨by repeat (first | (with_reducible first | exact HB.out | apply below_alloc | apply pw_below_drewN | apply below_drew1 | refine below_set ?_ GE167.out) | exact HB.out)⟩⟩
                              · rw [if_neg c24] at H
                                have c24b0 : decide (a1 < t169) = false := decide_eq_false c24
                                clear c24
                                (first | rw [c24b0] | (simp only [i64_w, i32_w]; rw [c24b0]) | skip)
                                by_cases c25 : t169 = a1
                                · rw [if_pos c25] at H
                                  have c25b0 : (t169 == a1) = true := beq_iff_eq.mpr c25
                                  have c25b1 : (t169 != a1) = false := bne_eq_false_iff_eq.mpr c25
                                  clear c25
                                  by_cases c26 : t170 ≥ a2
                                  · rw [if_pos c26] at H
                                    have c26b0 : decide (a2 ≤ t170) = true := decide_eq_true c26
                                    clear c26
                                    have H' := Aside0.mk H
                                    clear H
                                    go_wp2
                                    go_meet
                                    case rel => exact ⟨_, (true), (by first | rfl | (simp; done) | (simp [*]; done)), H', ⟨by have := HJ7.out; have := HK2.out; first | omega | exact Nat.le_refl _⟩, ⟨by (with_reducible repeat (first | refine blk_drewN ?_ _ | refine blk_drew ?_ | refine blk_alloc ?_ _)); exact BK167.out⟩, ⟨by repeat (first | (with_reducible first | exact HB.out | apply below_alloc | apply pw_below_drewN | apply below_drew1 | refine below_set ?_ GE167.out) | exact HB.out)⟩⟩
                                  · rw [if_neg c26] at H
                                    have c26b0 : decide (a2 ≤ t170) = false := decide_eq_false c26
                                    clear c26
                                    replace H := Option.bind_eq_some_iff.mp H
                                    obtain ⟨t172, A270, H⟩ := H
                                    replace H : (impl_recordOk.j2 k2 l0 a1 a2 (rdOf ByteArray.empty ((rd_T53 (rd_L6 l0 a1) a2).f1) x38_2) ((rd_T53 (rd_L6 l0 a1) a2).f1) (((rd_T53 (rd_L6 l0 a1) a2).f1).length : Int) x38_2 (!t172) ((rd_T53 (rd_L6 l0 a1) a2).f0) ((rd_T53 (rd_L6 l0 a1) a2).f1)) = some r := H
                                    have A27 := Aside0.mk A270
                                    clear A270
                                    have H' := Aside0.mk H
                                    clear H
                                    go_wp2_with (first | (go_at_call 49; (with_reducible refine (impl_plainOk.calls _ _ l0 (rdOf ByteArray.empty ((rd_T53 (rd_L6 l0 a1) a2).f1) x38_2) t172 _ ?side1 ?side2 A27.out).mono ?_); (case side1 => repeat (first | exact (Kd.C_below HR0.out HB.out) | (with_reducible refine Kd.C_alloc ?_ _) | (with_reducible refine Kd.C_drewN ?_ _) | (with_reducible refine Kd.C_drew ?_))); (case side2 => exact HC0.out); rintro e w' ⟨rfl, ⟨nd, rfl⟩⟩))
                                    go_meet
                                    case rel => exact ⟨_, (!t172), (by first | rfl | (simp; done) | (simp [*]; done)), H', ⟨by have := HJ7.out; have := HK2.out; first | omega | exact Nat.le_refl _⟩, ⟨by (with_reducible repeat (first | refine blk_drewN ?_ _ | refine blk_drew ?_ | refine blk_alloc ?_ _)); exact BK167.out⟩, ⟨by repeat (first | (with_reducible first | exact HB.out | apply below_alloc | apply pw_below_drewN | apply below_drew1 | refine below_set ?_ GE167.out) | exact HB.out)⟩⟩
                                · rw [if_neg c25] at H
                                  have c25b0 : (t169 == a1) = false := beq_eq_false_iff_ne.mpr c25
                                  have c25b1 : (t169 != a1) = true := bne_iff_ne.mpr c25
                                  replace H := Option.bind_eq_some_iff.mp H
                                  obtain ⟨t173, A280, H⟩ := H
                                  replace H : (impl_recordOk.j2 k2 l0 a1 a2 (rdOf ByteArray.empty ((rd_T53 (rd_L6 l0 a1) a2).f1) x38_2) ((rd_T53 (rd_L6 l0 a1) a2).f1) (((rd_T53 (rd_L6 l0 a1) a2).f1).length : Int) x38_2 (!t173) ((rd_T53 (rd_L6 l0 a1) a2).f0) ((rd_T53 (rd_L6 l0 a1) a2).f1)) = some r := H
                                  have A28 := Aside0.mk A280
                                  clear A280
                                  have H' := Aside0.mk H
                                  clear H
                                  go_wp2_with (first | (go_at_call 49; (with_reducible refine (impl_plainOk.calls _ _ l0 (rdOf ByteArray.empty ((rd_T53 (rd_L6 l0 a1) a2).f1) x38_2) t173 _ ?side1 ?side2 A28.out).mono ?_); (case side1 => repeat (first | exact (Kd.C_below HR0.out HB.out) | (with_reducible refine Kd.C_alloc ?_ _) | (with_reducible refine Kd.C_drewN ?_ _) | (with_reducible refine Kd.C_drew ?_))); (case side2 => exact HC0.out); rintro e w' ⟨rfl, ⟨nd, rfl⟩⟩))
                                  go_meet
                                  case rel => exact ⟨_, (!t173), (by first | rfl | (simp; done) | (simp [*]; done)), H', ⟨by have := HJ7.out; have := HK2.out; first | omega | exact Nat.le_refl _⟩, ⟨by (with_reducible repeat (first | refine blk_drewN ?_ _ | refine blk_drew ?_ | refine blk_alloc ?_ _)); exact BK167.out⟩, ⟨by repeat (first | (with_reducible first | exact HB.out | apply below_alloc | apply pw_below_drewN | apply below_drew1 | refine below_set ?_ GE167.out) | exact HB.out)⟩⟩
                            · replace c23 := Bool.eq_false_iff.mpr c23
                              subst c23
                              have H1 : ((impl_plainOk.f l0 (rdOf ByteArray.empty ((rd_T53 (rd_L6 l0 a1) a2).f1) x38_2)).bind fun t174 => (impl_recordOk.j2 k2 l0 a1 a2 (rdOf ByteArray.empty ((rd_T53 (rd_L6 l0 a1) a2).f1) x38_2) ((rd_T53 (rd_L6 l0 a1) a2).f1) (((rd_T53 (rd_L6 l0 a1) a2).f1).length : Int) x38_2 (!t174) ((rd_T53 (rd_L6 l0 a1) a2).f0) ((rd_T53 (rd_L6 l0 a1) a2).f1))) = some r := by rw [if_neg (show ¬ (false = true) by decide)] at H; exact H
                              clear H
                              have H := H1
                              clear H1
                              replace H := Option.bind_eq_some_iff.mp H
                              obtain ⟨t174, A290, H⟩ := H
                              replace H : (impl_recordOk.j2 k2 l0 a1 a2 (rdOf ByteArray.empty ((rd_T53 (rd_L6 l0 a1) a2).f1) x38_2) ((rd_T53 (rd_L6 l0 a1) a2).f1) (((rd_T53 (rd_L6 l0 a1) a2).f1).length : Int) x38_2 (!t174) ((rd_T53 (rd_L6 l0 a1) a2).f0) ((rd_T53 (rd_L6 l0 a1) a2).f1)) = some r := H
                              have A29 := Aside0.mk A290
                              clear A290
                              have H' := Aside0.mk H
                              clear H
                              go_wp2_with (first | (go_at_call 49; (with_reducible refine (impl_plainOk.calls _ _ l0 (rdOf ByteArray.empty ((rd_T53 (rd_L6 l0 a1) a2).f1) x38_2) t174 _ ?side1 ?side2 A29.out).mono ?_); (case side1 => repeat (first | exact (Kd.C_below HR0.out HB.out) | (with_reducible refine Kd.C_alloc ?_ _) | (with_reducible refine Kd.C_drewN ?_ _) | (with_reducible refine Kd.C_drew ?_))); (case side2 => exact HC0.out); rintro e w' ⟨rfl, ⟨nd, rfl⟩⟩))
                              go_meet
                              case rel => exact ⟨_, (!t174), (by first | rfl | (simp; done) | (simp [*]; done)), H', ⟨by have := HJ7.out; have := HK2.out; first | omega | exact Nat.le_refl _⟩, ⟨by (with_reducible repeat (first | refine blk_drewN ?_ _ | refine blk_drew ?_ | refine blk_alloc ?_ _)); exact BK167.out⟩, ⟨by repeat (first | (with_reducible first | exact HB.out | apply below_alloc | apply pw_below_drewN | apply below_drew1 | refine below_set ?_ GE167.out) | exact HB.out)⟩⟩
                          case rest =>
                            clear HC22
                            try clear c1
                            try clear p1
                            try clear q1
                            try clear hx1
                            try clear c2
                            try clear p2
                            try clear c4
                            try clear c4b0
                            try clear c5
                            try clear c5b0
                            try clear c6
                            try clear c6b0
                            try clear c7
                            try clear c7b0
                            try clear c11
                            try clear c11b0
                            try clear c13
                            try clear c13b0
                            try clear c16
                            try clear p16
                            try clear q16
                            try clear hx16
                            try clear c18
                            try clear c18b0
                            try clear c19
                            try clear c19b0
                            try clear c20
                            try clear c20b0
                            try clear c23
                            try clear c24
                            try clear c24b0
                            try clear c25
                            try clear c25b0
                            try clear c25b1
                            try clear c26
                            try clear c26b0
                            try clear hcz10_0
                            try clear hcz10_1
                            try clear hcz12_0
                            try clear hcz12_1
                            try clear hcz14_0
                            try clear hcz14_1
                            try clear hcz15_0
                            try clear hcz15_1
                            try clear hcz17_0
                            try clear hcz17_1
                            try clear hfz10_0
                            try clear hfz10_1
                            try clear hfz12_0
                            try clear hfz12_1
                            try clear hfz14_0
                            try clear hfz14_1
                            try clear hfz15_0
                            try clear hfz15_1
                            try clear hfz17_0
                            try clear hfz17_1
                            try clear hx165_0
                            try clear hx166_0
                            try clear hx166_1
                            try clear hx168_0
                            try clear p1
                            try clear p16
                            try clear p165
                            try clear p166
                            try clear p168
                            try clear p2
                            try clear q1
                            try clear q16
                            try clear q165
                            try clear q166
                            try clear q168
                            obtain ⟨kq, x69_21, rfl, HA, HJ21, BK167, HB⟩ := hcut
                            cases kq with
                            | zero => exact absurd HA.out (by simp [impl_recordOk.j2])
                            | succ kj21 =>
                              have H := HA.out
                              clear HA
                              simp only [impl_recordOk.j2] at H
                              by_cases c30 : x69_21 = true
                              · subst c30
                                have H1 : (some false) = some r := by rw [if_pos rfl] at H; exact H
                                clear H
                                have H := H1
                                clear H1
                                obtain rfl := Option.some.inj H
                                go_wp2
                                go_ret
                                exact ⟨by first | rfl | (simp [errW_none, errW_some] <;> rfl) | (simp [*, errW_none, errW_some] <;> rfl), by repeat (first | (with_reducible first | exact HB.out | apply below_alloc | apply pw_below_drewN | apply below_drew1 | refine below_set ?_ GE167.out) | exact HB.out)⟩
                              · replace c30 := Bool.eq_false_iff.mpr c30
                                subst c30
                                have H1 : ((impl_ableOf.f l0 (rdOf ByteArray.empty ((rd_T53 (rd_L6 l0 a1) a2).f1) x38_2)).bind fun t175 => (if (Go.bits .andNot .i64 (Go.bits .and .i64 ((rd_T53 (rd_L6 l0 a1) a2).f0) 7) t175) = 0 then (if (Go.bits .and .i64 ((rd_T53 (rd_L6 l0 a1) a2).f0) 8) = 0 then (impl_recordOk.l0 kj21 l0 a1 a2 ((rd_T53 (rd_L6 l0 a1) a2).f1) (((rd_T53 (rd_L6 l0 a1) a2).f1).length : Int) (wrap64 (x38_2 + 1)) ((rd_T53 (rd_L6 l0 a1) a2).f0) ((rd_T53 (rd_L6 l0 a1) a2).f1)) else (if (Go.bits .and .i64 t175 4) = 0 then (some false) else (impl_recordOk.l0 kj21 l0 a1 a2 ((rd_T53 (rd_L6 l0 a1) a2).f1) (((rd_T53 (rd_L6 l0 a1) a2).f1).length : Int) (wrap64 (x38_2 + 1)) ((rd_T53 (rd_L6 l0 a1) a2).f0) ((rd_T53 (rd_L6 l0 a1) a2).f1)))) else (some false))) = some r := by rw [if_neg (show ¬ (false = true) by decide)] at H; exact H
                                clear H
                                have H := H1
                                clear H1
                                replace H := Option.bind_eq_some_iff.mp H
                                obtain ⟨t175, A310, H⟩ := H
                                replace H : (if (Go.bits .andNot .i64 (Go.bits .and .i64 ((rd_T53 (rd_L6 l0 a1) a2).f0) 7) t175) = 0 then (if (Go.bits .and .i64 ((rd_T53 (rd_L6 l0 a1) a2).f0) 8) = 0 then (impl_recordOk.l0 kj21 l0 a1 a2 ((rd_T53 (rd_L6 l0 a1) a2).f1) (((rd_T53 (rd_L6 l0 a1) a2).f1).length : Int) (wrap64 (x38_2 + 1)) ((rd_T53 (rd_L6 l0 a1) a2).f0) ((rd_T53 (rd_L6 l0 a1) a2).f1)) else (if (Go.bits .and .i64 t175 4) = 0 then (some false) else (impl_recordOk.l0 kj21 l0 a1 a2 ((rd_T53 (rd_L6 l0 a1) a2).f1) (((rd_T53 (rd_L6 l0 a1) a2).f1).length : Int) (wrap64 (x38_2 + 1)) ((rd_T53 (rd_L6 l0 a1) a2).f0) ((rd_T53 (rd_L6 l0 a1) a2).f1)))) else (some false)) = some r := H
                                have A31 := Aside0.mk A310
                                clear A310
                                by_cases c32 : (Go.bits .andNot .i64 (Go.bits .and .i64 ((rd_T53 (rd_L6 l0 a1) a2).f0) 7) t175) = 0
                                · rw [if_pos c32] at H
                                  have c32b0 : ((Go.bits .andNot .i64 (Go.bits .and .i64 ((rd_T53 (rd_L6 l0 a1) a2).f0) 7) t175) == 0) = true := beq_iff_eq.mpr c32
                                  have c32b1 : ((Go.bits .andNot .i64 (Go.bits .and .i64 ((rd_T53 (rd_L6 l0 a1) a2).f0) 7) t175) != 0) = false := bne_eq_false_iff_eq.mpr c32
                                  clear c32
                                  by_cases c33 : (Go.bits .and .i64 ((rd_T53 (rd_L6 l0 a1) a2).f0) 8) = 0
                                  · rw [if_pos c33] at H
                                    have c33b0 : ((Go.bits .and .i64 ((rd_T53 (rd_L6 l0 a1) a2).f0) 8) == 0) = true := beq_iff_eq.mpr c33
                                    have c33b1 : ((Go.bits .and .i64 ((rd_T53 (rd_L6 l0 a1) a2).f0) 8) != 0) = false := bne_eq_false_iff_eq.mpr c33
                                    clear c33
                                    have H' := Aside0.mk H
                                    clear H
                                    go_wp2_with (first | ((with_reducible refine gate_callee (f := 52) rfl ?_); refine goesL_ (some 72) rfl rfl Try.func52 (by kernel_rfl) rfl #[.slice (some ad165) l0.length c0, .string (rdOf ByteArray.empty ((rd_T53 (rd_L6 l0 a1) a2).f1) x38_2)] rfl (by (try simp only [List.map_toArray, List.map_cons, List.map_nil]); first | done | rfl | (simp only [List.length_drop, List.length_take]; rfl)) ?_; (with_reducible refine (impl_ableOf.calls _ _ l0 (rdOf ByteArray.empty ((rd_T53 (rd_L6 l0 a1) a2).f1) x38_2) t175 _ ?side1 ?side2 A31.out).mono ?_); (case side1 => repeat (first | exact (Kd.C_below HR0.out HB.out) | (with_reducible refine Kd.C_alloc ?_ _) | (with_reducible refine Kd.C_drewN ?_ _) | (with_reducible refine Kd.C_drew ?_))); (case side2 => exact HC0.out); rintro e w34 ⟨rfl, hb⟩; refine ⟨_, rfl, ?_⟩; have n0_ := Aside0.mk (blk_below (g := gb167) (o := .cells #[.int .i64 ((rd_T53 (rd_L6 l0 a1) a2).f0), .slice (some ad168) ((rd_T53 (rd_L6 l0 a1) a2).f1).length c166_1] 53 (0, 0)) (by (with_reducible repeat (first | refine blk_drewN ?_ _ | refine blk_drew ?_ | refine blk_alloc ?_ _)); exact BK167.out) hb); have n1_ := Aside0.mk (below_step (by repeat (first | (with_reducible first | exact HB.out | apply below_alloc | apply pw_below_drewN | apply below_drew1 | refine below_set ?_ GE167.out) | exact HB.out)) hb); clear BK167; clear HB; have BK167 := n0_; have HB := n1_; clear n0_ n1_; (try clear hb); (try clear hb2); (try clear hk); (try clear hi); have hcz35_0 : w34.cell? ⟨gb167, 0, none⟩ = some (.int .i64 ((rd_T53 (rd_L6 l0 a1) a2).f0)) := (blk_cell BK167.out 0).trans rfl; have hcz35_1 : w34.cell? ⟨gb167, 1, none⟩ = some (.slice (some ad168) ((rd_T53 (rd_L6 l0 a1) a2).f1).length c166_1) := (blk_cell BK167.out 1).trans rfl; have hfz35_0 := blk_frozen BK167.out 0; have hfz35_1 := blk_frozen BK167.out 1))
                                    go_roundg kj21
                                    case measure => have := HJ7.out; have := HK2.out; have := HJ21.out; omega
                                    case rel => exact ⟨(wrap64 (x38_2 + 1)), (by first | rfl | (simp; done) | (simp [*]; done)), H', ⟨by have := HJ7.out; have := HK2.out; have := HJ21.out; omega⟩, ⟨by (with_reducible repeat (first | refine blk_drewN ?_ _ | refine blk_drew ?_ | refine blk_alloc ?_ _)); exact BK167.out⟩, ⟨by repeat (first | (with_reducible first | exact HB.out | apply below_alloc | apply pw_below_drewN | apply below_drew1 | refine below_set ?_ GE167.out) | exact HB.out)⟩⟩
                                  · rw [if_neg c33] at H
                                    have c33b0 : ((Go.bits .and .i64 ((rd_T53 (rd_L6 l0 a1) a2).f0) 8) == 0) = false := beq_eq_false_iff_ne.mpr c33
                                    have c33b1 : ((Go.bits .and .i64 ((rd_T53 (rd_L6 l0 a1) a2).f0) 8) != 0) = true := bne_iff_ne.mpr c33
                                    by_cases c36 : (Go.bits .and .i64 t175 4) = 0
                                    · rw [if_pos c36] at H
                                      have c36b0 : ((Go.bits .and .i64 t175 4) == 0) = true := beq_iff_eq.mpr c36
                                      have c36b1 : ((Go.bits .and .i64 t175 4) != 0) = false := bne_eq_false_iff_eq.mpr c36
                                      clear c36
                                      obtain rfl := Option.some.inj H
                                      go_wp2_with (first | ((with_reducible refine gate_callee (f := 52) rfl ?_); refine goesL_ (some 72) rfl rfl Try.func52 (by kernel_rfl) rfl #[.slice (some ad165) l0.length c0, .string (rdOf ByteArray.empty ((rd_T53 (rd_L6 l0 a1) a2).f1) x38_2)] rfl (by (try simp only [List.map_toArray, List.map_cons, List.map_nil]); first | done | rfl | (simp only [List.length_drop, List.length_take]; rfl)) ?_; (with_reducible refine (impl_ableOf.calls _ _ l0 (rdOf ByteArray.empty ((rd_T53 (rd_L6 l0 a1) a2).f1) x38_2) t175 _ ?side1 ?side2 A31.out).mono ?_); (case side1 => repeat (first | exact (Kd.C_below HR0.out HB.out) | (with_reducible refine Kd.C_alloc ?_ _) | (with_reducible refine Kd.C_drewN ?_ _) | (with_reducible refine Kd.C_drew ?_))); (case side2 => exact HC0.out); rintro e w37 ⟨rfl, hb⟩; refine ⟨_, rfl, ?_⟩; have n0_ := Aside0.mk (blk_below (g := gb167) (o := .cells #[.int .i64 ((rd_T53 (rd_L6 l0 a1) a2).f0), .slice (some ad168) ((rd_T53 (rd_L6 l0 a1) a2).f1).length c166_1] 53 (0, 0)) (by (with_reducible repeat (first | refine blk_drewN ?_ _ | refine blk_drew ?_ | refine blk_alloc ?_ _)); exact BK167.out) hb); have n1_ := Aside0.mk (below_step (by repeat (first | (with_reducible first | exact HB.out | apply below_alloc | apply pw_below_drewN | apply below_drew1 | refine below_set ?_ GE167.out) | exact HB.out)) hb); clear BK167; clear HB; have BK167 := n0_; have HB := n1_; clear n0_ n1_; (try clear hb); (try clear hb2); (try clear hk); (try clear hi); have hcz38_0 : w37.cell? ⟨gb167, 0, none⟩ = some (.int .i64 ((rd_T53 (rd_L6 l0 a1) a2).f0)) := (blk_cell BK167.out 0).trans rfl; have hcz38_1 : w37.cell? ⟨gb167, 1, none⟩ = some (.slice (some ad168) ((rd_T53 (rd_L6 l0 a1) a2).f1).length c166_1) := (blk_cell BK167.out 1).trans rfl; have hfz38_0 := blk_frozen BK167.out 0; have hfz38_1 := blk_frozen BK167.out 1))
                                      go_ret
                                      exact ⟨by first | rfl | (simp [errW_none, errW_some] <;> rfl) | (simp [*, errW_none, errW_some] <;> rfl), by repeat (first | (with_reducible first | exact HB.out | apply below_alloc | apply pw_below_drewN | apply below_drew1 | refine below_set ?_ GE167.out) | exact HB.out)⟩
                                    · rw [if_neg c36] at H
                                      have c36b0 : ((Go.bits .and .i64 t175 4) == 0) = false := beq_eq_false_iff_ne.mpr c36
                                      have c36b1 : ((Go.bits .and .i64 t175 4) != 0) = true := bne_iff_ne.mpr c36
                                      have H' := Aside0.mk H
                                      clear H
                                      go_wp2_with (first | ((with_reducible refine gate_callee (f := 52) rfl ?_); refine goesL_ (some 72) rfl rfl Try.func52 (by kernel_rfl) rfl #[.slice (some ad165) l0.length c0, .string (rdOf ByteArray.empty ((rd_T53 (rd_L6 l0 a1) a2).f1) x38_2)] rfl (by (try simp only [List.map_toArray, List.map_cons, List.map_nil]); first | done | rfl | (simp only [List.length_drop, List.length_take]; rfl)) ?_; (with_reducible refine (impl_ableOf.calls _ _ l0 (rdOf ByteArray.empty ((rd_T53 (rd_L6 l0 a1) a2).f1) x38_2) t175 _ ?side1 ?side2 A31.out).mono ?_); (case side1 => repeat (first | exact (Kd.C_below HR0.out HB.out) | (with_reducible refine Kd.C_alloc ?_ _) | (with_reducible refine Kd.C_drewN ?_ _) | (with_reducible refine Kd.C_drew ?_))); (case side2 => exact HC0.out); rintro e w39 ⟨rfl, hb⟩; refine ⟨_, rfl, ?_⟩; have n0_ := Aside0.mk (blk_below (g := gb167) (o := .cells #[.int .i64 ((rd_T53 (rd_L6 l0 a1) a2).f0), .slice (some ad168) ((rd_T53 (rd_L6 l0 a1) a2).f1).length c166_1] 53 (0, 0)) (by (with_reducible repeat (first | refine blk_drewN ?_ _ | refine blk_drew ?_ | refine blk_alloc ?_ _)); exact BK167.out) hb); have n1_ := Aside0.mk (below_step (by repeat (first | (with_reducible first | exact HB.out | apply below_alloc | apply pw_below_drewN | apply below_drew1 | refine below_set ?_ GE167.out) | exact HB.out)) hb); clear BK167; clear HB; have BK167 := n0_; have HB := n1_; clear n0_ n1_; (try clear hb); (try clear hb2); (try clear hk); (try clear hi); have hcz40_0 : w39.cell? ⟨gb167, 0, none⟩ = some (.int .i64 ((rd_T53 (rd_L6 l0 a1) a2).f0)) := (blk_cell BK167.out 0).trans rfl; have hcz40_1 : w39.cell? ⟨gb167, 1, none⟩ = some (.slice (some ad168) ((rd_T53 (rd_L6 l0 a1) a2).f1).length c166_1) := (blk_cell BK167.out 1).trans rfl; have hfz40_0 := blk_frozen BK167.out 0; have hfz40_1 := blk_frozen BK167.out 1))
                                      go_roundg kj21
                                      case measure => have := HJ7.out; have := HK2.out; have := HJ21.out; omega
                                      case rel => exact ⟨(wrap64 (x38_2 + 1)), (by first | rfl | (simp; done) | (simp [*]; done)), H', ⟨by have := HJ7.out; have := HK2.out; have := HJ21.out; omega⟩, ⟨by (with_reducible repeat (first | refine blk_drewN ?_ _ | refine blk_drew ?_ | refine blk_alloc ?_ _)); exact BK167.out⟩, ⟨by repeat (first | (with_reducible first | exact HB.out | apply below_alloc | apply pw_below_drewN | apply below_drew1 | refine below_set ?_ GE167.out) | exact HB.out)⟩⟩
                                · rw [if_neg c32] at H
                                  have c32b0 : ((Go.bits .andNot .i64 (Go.bits .and .i64 ((rd_T53 (rd_L6 l0 a1) a2).f0) 7) t175) == 0) = false := beq_eq_false_iff_ne.mpr c32
                                  have c32b1 : ((Go.bits .andNot .i64 (Go.bits .and .i64 ((rd_T53 (rd_L6 l0 a1) a2).f0) 7) t175) != 0) = true := bne_iff_ne.mpr c32
                                  obtain rfl := Option.some.inj H
                                  go_wp2_with (first | ((with_reducible refine gate_callee (f := 52) rfl ?_); refine goesL_ (some 72) rfl rfl Try.func52 (by kernel_rfl) rfl #[.slice (some ad165) l0.length c0, .string (rdOf ByteArray.empty ((rd_T53 (rd_L6 l0 a1) a2).f1) x38_2)] rfl (by (try simp only [List.map_toArray, List.map_cons, List.map_nil]); first | done | rfl | (simp only [List.length_drop, List.length_take]; rfl)) ?_; (with_reducible refine (impl_ableOf.calls _ _ l0 (rdOf ByteArray.empty ((rd_T53 (rd_L6 l0 a1) a2).f1) x38_2) t175 _ ?side1 ?side2 A31.out).mono ?_); (case side1 => repeat (first | exact (Kd.C_below HR0.out HB.out) | (with_reducible refine Kd.C_alloc ?_ _) | (with_reducible refine Kd.C_drewN ?_ _) | (with_reducible refine Kd.C_drew ?_))); (case side2 => exact HC0.out); rintro e w41 ⟨rfl, hb⟩; refine ⟨_, rfl, ?_⟩; have n0_ := Aside0.mk (blk_below (g := gb167) (o := .cells #[.int .i64 ((rd_T53 (rd_L6 l0 a1) a2).f0), .slice (some ad168) ((rd_T53 (rd_L6 l0 a1) a2).f1).length c166_1] 53 (0, 0)) (by (with_reducible repeat (first | refine blk_drewN ?_ _ | refine blk_drew ?_ | refine blk_alloc ?_ _)); exact BK167.out) hb); have n1_ := Aside0.mk (below_step (by repeat (first | (with_reducible first | exact HB.out | apply below_alloc | apply pw_below_drewN | apply below_drew1 | refine below_set ?_ GE167.out) | exact HB.out)) hb); clear BK167; clear HB; have BK167 := n0_; have HB := n1_; clear n0_ n1_; (try clear hb); (try clear hb2); (try clear hk); (try clear hi); have hcz42_0 : w41.cell? ⟨gb167, 0, none⟩ = some (.int .i64 ((rd_T53 (rd_L6 l0 a1) a2).f0)) := (blk_cell BK167.out 0).trans rfl; have hcz42_1 : w41.cell? ⟨gb167, 1, none⟩ = some (.slice (some ad168) ((rd_T53 (rd_L6 l0 a1) a2).f1).length c166_1) := (blk_cell BK167.out 1).trans rfl; have hfz42_0 := blk_frozen BK167.out 0; have hfz42_1 := blk_frozen BK167.out 1))
                                  go_ret
                                  exact ⟨by first | rfl | (simp [errW_none, errW_some] <;> rfl) | (simp [*, errW_none, errW_some] <;> rfl), by repeat (first | (with_reducible first | exact HB.out | apply below_alloc | apply pw_below_drewN | apply below_drew1 | refine below_set ?_ GE167.out) | exact HB.out)⟩
                        · rw [if_neg c20] at H
                          exact absurd H (by simp)
                      · rw [if_neg c19] at H
                        exact absurd H (by simp)
                    · rw [if_neg c18] at H
                      have c18b0 : decide (x38_2 < (((rd_T53 (rd_L6 l0 a1) a2).f1).length : Int)) = false := decide_eq_false c18
                      clear c18
                      obtain rfl := Option.some.inj H
                      go_wp2
                      go_ret
                      exact ⟨by first | rfl | (simp [errW_none, errW_some] <;> rfl) | (simp [*, errW_none, errW_some] <;> rfl), by repeat (first | (with_reducible first | exact HB.out | apply below_alloc | apply pw_below_drewN | apply below_drew1 | refine below_set ?_ GE167.out) | exact HB.out)⟩
        · rw [if_neg c7] at H
          exact absurd H (by simp)
      · rw [if_neg c6] at H
        exact absurd H (by simp)
    · rw [if_neg c5] at H
      exact absurd H (by simp)
  · rw [if_neg c4] at H
    exact absurd H (by simp)

end Go.Proofs.Yticolaohngmcfaa.OFnExactTypeHolds
