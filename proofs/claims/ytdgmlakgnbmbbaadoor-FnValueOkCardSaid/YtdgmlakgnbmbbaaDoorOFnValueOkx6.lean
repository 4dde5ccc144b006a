-- Laid by a program of this session (wip/myprint.py): the kit's print of the functions, contracts of our own among them.
import Derived.Test.YtdgmlakgnbmbbaaDoorOFnValueOkx0
import Derived.Test.YtdgmlakgnbmbbaaDoorOFnValueOkx1
import Derived.Test.YtdgmlakgnbmbbaaDoorOFnValueOkx3
import Derived.Test.YtdgmlakgnbmbbaaDoorOFnValueOkx5
namespace Go.Proofs.YtdgmlakgnbmbbaaDoor.OFnValueOk
open Go.RowKit Go.Proofs.YtdgmlakgnbmbbaaDoorW.PrintWords Go.Proofs.YtdgmlakgnbmbbaaDoorW.PrintLast Go.Proofs.YtdgmlakgnbmbbaaDoorW.PrintMore
attribute [local go_sem] max2_int min2_int max_two min_two max_three min_three max_four min_four   -- for this text's walks alone
set_option linter.unusedVariables false
set_option linter.unusedSimpArgs false

/-! ### spec_l91Kinds: function 24 -/
mutual
def spec_l91Kinds.l0 : Nat → List (List (S81)) → Int → List Int → Int → Option ((List (List (S81))) × Int)
 | 0,_,_,_,_ => none
 | k + 1,x3,x4,x1000,x1001 => if x4 > 0 then ((spec_l6Rd_pick.f k x1000 x1001 4).bind fun bt215 => (spec_l91Kinds.l1 k x3 x4 (([] : List (S81))) bt215.1 x1000 bt215.2)) else (some (x3,x1001))
def spec_l91Kinds.l1 : Nat → List (List (S81)) → Int → List (S81) → Int → List Int → Int → Option ((List (List (S81))) × Int)
 | 0,_,_,_,_,_,_ => none
 | k + 1,x3,x4,x5,x6,x1000,x1001 => if x6 > 0 then ((some (([] : List (List (S81))) : List (List (S81)))).bind fun y223 => (if y223.length + x3.length < 5864062014805 then ((some (y223 ++ x3 : List (List (S81)))).bind fun y226 => ((some (([x5] : List (List (S81))) : List (List (S81)))).bind fun y229 => (if y226.length + y229.length < 5864062014805 then ((spec_l91Record.f k x1000 x1001 (y226 ++ y229)).bind fun bt235 => ((some (([] : List (S81)) : List (S81))).bind fun y241 => (if y241.length + x5.length < 4398046511104 then ((some (y241 ++ x5 : List (S81))).bind fun y244 => ((some (([(⟨bt235.1,bt235.2.1⟩ : S81)] : List (S81)) : List (S81))).bind fun y247 => (if y244.length + y247.length < 4398046511104 then (spec_l91Kinds.j2 k x3 x4 x5 x6 (y244 ++ y247) x1000 bt235.2.2) else (none)))) else (none)))) else (none)))) else (none))) else ((some (([x5] : List (List (S81))) : List (List (S81)))).bind fun y217 => (if x3.length + y217.length < 5864062014805 then (spec_l91Kinds.l0 k (x3 ++ y217) (wrap64 (x4 - 1)) x1000 x1001) else (none)))
def spec_l91Kinds.j2 : Nat → List (List (S81)) → Int → List (S81) → Int → List (S81) → List Int → Int → Option ((List (List (S81))) × Int)
 | 0,_,_,_,_,_,_,_ => none
 | k + 1,x3,x4,x5,x6,x8,x1000,x1001 => (some (([] : List (List (S81))) : List (List (S81)))).bind fun y253 => (if y253.length + x3.length < 5864062014805 then ((some (y253 ++ x3 : List (List (S81)))).bind fun y256 => ((some (([x8] : List (List (S81))) : List (List (S81)))).bind fun y259 => (if y256.length + y259.length < 5864062014805 then ((spec_KindsOk.f k (y256 ++ y259)).bind fun t265 => (if t265 = true then (spec_l91Kinds.l1 k x3 x4 x8 (wrap64 (x6 - 1)) x1000 x1001) else ((spec_l6Rd_pick.f k x1000 x1001 12).bind fun bt266 => (if bt266.1 = 0 then (spec_l91Kinds.l1 k x3 x4 x8 (wrap64 (x6 - 1)) x1000 bt266.2) else (spec_l91Kinds.l1 k x3 x4 x5 (wrap64 (x6 - 1)) x1000 bt266.2))))) else (none)))) else (none))
end
def spec_l91Kinds.f (k : Nat) (s0_0 : List Int) (s0_1 : Int) : Option ((List (List (S81))) × Int):=(spec_l6Rd_pick.f k s0_0 s0_1 4).bind fun bt210 => (spec_l91Kinds.l0 k (([] : List (List (S81)))) bt210.1 s0_0 bt210.2)
theorem spec_l91Kinds.mono_l : ∀ k,(∀ y0 y1 y2 y3,LeO (spec_l91Kinds.l0 k y0 y1 y2 y3) (spec_l91Kinds.l0 (k + 1) y0 y1 y2 y3)) ∧ (∀ y0 y1 y2 y3 y4 y5,LeO (spec_l91Kinds.l1 k y0 y1 y2 y3 y4 y5) (spec_l91Kinds.l1 (k + 1) y0 y1 y2 y3 y4 y5)) ∧ (∀ y0 y1 y2 y3 y4 y5 y6,LeO (spec_l91Kinds.j2 k y0 y1 y2 y3 y4 y5 y6) (spec_l91Kinds.j2 (k + 1) y0 y1 y2 y3 y4 y5 y6))
 | 0 => ⟨fun _ _ _ _ r h => by simp [spec_l91Kinds.l0] at h,fun _ _ _ _ _ _ r h => by simp [spec_l91Kinds.l1] at h,fun _ _ _ _ _ _ _ r h => by simp [spec_l91Kinds.j2] at h⟩
 | k + 1 => by
  obtain ⟨ih0,ih1,ih2⟩:=spec_l91Kinds.mono_l k
  refine ⟨?_,?_,?_⟩
  ·intro y0 y1 y2 y3
   unfold spec_l91Kinds.l0
   repeat' first
   | (with_reducible exact ih0 _ _ _ _)
   | (with_reducible exact ih1 _ _ _ _ _ _)
   | (with_reducible exact ih2 _ _ _ _ _ _ _)
   | (with_reducible exact spec_KindsOk.mono _ _)
   | (with_reducible exact spec_l6Rd_pick.mono _ _ _ _)
   | (with_reducible exact spec_l91Record.mono _ _ _ _)
   | (with_reducible exact LeO.refl _)
   | (with_reducible exact LeO.none _)
   | (with_reducible refine LeO.ite ?_ ?_)
   | (with_reducible refine LeO.bind ?_ (fun _ => ?_))
   | exact ih0 _ _ _ _
   | exact ih1 _ _ _ _ _ _
   | exact ih2 _ _ _ _ _ _ _
   | exact spec_KindsOk.mono _ _
   | exact spec_l6Rd_pick.mono _ _ _ _
   | exact spec_l91Record.mono _ _ _ _
   | exact LeO.none _
   | refine LeO.ite ?_ ?_
   | refine LeO.bind ?_ (fun _ => ?_)
  ·intro y0 y1 y2 y3 y4 y5
   unfold spec_l91Kinds.l1
   repeat' first
   | (with_reducible exact ih0 _ _ _ _)
   | (with_reducible exact ih1 _ _ _ _ _ _)
   | (with_reducible exact ih2 _ _ _ _ _ _ _)
   | (with_reducible exact spec_KindsOk.mono _ _)
   | (with_reducible exact spec_l6Rd_pick.mono _ _ _ _)
   | (with_reducible exact spec_l91Record.mono _ _ _ _)
   | (with_reducible exact LeO.refl _)
   | (with_reducible exact LeO.none _)
   | (with_reducible refine LeO.ite ?_ ?_)
   | (with_reducible refine LeO.bind ?_ (fun _ => ?_))
   | exact ih0 _ _ _ _
   | exact ih1 _ _ _ _ _ _
   | exact ih2 _ _ _ _ _ _ _
   | exact spec_KindsOk.mono _ _
   | exact spec_l6Rd_pick.mono _ _ _ _
   | exact spec_l91Record.mono _ _ _ _
   | exact LeO.none _
   | refine LeO.ite ?_ ?_
   | refine LeO.bind ?_ (fun _ => ?_)
  ·intro y0 y1 y2 y3 y4 y5 y6
   unfold spec_l91Kinds.j2
   repeat' first
   | (with_reducible exact ih0 _ _ _ _)
   | (with_reducible exact ih1 _ _ _ _ _ _)
   | (with_reducible exact ih2 _ _ _ _ _ _ _)
   | (with_reducible exact spec_KindsOk.mono _ _)
   | (with_reducible exact spec_l6Rd_pick.mono _ _ _ _)
   | (with_reducible exact spec_l91Record.mono _ _ _ _)
   | (with_reducible exact LeO.refl _)
   | (with_reducible exact LeO.none _)
   | (with_reducible refine LeO.ite ?_ ?_)
   | (with_reducible refine LeO.bind ?_ (fun _ => ?_))
   | exact ih0 _ _ _ _
   | exact ih1 _ _ _ _ _ _
   | exact ih2 _ _ _ _ _ _ _
   | exact spec_KindsOk.mono _ _
   | exact spec_l6Rd_pick.mono _ _ _ _
   | exact spec_l91Record.mono _ _ _ _
   | exact LeO.none _
   | refine LeO.ite ?_ ?_
   | refine LeO.bind ?_ (fun _ => ?_)
theorem spec_l91Kinds.mono : ∀ a0 a1 k,LeO (spec_l91Kinds.f k a0 a1) (spec_l91Kinds.f (k + 1) a0 a1):=by
 intro a0 a1 k
 obtain ⟨ih0,ih1,ih2⟩:=spec_l91Kinds.mono_l k
 unfold spec_l91Kinds.f
 repeat' first
   | (with_reducible exact ih0 _ _ _ _)
   | (with_reducible exact ih1 _ _ _ _ _ _)
   | (with_reducible exact ih2 _ _ _ _ _ _ _)
   | (with_reducible exact spec_KindsOk.mono _ _)
   | (with_reducible exact spec_l6Rd_pick.mono _ _ _ _)
   | (with_reducible exact spec_l91Record.mono _ _ _ _)
   | (with_reducible exact LeO.refl _)
   | (with_reducible exact LeO.none _)
   | (with_reducible refine LeO.ite ?_ ?_)
   | (with_reducible refine LeO.bind ?_ (fun _ => ?_))
   | exact ih0 _ _ _ _
   | exact ih1 _ _ _ _ _ _
   | exact ih2 _ _ _ _ _ _ _
   | exact spec_KindsOk.mono _ _
   | exact spec_l6Rd_pick.mono _ _ _ _
   | exact spec_l91Record.mono _ _ _ _
   | exact LeO.none _
   | refine LeO.ite ?_ ?_
   | refine LeO.bind ?_ (fun _ => ?_)
set_option maxHeartbeats 8000000 in
set_option maxRecDepth 100000 in
theorem spec_l91Kinds.calls (k : Nat) (g : Nat) (s0_0 : List Int) (s0_1 : Int) (r1 : List (List (S81))) (r2 : Int) (w0 w : World) (hI : IsS79 w0 w g s0_0 s0_1) (hB : Below w0.heap.size w0 w) (h : spec_l91Kinds.f k s0_0 s0_1 = some (r1,r2)) :
  Calls Tryd.prog 24 #[.pointer (some ⟨g,0,none⟩)] w fun e w' => ∃ v0_ : Value,e = .returned (v0_) ∧ Kd.N (Kd.slice 81 k81) 66 w' w.heap.size (fun k_ => (w.heap.size ≤ k_)) v0_ r1 ∧ IsS79 w0 w' g s0_0 r2 ∧ Below w0.heap.size w0 w' ∧ KeepBut w w' g none:=by
 have hu81:=Tryd.underlying81
 have HI0:=Aside0.mk hI
 have HK:=Aside0.mk (KeepBut.refl w g none)
 have HL:=Aside0.mk hB.size
 clear hI
 have HW0:=Aside0.mk hB.size
 have HB:=Aside0.mk hB
 clear hB
 have H : ((spec_l6Rd_pick.f k s0_0 s0_1 4).bind fun bt210 => (spec_l91Kinds.l0 k (([] : List (List (S81)))) bt210.1 s0_0 bt210.2)) = some (r1,r2):=h
 clear h
 obtain ⟨y207,hy207⟩ : ∃ y_ : List (List (S81)),y_ = (([] : List (List (S81)))):=⟨_,rfl⟩
 replace H : ((spec_l6Rd_pick.f k s0_0 s0_1 4).bind fun bt210 => (spec_l91Kinds.l0 k y207 bt210.1 s0_0 bt210.2)) = some (r1,r2):=by first | (rw [hy207];with_reducible exact H) | (have H2_:=(Option.bind_some _ _).symm.trans H;rw [hy207];with_reducible exact H2_) | (have H2_:=(Option.bind_some _ _).symm.trans H;with_reducible exact H2_) | with_reducible exact H | (rw [hy207];exact H) | exact H
 have Ny207:=Aside0.mk hy207
 clear hy207
 replace H:=Option.bind_eq_some_iff.mp H
 obtain ⟨⟨t210,t211⟩,A20,H⟩:=H
 replace H : (spec_l91Kinds.l0 k y207 t210 s0_0 t211) = some (r1,r2):=H
 have A2:=Aside0.mk A20
 clear A20
 have H':=Aside0.mk H
 clear H
 go_enter Tryd.func24,Tryd.ntmps24
 go_wp2_with (first | ((with_reducible refine gate_dst (N:=9) rfl ?_);refine Kd.N_lit (Kd.slice 81 k81) _ 66 ?hg (N':=9) ?hd (xs:=([] : List (List (S81)))) (inner:=[]) (ok:=(fun k_ => (w.heap.size ≤ k_) ∧ k_ ≠ g)) (okp:=(fun k_ => (w.heap.size ≤ k_) ∧ k_ ≠ g)) ?hr ?hp (fun _ hk => hk) ((show ∀ k_,w.heap.size ≤ k_ → (fun k_ => (w.heap.size ≤ k_) ∧ k_ ≠ g) k_ from fun k_ hk => ⟨(Nat.le_trans (keep_size (w:=w) (g:=g) (row:=none) (Up.Kp0 HK)) hk),IsS79.fresh (Ip0 HI0) k_ hk⟩) _ (Nat.le_refl _)) (Below.refl _ _) (Nat.le_refl _) (by simp) ?_;(case hd => rfl);(case hg => rfl);(case hr => first | (go_simp;done) | (go_simp;rfl));(case hp => exact (Reps.none _ _));intro v208 w3 ho4 hb hg_ hnew_;clear hg_ hnew_;(first | rw [← Ny207.out] at ho4 | (simp only [Int.reduceToNat] at ho4;rw [← Ny207.out] at ho4));have n0_:=Aside0.mk (Kd.N_lower ho4 (keep_size (w:=w) (g:=g) (row:=none) (Up.Kp0 HK)));have n1_:=Aside0.mk (IsS79.below (Ip0 HI0) hb);have n2_:=Aside0.mk (KeepBut.trans (Up.Kp0 HK) (KeepBut.of_below hb g none) (.inl rfl));have n3_:=Aside0.mk (below_step (Up.Bs HB (IsS79.ge HI0.out)) hb);clear HI0 HK HB;have HO209:=n0_;have HI0:=n1_;have HK:=n2_;have HB:=n3_;clear n0_ n1_ n2_ n3_ hb ho4) | ((with_reducible refine gate_callee (f:=46) rfl ?_);refine Up.gl (some 11) Tryd.func46 #[.pointer (some ⟨g,0,none⟩),.int .i64 4] ?_;(with_reducible refine (spec_l6Rd_pick.calls k g s0_0 s0_1 4 t210 t211 w0 _ ?side1 ?side2 A2.out).mono ?_);(case side1 => repeat (first | (with_reducible first | exact HI0.out | apply IsS79.alloc | apply IsS79.drewN | apply IsS79.drew | apply IsS79.set_1) | exact HI0.out));(case side2 => repeat (first | (with_reducible first | exact HB.out | apply below_alloc | apply pw_below_drewN | apply below_drew1 | refine below_set ?_ (IsS79.ge HI0.out)) | exact HB.out));rintro e w5 ⟨rfl,hi,hb,hk⟩;refine ⟨_,rfl,?_⟩;have n0_:=Aside0.mk (Kd.N_mono (Kd.N_keep (Kd.N_mono (ok:=fun k_ => (((w.heap.size ≤ k_)) ∧ k_ ≠ g)) (Up.Nup HO209) (fun k_ hk_ => (⟨hk_,hk_.2⟩ : _ ∧ k_ ≠ g))) hk (fun _ h => h.2)) (fun _ h => h.1));have n1_:=Aside0.mk (KeepBut.trans (Up.Kp0 HK) hk (.inl rfl));have n2_:=Aside0.mk (hb);have n3_:=Aside0.mk (hi);clear HO209 HK HB HI0;have HO209:=n0_;have HK:=n1_;have HB:=n2_;have HI0:=n3_;clear n0_ n1_ n2_ n3_;(try clear hb);(try clear hb2);(try clear hk);(try clear hi)))
 go_loopg [3,4] k (fun kq v3 v4 w' => ∃ (x3_1 : List (List (S81))) (x4_1 : Int) (x1001_1 : Int),v4 = .int .i64 x4_1 ∧ Aside0 (spec_l91Kinds.l0 kq x3_1 x4_1 s0_0 x1001_1 = some (r1,r2)) ∧ Aside0 (kq ≤ k) ∧ Aside0 (Kd.N (Kd.slice 81 k81) 66 w' w.heap.size (fun k_ => (w.heap.size ≤ k_) ∧ k_ ≠ g) v3 x3_1) ∧ Aside0 (IsS79 w0 w' g s0_0 x1001_1) ∧ Aside0 (KeepBut w w' g none) ∧ Aside0 (Below w0.heap.size w0 w'))
 case atStart => exact ⟨(y207),(t210),(t211),(by first | rfl | (simp;done) | (simp [*];done)),H',⟨Nat.le_refl _⟩,⟨Up.Nup HO209⟩,⟨by repeat (first | (with_reducible first | exact HI0.out | apply IsS79.alloc | apply IsS79.drewN | apply IsS79.drew | apply IsS79.set_1) | exact HI0.out)⟩,⟨by repeat (first | (with_reducible first | exact HK.out | apply KeepBut.set_ | apply keep_drewN | apply keep_drew | apply keep_alloc) | exact HK.out)⟩,⟨by repeat (first | (with_reducible first | exact HB.out | apply below_alloc | apply pw_below_drewN | apply below_drew1 | refine below_set ?_ (IsS79.ge HI0.out)) | exact HB.out)⟩⟩
 case round =>
  clear H'
  try clear c2
  try clear p2
  try clear c4
  obtain ⟨x3_1,x4_1,x1001_1,rfl,HA,HK1,HO_3,HI0,HK,HB⟩:=hrel
  cases gk with
  | zero => exact absurd HA.out (by simp [spec_l91Kinds.l0])
  | succ k1 =>
   have H:=HA.out
   clear HA
   simp only [spec_l91Kinds.l0] at H
   by_cases c6 : x4_1 > 0
   ·rw [if_pos c6] at H
    have c6b0 : decide (0 < x4_1) = true:=decide_eq_true c6
    clear c6
    obtain ⟨y212,hy212⟩ : ∃ y_ : List (S81),y_ = (([] : List (S81))):=⟨_,rfl⟩
    replace H : ((spec_l6Rd_pick.f k1 s0_0 x1001_1 4).bind fun bt215 => (spec_l91Kinds.l1 k1 x3_1 x4_1 y212 bt215.1 s0_0 bt215.2)) = some (r1,r2):=by first | (rw [hy212];with_reducible exact H) | (have H2_:=(Option.bind_some _ _).symm.trans H;rw [hy212];with_reducible exact H2_) | (have H2_:=(Option.bind_some _ _).symm.trans H;with_reducible exact H2_) | with_reducible exact H | (rw [hy212];exact H) | exact H
    have Ny212:=Aside0.mk hy212
    clear hy212
    replace H:=Option.bind_eq_some_iff.mp H
    obtain ⟨⟨t215,t216⟩,A70,H⟩:=H
    replace H : (spec_l91Kinds.l1 k1 x3_1 x4_1 y212 t215 s0_0 t216) = some (r1,r2):=H
    have A7:=Aside0.mk A70
    clear A70
    have H':=Aside0.mk H
    clear H
    go_wp2_with (first | ((with_reducible refine gate_dst (N:=16) rfl ?_);refine Kd.N_lit k81 _ 81 ?hg (N':=16) ?hd (xs:=([] : List (S81))) (inner:=[]) (ok:=(fun k_ => (w.heap.size ≤ k_) ∧ some k_ ≠ (u3 : Value).ownBlock ∧ k_ ≠ g)) (okp:=(fun k_ => (w.heap.size ≤ k_) ∧ some k_ ≠ (u3 : Value).ownBlock ∧ k_ ≠ g)) ?hr ?hp (fun _ hk => hk) ((show ∀ k_,wr.heap.size ≤ k_ → (fun k_ => (w.heap.size ≤ k_) ∧ some k_ ≠ (u3 : Value).ownBlock ∧ k_ ≠ g) k_ from fun k_ hk => ⟨(Nat.le_trans (keep_size (w:=w) (g:=g) (row:=none) (Up.Kp0 HK)) hk),Kd.fresh' (Kd.N_lt (Up.Nup HO_3)) k_ hk,IsS79.fresh (Ip0 HI0) k_ hk⟩) _ (Nat.le_refl _)) (Below.refl _ _) (Nat.le_refl _) (by simp) ?_;(case hd => rfl);(case hg => rfl);(case hr => first | (go_simp;done) | (go_simp;rfl));(case hp => exact (Reps.none _ _));intro v213 w8 ho9 hb hg_ hnew_;clear hg_ hnew_;(first | rw [← Ny212.out] at ho9 | (simp only [Int.reduceToNat] at ho9;rw [← Ny212.out] at ho9));have n0_:=Aside0.mk (Kd.N_elder' (Up.Nup HO_3) (Kd.N_base ho9) hb);have n1_:=Aside0.mk (Kd.N_lower ho9 (keep_size (w:=w) (g:=g) (row:=none) (Up.Kp0 HK)));have n2_:=Aside0.mk (IsS79.below (Ip0 HI0) hb);have n3_:=Aside0.mk (KeepBut.trans (Up.Kp0 HK) (KeepBut.of_below hb g none) (.inl rfl));have n4_:=Aside0.mk (below_step (Up.Bs HB (IsS79.ge HI0.out)) hb);clear HO_3 HI0 HK HB;have HO_3:=n0_;have HO214:=n1_;have HI0:=n2_;have HK:=n3_;have HB:=n4_;clear n0_ n1_ n2_ n3_ n4_ hb ho9) | ((with_reducible refine gate_callee (f:=46) rfl ?_);refine Up.gl (some 18) Tryd.func46 #[.pointer (some ⟨g,0,none⟩),.int .i64 4] ?_;(with_reducible refine (spec_l6Rd_pick.calls k1 g s0_0 x1001_1 4 t215 t216 w0 _ ?side1 ?side2 A7.out).mono ?_);(case side1 => repeat (first | (with_reducible first | exact HI0.out | apply IsS79.alloc | apply IsS79.drewN | apply IsS79.drew | apply IsS79.set_1) | exact HI0.out));(case side2 => repeat (first | (with_reducible first | exact HB.out | apply below_alloc | apply pw_below_drewN | apply below_drew1 | refine below_set ?_ (IsS79.ge HI0.out)) | exact HB.out));rintro e w10 ⟨rfl,hi,hb,hk⟩;refine ⟨_,rfl,?_⟩;have n0_:=Aside0.mk (Kd.N_mono (Kd.N_keep (Kd.N_mono (ok:=fun k_ => ((((w.heap.size ≤ k_)) ∧ k_ ≠ g) ∧ some k_ ≠ (v213 : Value).ownBlock)) (Up.Nup HO_3) (fun k_ hk_ => (⟨hk_,hk_.1.2⟩ : _ ∧ k_ ≠ g))) hk (fun _ h => h.2)) (fun _ h => h.1));have n1_:=Aside0.mk (Kd.N_mono (Kd.N_keep (Kd.N_mono (ok:=fun k_ => (((w.heap.size ≤ k_)) ∧ (some k_ ≠ (u3 : Value).ownBlock ∧ k_ ≠ g))) (Up.Nup HO214) (fun k_ hk_ => (⟨hk_,hk_.2.2⟩ : _ ∧ k_ ≠ g))) hk (fun _ h => h.2)) (fun _ h => h.1));have n2_:=Aside0.mk (KeepBut.trans (Up.Kp0 HK) hk (.inl rfl));have n3_:=Aside0.mk (hb);have n4_:=Aside0.mk (hi);clear HO_3 HO214 HK HB HI0;have HO_3:=n0_;have HO214:=n1_;have HK:=n2_;have HB:=n3_;have HI0:=n4_;clear n0_ n1_ n2_ n3_ n4_;(try clear hb);(try clear hb2);(try clear hk);(try clear hi)))
    go_loopg [5,6] k1 (fun kq v5 v6 w' => ∃ (x5_2 : List (S81)) (x6_2 : Int) (x1001_2 : Int),v6 = .int .i64 x6_2 ∧ Aside0 (spec_l91Kinds.l1 kq x3_1 x4_1 x5_2 x6_2 s0_0 x1001_2 = some (r1,r2)) ∧ Aside0 (kq ≤ k1) ∧ Aside0 (Kd.N (Kd.slice 81 k81) 66 w' w.heap.size (fun k_ => (w.heap.size ≤ k_) ∧ k_ ≠ g) u3 x3_1) ∧ Aside0 (Kd.V k81 81 w' w.heap.size (fun k_ => (w.heap.size ≤ k_) ∧ some k_ ≠ (u3 : Value).ownBlock ∧ k_ ≠ g) v5 x5_2) ∧ Aside0 (IsS79 w0 w' g s0_0 x1001_2) ∧ Aside0 (KeepBut w w' g none) ∧ Aside0 (Below w0.heap.size w0 w'))
    case atStart => exact ⟨(y212),(t215),(t216),(by first | rfl | (simp;done) | (simp [*];done)),H',⟨Nat.le_refl _⟩,⟨by (with_reducible repeat (first | apply Kd.N_alloc | apply Kd.N_drewN | apply Kd.N_drew));exact Kd.N_mono HO_3.out (fun _ hk => ⟨hk.1.1,hk.1.2⟩)⟩,⟨Kd.N_V (Up.Nup HO214)⟩,⟨by repeat (first | (with_reducible first | exact HI0.out | apply IsS79.alloc | apply IsS79.drewN | apply IsS79.drew | apply IsS79.set_1) | exact HI0.out)⟩,⟨by repeat (first | (with_reducible first | exact HK.out | apply KeepBut.set_ | apply keep_drewN | apply keep_drew | apply keep_alloc) | exact HK.out)⟩,⟨by repeat (first | (with_reducible first | exact HB.out | apply below_alloc | apply pw_below_drewN | apply below_drew1 | refine below_set ?_ (IsS79.ge HI0.out)) | exact HB.out)⟩⟩
    case round =>
     clear H'
     try clear c2
     try clear p2
     try clear c4
     try clear c6
     try clear c6b0
     try clear p2
     obtain ⟨x5_2,x6_2,x1001_2,rfl,HA,HK2,HO_3,HO_5,HI0,HK,HB⟩:=hrel
     cases gk with
     | zero => exact absurd HA.out (by simp [spec_l91Kinds.l1])
     | succ k2 =>
      have H:=HA.out
      clear HA
      simp only [spec_l91Kinds.l1] at H
      by_cases c11 : x6_2 > 0
      ·rw [if_pos c11] at H
       have c11b0 : decide (0 < x6_2) = true:=decide_eq_true c11
       clear c11
       obtain ⟨y223,hy223⟩ : ∃ y_ : List (List (S81)),y_ = (([] : List (List (S81)))):=⟨_,rfl⟩
       replace H : (if y223.length + x3_1.length < 5864062014805 then ((some (y223 ++ x3_1 : List (List (S81)))).bind fun y226 => ((some (([x5_2] : List (List (S81))) : List (List (S81)))).bind fun y229 => (if y226.length + y229.length < 5864062014805 then ((spec_l91Record.f k2 s0_0 x1001_2 (y226 ++ y229)).bind fun bt235 => ((some (([] : List (S81)) : List (S81))).bind fun y241 => (if y241.length + x5_2.length < 4398046511104 then ((some (y241 ++ x5_2 : List (S81))).bind fun y244 => ((some (([(⟨bt235.1,bt235.2.1⟩ : S81)] : List (S81)) : List (S81))).bind fun y247 => (if y244.length + y247.length < 4398046511104 then (spec_l91Kinds.j2 k2 x3_1 x4_1 x5_2 x6_2 (y244 ++ y247) s0_0 bt235.2.2) else (none)))) else (none)))) else (none)))) else (none)) = some (r1,r2):=by first | (rw [hy223];with_reducible exact H) | (have H2_:=(Option.bind_some _ _).symm.trans H;rw [hy223];with_reducible exact H2_) | (have H2_:=(Option.bind_some _ _).symm.trans H;with_reducible exact H2_) | with_reducible exact H | (rw [hy223];exact H) | exact H
       have Ny223:=Aside0.mk hy223
       clear hy223
       by_cases c12 : y223.length + x3_1.length < 5864062014805
       ·rw [if_pos c12] at H
        have LMc12:=Aside0.mk c12
        clear c12
        obtain ⟨y226,hy226⟩ : ∃ y_ : List (List (S81)),y_ = (y223 ++ x3_1):=⟨_,rfl⟩
        replace H : ((some (([x5_2] : List (List (S81))) : List (List (S81)))).bind fun y229 => (if y226.length + y229.length < 5864062014805 then ((spec_l91Record.f k2 s0_0 x1001_2 (y226 ++ y229)).bind fun bt235 => ((some (([] : List (S81)) : List (S81))).bind fun y241 => (if y241.length + x5_2.length < 4398046511104 then ((some (y241 ++ x5_2 : List (S81))).bind fun y244 => ((some (([(⟨bt235.1,bt235.2.1⟩ : S81)] : List (S81)) : List (S81))).bind fun y247 => (if y244.length + y247.length < 4398046511104 then (spec_l91Kinds.j2 k2 x3_1 x4_1 x5_2 x6_2 (y244 ++ y247) s0_0 bt235.2.2) else (none)))) else (none)))) else (none))) = some (r1,r2):=by first | (rw [hy226];with_reducible exact H) | (have H2_:=(Option.bind_some _ _).symm.trans H;rw [hy226];with_reducible exact H2_) | (have H2_:=(Option.bind_some _ _).symm.trans H;with_reducible exact H2_) | with_reducible exact H | (rw [hy226];exact H) | exact H
        have Ny226:=Aside0.mk hy226
        clear hy226
        obtain ⟨y229,hy229⟩ : ∃ y_ : List (List (S81)),y_ = (([x5_2] : List (List (S81)))):=⟨_,rfl⟩
        replace H : (if y226.length + y229.length < 5864062014805 then ((spec_l91Record.f k2 s0_0 x1001_2 (y226 ++ y229)).bind fun bt235 => ((some (([] : List (S81)) : List (S81))).bind fun y241 => (if y241.length + x5_2.length < 4398046511104 then ((some (y241 ++ x5_2 : List (S81))).bind fun y244 => ((some (([(⟨bt235.1,bt235.2.1⟩ : S81)] : List (S81)) : List (S81))).bind fun y247 => (if y244.length + y247.length < 4398046511104 then (spec_l91Kinds.j2 k2 x3_1 x4_1 x5_2 x6_2 (y244 ++ y247) s0_0 bt235.2.2) else (none)))) else (none)))) else (none)) = some (r1,r2):=by first | (rw [hy229];with_reducible exact H) | (have H2_:=(Option.bind_some _ _).symm.trans H;rw [hy229];with_reducible exact H2_) | (have H2_:=(Option.bind_some _ _).symm.trans H;with_reducible exact H2_) | with_reducible exact H | (rw [hy229];exact H) | exact H
        have Ny229:=Aside0.mk hy229
        clear hy229
        by_cases c13 : y226.length + y229.length < 5864062014805
        ·rw [if_pos c13] at H
         have LMc13:=Aside0.mk c13
         clear c13
         obtain ⟨y232,hy232⟩ : ∃ y_ : List (List (S81)),y_ = (y226 ++ y229):=⟨_,rfl⟩
         replace H : ((spec_l91Record.f k2 s0_0 x1001_2 y232).bind fun bt235 => ((some (([] : List (S81)) : List (S81))).bind fun y241 => (if y241.length + x5_2.length < 4398046511104 then ((some (y241 ++ x5_2 : List (S81))).bind fun y244 => ((some (([(⟨bt235.1,bt235.2.1⟩ : S81)] : List (S81)) : List (S81))).bind fun y247 => (if y244.length + y247.length < 4398046511104 then (spec_l91Kinds.j2 k2 x3_1 x4_1 x5_2 x6_2 (y244 ++ y247) s0_0 bt235.2.2) else (none)))) else (none)))) = some (r1,r2):=by first | (rw [hy232];with_reducible exact H) | (have H2_:=(Option.bind_some _ _).symm.trans H;rw [hy232];with_reducible exact H2_) | (have H2_:=(Option.bind_some _ _).symm.trans H;with_reducible exact H2_) | with_reducible exact H | (rw [hy232];exact H) | exact H
         have Ny232:=Aside0.mk hy232
         clear hy232
         replace H:=Option.bind_eq_some_iff.mp H
         obtain ⟨⟨t235,t236,t239⟩,A140,H⟩:=H
         replace H : ((some (([] : List (S81)) : List (S81))).bind fun y241 => (if y241.length + x5_2.length < 4398046511104 then ((some (y241 ++ x5_2 : List (S81))).bind fun y244 => ((some (([(⟨t235,t236⟩ : S81)] : List (S81)) : List (S81))).bind fun y247 => (if y244.length + y247.length < 4398046511104 then (spec_l91Kinds.j2 k2 x3_1 x4_1 x5_2 x6_2 (y244 ++ y247) s0_0 t239) else (none)))) else (none))) = some (r1,r2):=H
         have A14:=Aside0.mk A140
         clear A140
         have HC15:=Aside0.mk H
         clear H
         go_upto_region 10 with (first | ((with_reducible refine gate_dst (N:=24) rfl ?_);refine Kd.N_lit (Kd.slice 81 k81) _ 66 ?hg (N':=24) ?hd (xs:=([] : List (List (S81)))) (inner:=[]) (ok:=(fun k_ => (w.heap.size ≤ k_) ∧ some k_ ≠ (u3 : Value).ownBlock ∧ k_ ≠ g)) (okp:=(fun k_ => (w.heap.size ≤ k_) ∧ some k_ ≠ (u3 : Value).ownBlock ∧ k_ ≠ g)) ?hr ?hp (fun _ hk => hk) ((show ∀ k_,wr.heap.size ≤ k_ → (fun k_ => (w.heap.size ≤ k_) ∧ some k_ ≠ (u3 : Value).ownBlock ∧ k_ ≠ g) k_ from fun k_ hk => ⟨(Nat.le_trans (keep_size (w:=w) (g:=g) (row:=none) (Up.Kp0 HK)) hk),Kd.fresh' (Kd.N_lt (Up.Nup HO_3)) k_ hk,IsS79.fresh (Ip0 HI0) k_ hk⟩) _ (Nat.le_refl _)) (Below.refl _ _) (Nat.le_refl _) (by simp) ?_;(case hd => rfl);(case hg => rfl);(case hr => first | (go_simp;done) | (go_simp;rfl));(case hp => exact (Reps.none _ _));intro v224 w16 ho17 hb hg_ hnew_;clear hg_ hnew_;(first | rw [← Ny223.out] at ho17 | (simp only [Int.reduceToNat] at ho17;rw [← Ny223.out] at ho17));have n0_:=Aside0.mk (Kd.N_elder' (Up.Nup HO_3) (Kd.N_base ho17) hb);have n1_:=Aside0.mk (Kd.V_elder' (Up.Vup HO_5) (Kd.N_base ho17) hb);have n2_:=Aside0.mk (Kd.N_lower ho17 (keep_size (w:=w) (g:=g) (row:=none) (Up.Kp0 HK)));have n3_:=Aside0.mk (IsS79.below (Ip0 HI0) hb);have n4_:=Aside0.mk (KeepBut.trans (Up.Kp0 HK) (KeepBut.of_below hb g none) (.inl rfl));have n5_:=Aside0.mk (below_step (Up.Bs HB (IsS79.ge HI0.out)) hb);clear HO_3 HO_5 HI0 HK HB;have HO_3:=n0_;have HO_5:=n1_;have HO225:=n2_;have HI0:=n3_;have HK:=n4_;have HB:=n5_;clear n0_ n1_ n2_ n3_ n4_ n5_ hb ho17;obtain ⟨Ao19,co19,eo19⟩:=Kd.N_slice HO_3.out;subst eo19) | ((with_reducible refine gate_builtin (b:=.append) (xs:=#[.tmp 24,.tmp 25]) rfl ?_);at_builtin;refine Kd.N_append_rows (Kd.slice 81 k81) w.heap.size rfl (.tmp 24) (.tmp 25) 23 66 (.slice none 0 0) 24 rfl Tryd.underlying23 info66 rfl (by decide) (by omega) v224 y223 x3_1 _ _ _ (fun k_ => (w.heap.size ≤ k_) ∧ k_ ≠ g) (fun k_ => ((fun k_ => (w.heap.size ≤ k_) ∧ k_ ≠ g)) k_ ∧ some k_ ≠ (v224 : Value).ownBlock) rfl rfl ?aO ?aR (fun _ hk => hk) ?aF (Below.refl _ _) ?aS ?aL ?_;(case aR => exact (by skip;exact Kd.N_F (Kd.N_mono (ok':=(fun k_ => ((fun k_ => (w.heap.size ≤ k_) ∧ k_ ≠ g)) k_ ∧ some k_ ≠ (v224 : Value).ownBlock)) (HO_3.out) (fun k_ hk => ⟨⟨hk.1.1,hk.1.2⟩,hk.2⟩))));(case aF => exact (fun k_ hk => ⟨(Nat.le_trans (keep_size (w:=w) (g:=g) (row:=none) (Up.Kp0 HK)) hk),IsS79.fresh (Ip0 HI0) k_ hk⟩));(case aO => exact (Up.Nq (Kd.N_mono HO225.out (fun _ hk => ⟨hk.1,hk.2.2⟩))));(case aS => exact (keep_size (w:=w) (g:=g) (row:=none) (Up.Kp0 HK)));(case aL => have:=LMc12.out;omega);intro v227 w18 ho hb hg hat;rw [← Ny226.out] at ho;have n0_:=Aside0.mk (Kd.N_afterv (ok:=(fun k_ => (w.heap.size ≤ k_) ∧ k_ ≠ g)) (Up.Nup HO_3) hg hat);have n1_:=Aside0.mk (Kd.V_afterv (ok:=(fun k_ => (w.heap.size ≤ k_) ∧ some k_ ≠ (.slice Ao19 x3_1.length co19 : Value).ownBlock ∧ k_ ≠ g)) (Up.Vup HO_5) hg hat);have n2_:=Aside0.mk (IsS79.grown (Ip0 HI0) hg (IsS79.own_neN HI0.out HO225.out (by decide)));have n3_:=Aside0.mk (below_weaken (Up.Bs HB (IsS79.ge HI0.out)) HL.out hb);have n4_:=Aside0.mk (KeepBut.trans (Up.Kp0 HK) (KeepBut.of_grown hg g) (Kd.N_base2 HO225.out));have n5_:=Aside0.mk (ho);clear HO_3 HO_5 HI0 HB HK HO225;have HO_3:=n0_;have HO_5:=n1_;have HI0:=n2_;have HB:=n3_;have HK:=n4_;have HO228:=n5_;clear n0_ n1_ n2_ n3_ n4_ n5_ ho hb hg hat;obtain ⟨Ao20,co20,eo20⟩:=Kd.V_slice HO_5.out;subst eo20) | ((with_reducible refine gate_dst (N:=28) rfl ?_);refine Kd.N_lit (Kd.slice 81 k81) _ 66 ?hg (N':=28) ?hd (xs:=([x5_2] : List (List (S81)))) (inner:=[.slice Ao20 x5_2.length co20]) (ok:=(fun k_ => (w.heap.size ≤ k_) ∧ some k_ ≠ (.slice Ao19 x3_1.length co19 : Value).ownBlock ∧ some k_ ≠ (v227 : Value).ownBlock ∧ k_ ≠ g)) (okp:=(fun k_ => (w.heap.size ≤ k_) ∧ some k_ ≠ (.slice Ao19 x3_1.length co19 : Value).ownBlock ∧ some k_ ≠ (v227 : Value).ownBlock ∧ k_ ≠ g)) ?hr ?hp (fun _ hk => hk) ((show ∀ k_,w18.heap.size ≤ k_ → (fun k_ => (w.heap.size ≤ k_) ∧ some k_ ≠ (.slice Ao19 x3_1.length co19 : Value).ownBlock ∧ some k_ ≠ (v227 : Value).ownBlock ∧ k_ ≠ g) k_ from fun k_ hk => ⟨(Nat.le_trans (keep_size (w:=w) (g:=g) (row:=none) (Up.Kp0 HK)) hk),Kd.fresh' (Kd.N_lt (Up.Nup HO_3)) k_ hk,Kd.fresh' (Kd.N_lt (Up.Nup HO228)) k_ hk,IsS79.fresh (Ip0 HI0) k_ hk⟩) _ (Nat.le_refl _)) (Below.refl _ _) (Nat.le_refl _) (by simp) ?_;(case hd => rfl);(case hg => rfl);(case hr => first | (go_simp;done) | (go_simp;rfl));(case hp => exact (Reps.one (show Kd.FK (Kd.slice 81 k81) _ _ x5_2 [.slice Ao20 x5_2.length co20] from (Kd.FK_slice_mk (Kd.V_reads' (Kd.V_mono (ok':=(fun k_ => (w.heap.size ≤ k_) ∧ some k_ ≠ (.slice Ao19 x3_1.length co19 : Value).ownBlock ∧ some k_ ≠ (v227 : Value).ownBlock ∧ k_ ≠ g)) (HO_5.out) (fun k_ hk => ⟨hk.1.1,⟨hk.1.2.1,⟨hk.2,hk.1.2.2⟩⟩⟩))).2.1 (Kd.V_F (Kd.V_mono (ok':=(fun k_ => (w.heap.size ≤ k_) ∧ some k_ ≠ (.slice Ao19 x3_1.length co19 : Value).ownBlock ∧ some k_ ≠ (v227 : Value).ownBlock ∧ k_ ≠ g)) (HO_5.out) (fun k_ hk => ⟨hk.1.1,⟨hk.1.2.1,⟨hk.2,hk.1.2.2⟩⟩⟩))))) (Reps.none _ _)));intro v230 w21 ho22 hb hg_ hnew_;clear hg_ hnew_;(first | rw [← Ny229.out] at ho22 | (simp only [Int.reduceToNat] at ho22;rw [← Ny229.out] at ho22));have n0_:=Aside0.mk (Kd.N_elder' (Up.Nup HO_3) (Kd.N_base ho22) hb);have n1_:=Aside0.mk (Kd.V_elder' (Up.Vup HO_5) (Kd.N_base ho22) hb);have n2_:=Aside0.mk (Kd.N_elder' (Up.Nup HO228) (Kd.N_base ho22) hb);have n3_:=Aside0.mk (Kd.N_lower ho22 (keep_size (w:=w) (g:=g) (row:=none) (Up.Kp0 HK)));have n4_:=Aside0.mk (IsS79.below (Ip0 HI0) hb);have n5_:=Aside0.mk (KeepBut.trans (Up.Kp0 HK) (KeepBut.of_below hb g none) (.inl rfl));have n6_:=Aside0.mk (below_step (Up.Bs HB (IsS79.ge HI0.out)) hb);clear HO_3 HO_5 HO228 HI0 HK HB;have HO_3:=n0_;have HO_5:=n1_;have HO228:=n2_;have HO231:=n3_;have HI0:=n4_;have HK:=n5_;have HB:=n6_;clear n0_ n1_ n2_ n3_ n4_ n5_ n6_ hb ho22;obtain ⟨Ao24,co24,eo24⟩:=Kd.N_slice HO231.out;subst eo24) | ((with_reducible refine gate_builtin (b:=.append) (xs:=#[.tmp 26,.tmp 28]) rfl ?_);at_builtin;refine Kd.N_append_rows (Kd.slice 81 k81) w.heap.size rfl (.tmp 26) (.tmp 28) 23 66 (.slice none 0 0) 24 rfl Tryd.underlying23 info66 rfl (by decide) (by omega) v227 y226 y229 _ _ _ (fun k_ => (w.heap.size ≤ k_) ∧ k_ ≠ g) (fun k_ => ((fun k_ => (w.heap.size ≤ k_) ∧ k_ ≠ g)) k_ ∧ some k_ ≠ (v227 : Value).ownBlock) rfl rfl ?aO ?aR (fun _ hk => hk) ?aF (Below.refl _ _) ?aS ?aL ?_;(case aR => exact (by skip;exact Kd.N_F (Kd.N_mono (ok':=(fun k_ => ((fun k_ => (w.heap.size ≤ k_) ∧ k_ ≠ g)) k_ ∧ some k_ ≠ (v227 : Value).ownBlock)) (HO231.out) (fun k_ hk => ⟨⟨hk.1,hk.2.2.2⟩,hk.2.2.1⟩))));(case aF => exact (fun k_ hk => ⟨(Nat.le_trans (keep_size (w:=w) (g:=g) (row:=none) (Up.Kp0 HK)) hk),IsS79.fresh (Ip0 HI0) k_ hk⟩));(case aO => exact (Up.Nq (Kd.N_mono HO228.out (fun _ hk => ⟨hk.1.1,hk.1.2⟩))));(case aS => exact (keep_size (w:=w) (g:=g) (row:=none) (Up.Kp0 HK)));(case aL => have:=LMc13.out;omega);intro v233 w23 ho hb hg hat;rw [← Ny232.out] at ho;have n0_:=Aside0.mk (Kd.N_afterv (ok:=(fun k_ => (w.heap.size ≤ k_) ∧ some k_ ≠ (.slice Ao24 y229.length co24 : Value).ownBlock ∧ k_ ≠ g)) (Up.Nq (Kd.N_mono HO_3.out (fun _ hk => ⟨⟨hk.1.1.1,⟨hk.2,hk.1.1.2⟩⟩,hk.1.2⟩))) hg hat);have n1_:=Aside0.mk (Kd.V_afterv (ok:=(fun k_ => (w.heap.size ≤ k_) ∧ some k_ ≠ (.slice Ao19 x3_1.length co19 : Value).ownBlock ∧ some k_ ≠ (.slice Ao24 y229.length co24 : Value).ownBlock ∧ k_ ≠ g)) (Up.Vq (Kd.V_mono HO_5.out (fun _ hk => ⟨⟨hk.1.1.1,⟨hk.1.1.2.1,⟨hk.2,hk.1.1.2.2⟩⟩⟩,hk.1.2⟩))) hg hat);have n2_:=Aside0.mk (IsS79.grown (Ip0 HI0) hg (IsS79.own_neN HI0.out HO228.out (by decide)));have n3_:=Aside0.mk (Kd.N_afterv (ok:=(fun k_ => (w.heap.size ≤ k_) ∧ some k_ ≠ (.slice Ao19 x3_1.length co19 : Value).ownBlock ∧ k_ ≠ g)) (Up.Nq (Kd.N_mono HO231.out (fun _ hk => ⟨⟨hk.1,⟨hk.2.1,hk.2.2.2⟩⟩,hk.2.2.1⟩))) hg hat);have n4_:=Aside0.mk (below_weaken (Up.Bs HB (IsS79.ge HI0.out)) HL.out hb);have n5_:=Aside0.mk (KeepBut.trans (Up.Kp0 HK) (KeepBut.of_grown hg g) (Kd.N_base2 HO228.out));have n6_:=Aside0.mk (ho);clear HO_3 HO_5 HI0 HO231 HB HK HO228;have HO_3:=n0_;have HO_5:=n1_;have HI0:=n2_;have HO231:=n3_;have HB:=n4_;have HK:=n5_;have HO234:=n6_;clear n0_ n1_ n2_ n3_ n4_ n5_ n6_ ho hb hg hat;obtain ⟨Ao25,co25,eo25⟩:=Kd.N_slice HO234.out;subst eo25) | ((with_reducible refine gate_callee (f:=49) rfl ?_);refine Up.gl (some 30) Tryd.func49 #[.pointer (some ⟨g,0,none⟩),.slice Ao25 y232.length co25] ?_;(with_reducible refine (spec_l91Record.calls k2 g s0_0 x1001_2 _ _ y232 t235 t236 t239 w0 _ ?side1 ?side2 ?side3 ?side4 A14.out).mono ?_);(case side1 => repeat (first | (with_reducible first | exact HI0.out | apply IsS79.alloc | apply IsS79.drewN | apply IsS79.drew | apply IsS79.set_1) | exact HI0.out));(case side2 => repeat (first | (with_reducible first | exact HB.out | apply below_alloc | apply pw_below_drewN | apply below_drew1 | refine below_set ?_ (IsS79.ge HI0.out)) | exact HB.out));(case side3 => exact Kd.C_foot_ownV (base:=0) (Kd.N_V (Kd.N_mono (ok:=fun k_ => (((w.heap.size ≤ k_)) ∧ k_ ≠ g)) (Up.Nup HO234) (fun k_ hk_ => (⟨hk_,hk_.2⟩ : _ ∧ k_ ≠ g)))) (fun _ h_ => h_.2));(case side4 => exact (Kd.N_reads' HO234.out).2.1);rintro e w26 ⟨v237,rfl,ho0,hi,hb,hk⟩;refine ⟨_,rfl,?_⟩;have n0_:=Aside0.mk (Kd.N_mono (Kd.N_told (Kd.N_oldK (Kd.N_mono (ok:=fun k_ => ((((w.heap.size ≤ k_)) ∧ (some k_ ≠ (.slice Ao24 y229.length co24 : Value).ownBlock ∧ k_ ≠ g)) ∧ some k_ ≠ (.slice Ao25 y232.length co25 : Value).ownBlock)) (Up.Nup HO_3) (fun k_ hk_ => (⟨hk_,hk_.1.2.2⟩ : _ ∧ k_ ≠ g))) hk) (Kd.R_base ho0)) (fun _ h_ => h_.1));have n1_:=Aside0.mk (Kd.V_mono (Kd.V_told (Kd.V_oldK (Kd.V_mono (ok:=fun k_ => ((((w.heap.size ≤ k_)) ∧ (some k_ ≠ (.slice Ao19 x3_1.length co19 : Value).ownBlock ∧ (some k_ ≠ (.slice Ao24 y229.length co24 : Value).ownBlock ∧ k_ ≠ g))) ∧ some k_ ≠ (.slice Ao25 y232.length co25 : Value).ownBlock)) (Up.Vup HO_5) (fun k_ hk_ => (⟨hk_,hk_.1.2.2.2⟩ : _ ∧ k_ ≠ g))) hk) (Kd.R_base ho0)) (fun _ h_ => h_.1));have n2_:=Aside0.mk (Kd.N_mono (Kd.N_told (Kd.N_oldK (Kd.N_mono (ok:=fun k_ => ((((w.heap.size ≤ k_)) ∧ (some k_ ≠ (.slice Ao19 x3_1.length co19 : Value).ownBlock ∧ k_ ≠ g)) ∧ some k_ ≠ (.slice Ao25 y232.length co25 : Value).ownBlock)) (Up.Nup HO231) (fun k_ hk_ => (⟨hk_,hk_.1.2.2⟩ : _ ∧ k_ ≠ g))) hk) (Kd.R_base ho0)) (fun _ h_ => h_.1));have n3_:=Aside0.mk (Kd.N_mono (Kd.N_told (Kd.N_oldK (Kd.N_mono (ok:=fun k_ => (((w.heap.size ≤ k_)) ∧ k_ ≠ g)) (Up.Nup HO234) (fun k_ hk_ => (⟨hk_,hk_.2⟩ : _ ∧ k_ ≠ g))) hk) (Kd.R_base ho0)) (fun _ h_ => h_.1));have n4_:=Aside0.mk (Kd.R_lower (Kd.R_newM (M:=fun k_ => (w.heap.size ≤ k_)) ho0 (keep_size (w:=w) (g:=g) (row:=none) (Up.Kp0 HK)) (fun k_ h_ => h_)) (keep_size (w:=w) (g:=g) (row:=none) (Up.Kp0 HK)));have n5_:=Aside0.mk (KeepBut.trans (Up.Kp0 HK) hk (.inl rfl));have n6_:=Aside0.mk (hb);have n7_:=Aside0.mk (hi);clear HO_3 HO_5 HO231 HO234 HK HB HI0;have HO_3:=n0_;have HO_5:=n1_;have HO231:=n2_;have HO234:=n3_;have HO238:=n4_;have HK:=n5_;have HB:=n6_;have HI0:=n7_;clear n0_ n1_ n2_ n3_ n4_ n5_ n6_ n7_;(try clear hb);(try clear hb2);(try clear hk);(try clear hi);(try clear ho0)) | ((with_reducible refine gate_dst (N:=7) rfl ?_);refine Up.bx 7 81 #[.int .i64 0,.slice none 0 0] ?_;intro gb240 hg w27 hbox hb;have n0_:=Aside0.mk (Kd.N_below (Kd.N_elderB (Up.Nup HO_3) gb240 (Nat.le_of_eq hg.symm)) hb);have n1_:=Aside0.mk (Kd.V_below (Kd.V_elderB (Up.Vup HO_5) gb240 (Nat.le_of_eq hg.symm)) hb);have n2_:=Aside0.mk (Kd.N_below (Kd.N_elderB (Up.Nup HO231) gb240 (Nat.le_of_eq hg.symm)) hb);have n3_:=Aside0.mk (Kd.N_below (Kd.N_elderB (Up.Nup HO234) gb240 (Nat.le_of_eq hg.symm)) hb);have n4_:=Up.RB HO238 hb;have n5_:=Aside0.mk (IsS79.below (Ip0 HI0) hb);have n6_:=Aside0.mk (KeepBut.trans (Up.Kp0 HK) (KeepBut.of_below hb g none) (.inl rfl));have n7_:=Aside0.mk (below_step (Up.Bs HB (IsS79.ge HI0.out)) hb);have n8_:=Aside0.mk (hbox);have n9_:=Aside0.mk ((by rw [hg];exact (keep_size (w:=w) (g:=g) (row:=none) (Up.Kp0 HK)) : w.heap.size ≤ gb240));have n10_:=Aside0.mk ((Nat.le_trans HW0.out (by rw [hg];exact (keep_size (w:=w) (g:=g) (row:=none) (Up.Kp0 HK)) : w.heap.size ≤ gb240) : w0.heap.size ≤ gb240));have n11_:=Aside0.mk ((by rw [hg];exact Nat.ne_of_lt (IsS79.lt (show IsS79 w0 _ g s0_0 t239 from by repeat (first | (with_reducible first | exact HI0.out | apply IsS79.alloc | apply IsS79.drewN | apply IsS79.drew | apply IsS79.set_1) | exact HI0.out))) : g ≠ gb240));have n12_:=Aside0.mk ((by rw [hg];exact Nat.ne_of_gt (IsS79.lt (show IsS79 w0 _ g s0_0 t239 from by repeat (first | (with_reducible first | exact HI0.out | apply IsS79.alloc | apply IsS79.drewN | apply IsS79.drew | apply IsS79.set_1) | exact HI0.out))) : gb240 ≠ g));clear HO_3 HO_5 HO231 HO234 HO238 HI0 HK HB;have HO_3:=n0_;have HO_5:=n1_;have HO231:=n2_;have HO234:=n3_;have HO238:=n4_;have HI0:=n5_;have HK:=n6_;have HB:=n7_;have BK240:=n8_;have GW240:=n9_;have GE240:=n10_;have NB0_240:=n11_;have NB240_0:=n12_;clear n0_ n1_ n2_ n3_ n4_ n5_ n6_ n7_ n8_ n9_ n10_ n11_ n12_ hb hbox hg;have hnb28:=NB240_0.out;have hnc28:=NB0_240.out;have hcz29_0:=Up.c0 BK240;have hcz29_1:=Up.c1 BK240;have hfz29_0:=blk_frozen BK240.out 0;have hfz29_1:=blk_frozen BK240.out 1;obtain ⟨Ao30,co30,eo30⟩:=Kd.R_slice HO238.out;subst eo30))
         (try simp only [Act.put,List.setIfInBounds_toArray,List.set_cons_zero,List.set_cons_succ])
         go_cut [8] (fun v8 wc => ∃ (kq : Nat) (x8_14 : List (S81)),Aside0 (spec_l91Kinds.j2 kq x3_1 x4_1 x5_2 x6_2 x8_14 s0_0 t239 = some (r1,r2)) ∧ Aside0 (kq ≤ k2) ∧ Aside0 (Kd.N (Kd.slice 81 k81) 66 wc w.heap.size (fun k_ => (w.heap.size ≤ k_) ∧ k_ ≠ g) (.slice Ao19 x3_1.length co19) x3_1) ∧ Aside0 (Kd.V k81 81 wc w.heap.size (fun k_ => (w.heap.size ≤ k_) ∧ some k_ ≠ ((.slice Ao19 x3_1.length co19) : Value).ownBlock ∧ k_ ≠ g) (.slice Ao20 x5_2.length co20) x5_2) ∧ Aside0 (Kd.V k81 81 wc w.heap.size (fun k_ => (w.heap.size ≤ k_) ∧ some k_ ≠ ((.slice Ao19 x3_1.length co19) : Value).ownBlock ∧ k_ ≠ g) v8 x8_14) ∧ Aside0 (IsS79 w0 wc g s0_0 t239) ∧ Aside0 (KeepBut w wc g none) ∧ Aside0 (Below w0.heap.size w0 wc))
         case first =>
          have H:=HC15.out
          clear HC15
          obtain ⟨y241,hy241⟩ : ∃ y_ : List (S81),y_ = (([] : List (S81))):=⟨_,rfl⟩
          replace H : (if y241.length + x5_2.length < 4398046511104 then ((some (y241 ++ x5_2 : List (S81))).bind fun y244 => ((some (([(⟨t235,t236⟩ : S81)] : List (S81)) : List (S81))).bind fun y247 => (if y244.length + y247.length < 4398046511104 then (spec_l91Kinds.j2 k2 x3_1 x4_1 x5_2 x6_2 (y244 ++ y247) s0_0 t239) else (none)))) else (none)) = some (r1,r2):=by first | (rw [hy241];with_reducible exact H) | (have H2_:=(Option.bind_some _ _).symm.trans H;rw [hy241];with_reducible exact H2_) | (have H2_:=(Option.bind_some _ _).symm.trans H;with_reducible exact H2_) | with_reducible exact H | (rw [hy241];exact H) | exact H
          have Ny241:=Aside0.mk hy241
          clear hy241
          by_cases c31 : y241.length + x5_2.length < 4398046511104
          ·rw [if_pos c31] at H
           have LMc31:=Aside0.mk c31
           clear c31
           obtain ⟨y244,hy244⟩ : ∃ y_ : List (S81),y_ = (y241 ++ x5_2):=⟨_,rfl⟩
           replace H : ((some (([(⟨t235,t236⟩ : S81)] : List (S81)) : List (S81))).bind fun y247 => (if y244.length + y247.length < 4398046511104 then (spec_l91Kinds.j2 k2 x3_1 x4_1 x5_2 x6_2 (y244 ++ y247) s0_0 t239) else (none))) = some (r1,r2):=by first | (rw [hy244];with_reducible exact H) | (have H2_:=(Option.bind_some _ _).symm.trans H;rw [hy244];with_reducible exact H2_) | (have H2_:=(Option.bind_some _ _).symm.trans H;with_reducible exact H2_) | with_reducible exact H | (rw [hy244];exact H) | exact H
           have Ny244:=Aside0.mk hy244
           clear hy244
           obtain ⟨y247,hy247⟩ : ∃ y_ : List (S81),y_ = (([(⟨t235,t236⟩ : S81)] : List (S81))):=⟨_,rfl⟩
           replace H : (if y244.length + y247.length < 4398046511104 then (spec_l91Kinds.j2 k2 x3_1 x4_1 x5_2 x6_2 (y244 ++ y247) s0_0 t239) else (none)) = some (r1,r2):=by first | (rw [hy247];with_reducible exact H) | (have H2_:=(Option.bind_some _ _).symm.trans H;rw [hy247];with_reducible exact H2_) | (have H2_:=(Option.bind_some _ _).symm.trans H;with_reducible exact H2_) | with_reducible exact H | (rw [hy247];exact H) | exact H
           have Ny247:=Aside0.mk hy247
           clear hy247
           by_cases c32 : y244.length + y247.length < 4398046511104
           ·rw [if_pos c32] at H
            have LMc32:=Aside0.mk c32
            clear c32
            obtain ⟨y250,hy250⟩ : ∃ y_ : List (S81),y_ = (y244 ++ y247):=⟨_,rfl⟩
            replace H : (spec_l91Kinds.j2 k2 x3_1 x4_1 x5_2 x6_2 y250 s0_0 t239) = some (r1,r2):=by first | (rw [hy250];with_reducible exact H) | (have H2_:=(Option.bind_some _ _).symm.trans H;rw [hy250];with_reducible exact H2_) | (have H2_:=(Option.bind_some _ _).symm.trans H;with_reducible exact H2_) | with_reducible exact H | (rw [hy250];exact H) | exact H
            have Ny250:=Aside0.mk hy250
            clear hy250
            have H':=Aside0.mk H
            clear H
            try go_wp2
            have n0_ : Aside0 (Kd.N (Kd.slice 81 k81) 66 ((w27.setCell ⟨gb240,0,none⟩ (.int .i64 t235)).setCell ⟨gb240,1,none⟩ (.slice Ao30 t236.length co30)) w.heap.size (fun k_ => (w.heap.size ≤ k_) ∧ some k_ ≠ (.slice Ao24 y229.length co24 : Value).ownBlock ∧ some k_ ≠ (.slice Ao25 y232.length co25 : Value).ownBlock ∧ some k_ ≠ (.slice Ao30 t236.length co30 : Value).ownBlock ∧ k_ ≠ g ∧ k_ ≠ gb240) (.slice Ao19 x3_1.length co19) x3_1):=⟨by (with_reducible repeat (first | apply Kd.N_alloc | apply Kd.N_drewN | apply Kd.N_drew));exact Kd.N_mono (Kd.N_far (p:=⟨gb240,1,none⟩) (Kd.N_far (p:=⟨gb240,0,none⟩) (Kd.N_mono HO_3.out (fun k_ hk => (⟨hk,hk.2⟩ : _ ∧ k_ ≠ gb240))) (fun _ hk => hk.2) (.int .i64 t235)) (fun _ hk => hk.2) (.slice Ao30 t236.length co30)) (fun _ hk => ⟨hk.1.1.1.1.1,⟨hk.1.1.1.1.2.1,⟨hk.1.1.1.2,⟨hk.1.1.2,⟨hk.1.1.1.1.2.2,hk.1.2⟩⟩⟩⟩⟩)⟩
            have n1_ : Aside0 (Kd.V k81 81 ((w27.setCell ⟨gb240,0,none⟩ (.int .i64 t235)).setCell ⟨gb240,1,none⟩ (.slice Ao30 t236.length co30)) w.heap.size (fun k_ => (w.heap.size ≤ k_) ∧ some k_ ≠ (.slice Ao19 x3_1.length co19 : Value).ownBlock ∧ some k_ ≠ (.slice Ao24 y229.length co24 : Value).ownBlock ∧ some k_ ≠ (.slice Ao25 y232.length co25 : Value).ownBlock ∧ some k_ ≠ (.slice Ao30 t236.length co30 : Value).ownBlock ∧ k_ ≠ g ∧ k_ ≠ gb240) (.slice Ao20 x5_2.length co20) x5_2):=⟨by (with_reducible repeat (first | apply Kd.V_alloc | apply Kd.V_drewN | apply Kd.V_drew));exact Kd.V_mono (Kd.V_far (p:=⟨gb240,1,none⟩) (Kd.V_far (p:=⟨gb240,0,none⟩) (Kd.V_mono HO_5.out (fun k_ hk => (⟨hk,hk.2⟩ : _ ∧ k_ ≠ gb240))) (fun _ hk => hk.2) (.int .i64 t235)) (fun _ hk => hk.2) (.slice Ao30 t236.length co30)) (fun _ hk => ⟨hk.1.1.1.1.1,⟨hk.1.1.1.1.2.1,⟨hk.1.1.1.1.2.2.1,⟨hk.1.1.1.2,⟨hk.1.1.2,⟨hk.1.1.1.1.2.2.2,hk.1.2⟩⟩⟩⟩⟩⟩)⟩
            have n2_ : Aside0 (Kd.N (Kd.slice 81 k81) 66 ((w27.setCell ⟨gb240,0,none⟩ (.int .i64 t235)).setCell ⟨gb240,1,none⟩ (.slice Ao30 t236.length co30)) w.heap.size (fun k_ => (w.heap.size ≤ k_) ∧ some k_ ≠ (.slice Ao19 x3_1.length co19 : Value).ownBlock ∧ some k_ ≠ (.slice Ao25 y232.length co25 : Value).ownBlock ∧ some k_ ≠ (.slice Ao30 t236.length co30 : Value).ownBlock ∧ k_ ≠ g ∧ k_ ≠ gb240) (.slice Ao24 y229.length co24) y229):=⟨by (with_reducible repeat (first | apply Kd.N_alloc | apply Kd.N_drewN | apply Kd.N_drew));exact Kd.N_mono (Kd.N_far (p:=⟨gb240,1,none⟩) (Kd.N_far (p:=⟨gb240,0,none⟩) (Kd.N_mono HO231.out (fun k_ hk => (⟨hk,hk.2⟩ : _ ∧ k_ ≠ gb240))) (fun _ hk => hk.2) (.int .i64 t235)) (fun _ hk => hk.2) (.slice Ao30 t236.length co30)) (fun _ hk => ⟨hk.1.1.1.1.1,⟨hk.1.1.1.1.2.1,⟨hk.1.1.1.2,⟨hk.1.1.2,⟨hk.1.1.1.1.2.2,hk.1.2⟩⟩⟩⟩⟩)⟩
            have n3_ : Aside0 (Kd.N (Kd.slice 81 k81) 66 ((w27.setCell ⟨gb240,0,none⟩ (.int .i64 t235)).setCell ⟨gb240,1,none⟩ (.slice Ao30 t236.length co30)) w.heap.size (fun k_ => (w.heap.size ≤ k_) ∧ some k_ ≠ (.slice Ao30 t236.length co30 : Value).ownBlock ∧ k_ ≠ g ∧ k_ ≠ gb240) (.slice Ao25 y232.length co25) y232):=⟨by (with_reducible repeat (first | apply Kd.N_alloc | apply Kd.N_drewN | apply Kd.N_drew));exact Kd.N_mono (Kd.N_far (p:=⟨gb240,1,none⟩) (Kd.N_far (p:=⟨gb240,0,none⟩) (Kd.N_mono HO234.out (fun k_ hk => (⟨hk,hk.2⟩ : _ ∧ k_ ≠ gb240))) (fun _ hk => hk.2) (.int .i64 t235)) (fun _ hk => hk.2) (.slice Ao30 t236.length co30)) (fun _ hk => ⟨hk.1.1.1.1,⟨hk.1.1.2,⟨hk.1.1.1.2,hk.1.2⟩⟩⟩)⟩
            have n4_ : Aside0 (Kd.R Kd.string 9 ((w27.setCell ⟨gb240,0,none⟩ (.int .i64 t235)).setCell ⟨gb240,1,none⟩ (.slice Ao30 t236.length co30)) w.heap.size (fun k_ => (w.heap.size ≤ k_)) (.slice Ao30 t236.length co30) t236):=⟨by (with_reducible repeat (first | apply Kd.R_alloc | apply Kd.R_drewN | apply Kd.R_drew));exact Kd.R_mono (Kd.R_far (p:=⟨gb240,1,none⟩) (Kd.R_far (p:=⟨gb240,0,none⟩) (Kd.R_types HO238.out BK240.out (by decide)) (fun _ hk => hk.2) (.int .i64 t235)) (fun _ hk => hk.2) (.slice Ao30 t236.length co30)) (fun _ hk => hk.1.1)⟩
            have n5_ : Aside0 (((w27.setCell ⟨gb240,0,none⟩ (.int .i64 t235)).setCell ⟨gb240,1,none⟩ (.slice Ao30 t236.length co30)).heap[gb240]? = some (.cells #[.int .i64 t235,.slice Ao30 t236.length co30] 81 (0,0))):=⟨by (with_reducible repeat (first | refine blk_drewN ?_ _ | refine blk_drew ?_ | refine blk_alloc ?_ _));refine blk_put (cs:=#[.int .i64 t235,.slice none 0 0]) ?_ 1 _ rfl;(with_reducible repeat (first | refine blk_drewN ?_ _ | refine blk_drew ?_ | refine blk_alloc ?_ _));refine blk_put (cs:=#[.int .i64 0,.slice none 0 0]) ?_ 0 _ rfl;(with_reducible repeat (first | refine blk_drewN ?_ _ | refine blk_drew ?_ | refine blk_alloc ?_ _));exact BK240.out⟩
            have n6_ : Aside0 (IsS79 w0 ((w27.setCell ⟨gb240,0,none⟩ (.int .i64 t235)).setCell ⟨gb240,1,none⟩ (.slice Ao30 t236.length co30)) g s0_0 t239):=⟨by repeat (first | (with_reducible first | exact HI0.out | apply IsS79.alloc | apply IsS79.drewN | apply IsS79.drew | apply IsS79.set_1 | refine IsS79.far ?_ NB0_240.out _) | exact HI0.out)⟩
            have n7_ : Aside0 (KeepBut w ((w27.setCell ⟨gb240,0,none⟩ (.int .i64 t235)).setCell ⟨gb240,1,none⟩ (.slice Ao30 t236.length co30)) g none):=⟨by repeat (first | (with_reducible first | exact HK.out | apply KeepBut.set_ | apply keep_drewN | apply keep_drew | apply keep_alloc | refine keep_far ?_ GW240.out _) | exact HK.out)⟩
            have n8_ : Aside0 (Below w0.heap.size w0 ((w27.setCell ⟨gb240,0,none⟩ (.int .i64 t235)).setCell ⟨gb240,1,none⟩ (.slice Ao30 t236.length co30))):=⟨by repeat (first | (with_reducible first | exact HB.out | apply below_alloc | apply pw_below_drewN | apply below_drew1 | refine below_set ?_ (IsS79.ge HI0.out) | refine below_set ?_ GE240.out) | exact HB.out)⟩
            (try clear HO_3)
            (try clear HO_5)
            (try clear HO231)
            (try clear HO234)
            (try clear HO238)
            (try clear BK240)
            (try clear HI0)
            (try clear HK)
            (try clear HB)
            generalize ((w27.setCell ⟨gb240,0,none⟩ (.int .i64 t235)).setCell ⟨gb240,1,none⟩ (.slice Ao30 t236.length co30)) = w33 at n0_ n1_ n2_ n3_ n4_ n5_ n6_ n7_ n8_ ⊢
            have HO_3:=n0_
            have HO_5:=n1_
            have HO231:=n2_
            have HO234:=n3_
            have HO238:=n4_
            have BK240:=n5_
            have HI0:=n6_
            have HK:=n7_
            have HB:=n8_
            clear n0_ n1_ n2_ n3_ n4_ n5_ n6_ n7_ n8_
            have n0_:=Aside0.mk (Kd.N_drew HO_3.out)
            have n1_:=Aside0.mk (Kd.V_drew HO_5.out)
            have n2_:=Aside0.mk (Kd.N_drew HO231.out)
            have n3_:=Aside0.mk (Kd.N_drew HO234.out)
            have n4_:=Aside0.mk (Kd.R_drew HO238.out)
            have n5_:=Aside0.mk (blk_drew BK240.out)
            have n6_:=Aside0.mk (IsS79.drew HI0.out)
            have n7_:=Aside0.mk (keep_drew HK.out)
            have n8_:=Aside0.mk (below_drew1 HB.out)
            clear HO_3
            clear HO_5
            clear HO231
            clear HO234
            clear HO238
            clear BK240
            clear HI0
            clear HK
            clear HB
            have HO_3:=n0_
            have HO_5:=n1_
            have HO231:=n2_
            have HO234:=n3_
            have HO238:=n4_
            have BK240:=n5_
            have HI0:=n6_
            have HK:=n7_
            have HB:=n8_
            clear n0_ n1_ n2_ n3_ n4_ n5_ n6_ n7_ n8_
            refine start_ (n:=7) (S:=fun w' => w'.cell? ⟨gb240,0,none⟩ = some (.int .i64 t235) ∧ w'.cell? ⟨gb240,1,none⟩ = some (.slice Ao30 t236.length co30)) (ds:=[]) #[false,false,false,false,false,false,false] (by kernel_rfl) rfl rfl ⟨Up.c0 BK240,Up.c1 BK240⟩ (fun hHeld => ?_)
            generalize w33.drew = w34 at HO_3 HO_5 HO231 HO234 HO238 BK240 HI0 HK HB hHeld ⊢
            refine Up.pn 1 (some 32) ?_
            refine take_ (i:=3) (N:=some 34) (v:=?_) (a':=?_) #[false,true,false,true,false,false,false] rfl rfl (by kernel_rfl) (fun _ _ _ h => h) (Or.inl ⟨by rfl,?_⟩) hHeld ?_ ?_
            rotate_left
            ·rintro w' ⟨s0,s1⟩
             go_simp
             with_reducible rfl
            rotate_left
            ·simp only [Act.put,List.setIfInBounds_toArray,List.set_cons_zero,List.set_cons_succ,i64_w,i32_w]
             rfl
            refine join_ (σ:=Value × Value × Value) 2 #[true,true,true,true,true,false,false] (fun s_ => [(31,s_.1),(33,s_.2.1),(35,s_.2.2)]) (fun s_ w' => (w'.cell? ⟨gb240,0,none⟩ = some (.int .i64 t235) ∧ w'.cell? ⟨gb240,1,none⟩ = some (.slice Ao30 t236.length co30)) ∧ (Kd.N (Kd.slice 81 k81) 66 w' w.heap.size (fun k_ => (w.heap.size ≤ k_) ∧ some k_ ≠ (.slice Ao25 y232.length co25 : Value).ownBlock ∧ some k_ ≠ (s_.2.1 : Value).ownBlock ∧ some k_ ≠ (s_.2.2 : Value).ownBlock ∧ some k_ ≠ (.slice Ao19 x3_1.length co19 : Value).ownBlock ∧ k_ ≠ g ∧ k_ ≠ gb240) (.slice Ao24 y229.length co24) y229) ∧ (Kd.N (Kd.slice 81 k81) 66 w' w.heap.size (fun k_ => (w.heap.size ≤ k_) ∧ some k_ ≠ (s_.2.1 : Value).ownBlock ∧ some k_ ≠ (s_.2.2 : Value).ownBlock ∧ k_ ≠ g ∧ k_ ≠ gb240) (.slice Ao25 y232.length co25) y232) ∧ (Kd.N k81 81 w' w.heap.size (fun k_ => (w.heap.size ≤ k_) ∧ some k_ ≠ (.slice Ao24 y229.length co24 : Value).ownBlock ∧ some k_ ≠ (.slice Ao25 y232.length co25 : Value).ownBlock ∧ some k_ ≠ (s_.2.2 : Value).ownBlock ∧ some k_ ≠ (.slice Ao19 x3_1.length co19 : Value).ownBlock ∧ k_ ≠ g ∧ k_ ≠ gb240) s_.2.1 y244) ∧ (Kd.N k81 81 w' w.heap.size (fun k_ => (w.heap.size ≤ k_) ∧ some k_ ≠ (.slice Ao24 y229.length co24 : Value).ownBlock ∧ some k_ ≠ (.slice Ao25 y232.length co25 : Value).ownBlock ∧ some k_ ≠ (s_.2.1 : Value).ownBlock ∧ some k_ ≠ (.slice Ao19 x3_1.length co19 : Value).ownBlock ∧ k_ ≠ g ∧ k_ ≠ gb240) s_.2.2 y247) ∧ (Kd.N (Kd.slice 81 k81) 66 w' w.heap.size (fun k_ => (w.heap.size ≤ k_) ∧ some k_ ≠ (.slice Ao24 y229.length co24 : Value).ownBlock ∧ some k_ ≠ (.slice Ao25 y232.length co25 : Value).ownBlock ∧ some k_ ≠ (s_.2.1 : Value).ownBlock ∧ some k_ ≠ (s_.2.2 : Value).ownBlock ∧ k_ ≠ g ∧ k_ ≠ gb240) (.slice Ao19 x3_1.length co19) x3_1) ∧ (Kd.V k81 81 w' w.heap.size (fun k_ => (w.heap.size ≤ k_) ∧ some k_ ≠ (.slice Ao24 y229.length co24 : Value).ownBlock ∧ some k_ ≠ (.slice Ao25 y232.length co25 : Value).ownBlock ∧ some k_ ≠ (s_.2.1 : Value).ownBlock ∧ some k_ ≠ (s_.2.2 : Value).ownBlock ∧ some k_ ≠ (.slice Ao19 x3_1.length co19 : Value).ownBlock ∧ k_ ≠ g ∧ k_ ≠ gb240) (.slice Ao20 x5_2.length co20) x5_2) ∧ (w'.heap[gb240]? = some (.cells #[.int .i64 t235,.slice Ao30 t236.length co30] 81 (0,0))) ∧ (IsS79 w0 w' g s0_0 t239) ∧ (KeepBut w w' g none) ∧ (Below w0.heap.size w0 w')) ?_ ?_
            rotate_left
            ·intro hCont
             refine two_ (i:=0) (j:=4) (Ni:=some 31) (Nj:=some 35) #[true,true,false,true,false,false,false] #[false,true,false,true,true,false,false] rfl rfl rfl rfl (by kernel_rfl) (by decide) (by decide) (fun K hK => ?_) (fun K hK => ?_)
             ·skip
              refine Kd.N_lit_step k81 _ 81 ?hg (N':=31) ?hd (xs:=([] : List (S81))) (inner:=[]) (ok:=(fun k_ => (w.heap.size ≤ k_) ∧ some k_ ≠ (.slice Ao19 x3_1.length co19 : Value).ownBlock ∧ some k_ ≠ (.slice Ao24 y229.length co24 : Value).ownBlock ∧ some k_ ≠ (.slice Ao25 y232.length co25 : Value).ownBlock ∧ some k_ ≠ (.slice Ao30 t236.length co30 : Value).ownBlock ∧ k_ ≠ gb240 ∧ k_ ≠ g)) (okp:=(fun k_ => (w.heap.size ≤ k_) ∧ some k_ ≠ (.slice Ao19 x3_1.length co19 : Value).ownBlock ∧ some k_ ≠ (.slice Ao24 y229.length co24 : Value).ownBlock ∧ some k_ ≠ (.slice Ao25 y232.length co25 : Value).ownBlock ∧ some k_ ≠ (.slice Ao30 t236.length co30 : Value).ownBlock ∧ k_ ≠ gb240 ∧ k_ ≠ g)) ?hr ?hp (fun _ hk => hk) ((show ∀ k_,w34.heap.size ≤ k_ → (fun k_ => (w.heap.size ≤ k_) ∧ some k_ ≠ (.slice Ao19 x3_1.length co19 : Value).ownBlock ∧ some k_ ≠ (.slice Ao24 y229.length co24 : Value).ownBlock ∧ some k_ ≠ (.slice Ao25 y232.length co25 : Value).ownBlock ∧ some k_ ≠ (.slice Ao30 t236.length co30 : Value).ownBlock ∧ k_ ≠ gb240 ∧ k_ ≠ g) k_ from fun k_ hk => ⟨(Nat.le_trans (keep_size (w:=w) (g:=g) (row:=none) (Up.Kp HK GW240)) hk),Kd.fresh' (Kd.N_lt (Up.Nup HO_3)) k_ hk,Kd.fresh' (Kd.N_lt (Up.Nup HO231)) k_ hk,Kd.fresh' (Kd.N_lt (Up.Nup HO234)) k_ hk,Kd.fresh' (Kd.R_lt (Up.Rup HO238)) k_ hk,Kd.freshB (g:=gb240) (o:=.cells #[.int .i64 t235,.slice Ao30 t236.length co30] 81 (0,0)) (Up.Kup BK240) k_ hk,IsS79.fresh (Ip1 HI0 NB0_240) k_ hk⟩) _ (Nat.le_refl _)) (Below.refl _ _) (Nat.le_refl _) (by simp) ?_;(case hd => rfl);(case hg => rfl);(case hr => first | (go_simp;done) | (go_simp;rfl));(case hp => exact (Reps.none _ _))
              intro v242 w35 ho36 hb hg_ hnew_
              clear hg_ hnew_
              (first | rw [← Ny241.out] at ho36 | (simp only [Int.reduceToNat] at ho36;rw [← Ny241.out] at ho36))
              have n0_:=Aside0.mk (Kd.N_elder' (Up.Nup HO_3) (Kd.N_base ho36) hb)
              have n1_:=Aside0.mk (Kd.V_elder' (Up.Vup HO_5) (Kd.N_base ho36) hb)
              have n2_:=Aside0.mk (Kd.N_elder' (Up.Nup HO231) (Kd.N_base ho36) hb)
              have n3_:=Aside0.mk (Kd.N_elder' (Up.Nup HO234) (Kd.N_base ho36) hb)
              have n4_:=Up.RB HO238 hb
              have n5_:=Aside0.mk (Kd.N_lower ho36 (keep_size (w:=w) (g:=g) (row:=none) (Up.Kp HK GW240)))
              have n6_:=Aside0.mk (IsS79.below (Ip1 HI0 NB0_240) hb)
              have n7_:=Up.KB BK240 hb
              have n8_:=Aside0.mk (KeepBut.trans (Up.Kp HK GW240) (KeepBut.of_below hb g none) (.inl rfl))
              have n9_:=Aside0.mk (below_step (Up.Bt HB (IsS79.ge HI0.out) GE240) hb)
              clear HO_3
              clear HO_5
              clear HO231
              clear HO234
              clear HO238
              clear HI0
              clear BK240
              clear HK
              clear HB
              have HO_3:=n0_
              have HO_5:=n1_
              have HO231:=n2_
              have HO234:=n3_
              have HO238:=n4_
              have HO243:=n5_
              have HI0:=n6_
              have BK240:=n7_
              have HK:=n8_
              have HB:=n9_
              clear n0_ n1_ n2_ n3_ n4_ n5_ n6_ n7_ n8_ n9_
              clear hb ho36
              refine hK.out _ _ ⟨Up.c0 BK240,Up.c1 BK240⟩ (fun hHeld => ?_)
              clear hK K
              refine Up.nm 31 ?_
              refine two_ (i:=2) (j:=4) (Ni:=some 33) (Nj:=some 35) #[true,true,true,true,false,false,false] #[true,true,false,true,true,false,false] rfl rfl rfl rfl (by kernel_rfl) (by decide) (by decide) (fun K hK => ?_) (fun K hK => ?_)
              ·skip
               refine Kd.N_append_rows_step k81 w.heap.size (by rfl) (.tmp 31) (.tmp 32) 66 81 (.agg #[(.int .i64 0),(.slice none 0 0)]) 32 rfl Tryd.underlying66 info81 rfl (by decide) (by omega) v242 y241 x5_2 _ _ _ (fun k_ => (w.heap.size ≤ k_) ∧ some k_ ≠ (.slice Ao19 x3_1.length co19 : Value).ownBlock ∧ some k_ ≠ (.slice Ao24 y229.length co24 : Value).ownBlock ∧ some k_ ≠ (.slice Ao25 y232.length co25 : Value).ownBlock ∧ some k_ ≠ (.slice Ao30 t236.length co30 : Value).ownBlock ∧ k_ ≠ gb240 ∧ k_ ≠ g) (fun k_ => ((fun k_ => (w.heap.size ≤ k_) ∧ some k_ ≠ (.slice Ao19 x3_1.length co19 : Value).ownBlock ∧ some k_ ≠ (.slice Ao24 y229.length co24 : Value).ownBlock ∧ some k_ ≠ (.slice Ao25 y232.length co25 : Value).ownBlock ∧ some k_ ≠ (.slice Ao30 t236.length co30 : Value).ownBlock ∧ k_ ≠ gb240 ∧ k_ ≠ g)) k_ ∧ some k_ ≠ (v242 : Value).ownBlock) rfl rfl ?aO ?aR (fun _ hk => hk) ?aF (Below.refl _ _) ?aS ?aL ?_
               (case aR => exact (by skip;exact Kd.V_F (Kd.V_mono (ok':=(fun k_ => ((fun k_ => (w.heap.size ≤ k_) ∧ some k_ ≠ (.slice Ao19 x3_1.length co19 : Value).ownBlock ∧ some k_ ≠ (.slice Ao24 y229.length co24 : Value).ownBlock ∧ some k_ ≠ (.slice Ao25 y232.length co25 : Value).ownBlock ∧ some k_ ≠ (.slice Ao30 t236.length co30 : Value).ownBlock ∧ k_ ≠ gb240 ∧ k_ ≠ g)) k_ ∧ some k_ ≠ (v242 : Value).ownBlock)) (HO_5.out) (fun k_ hk => ⟨⟨hk.1.1,⟨hk.1.2.1,⟨hk.1.2.2.1,⟨hk.1.2.2.2.1,⟨hk.1.2.2.2.2.1,⟨hk.1.2.2.2.2.2.2,hk.1.2.2.2.2.2.1⟩⟩⟩⟩⟩⟩,hk.2⟩))))
               (case aF => exact (fun k_ hk => ⟨(Nat.le_trans (keep_size (w:=w) (g:=g) (row:=none) (Up.Kp HK GW240)) hk),Kd.fresh' (Kd.N_lt (Up.Nup HO_3)) k_ hk,Kd.fresh' (Kd.N_lt (Up.Nup HO231)) k_ hk,Kd.fresh' (Kd.N_lt (Up.Nup HO234)) k_ hk,Kd.fresh' (Kd.R_lt (Up.Rup HO238)) k_ hk,Kd.freshB (g:=gb240) (o:=.cells #[.int .i64 t235,.slice Ao30 t236.length co30] 81 (0,0)) (Up.Kup BK240) k_ hk,IsS79.fresh (Ip1 HI0 NB0_240) k_ hk⟩))
               (case aO => exact (Up.Nup HO243))
               (case aS => exact (keep_size (w:=w) (g:=g) (row:=none) (Up.Kp HK GW240)))
               (case aL => have:=LMc31.out;omega)
               intro v245 w37 ho hb hg hat
               rw [← Ny244.out] at ho
               have n0_:=Aside0.mk (Kd.N_afterv (ok:=(fun k_ => (w.heap.size ≤ k_) ∧ some k_ ≠ (.slice Ao24 y229.length co24 : Value).ownBlock ∧ some k_ ≠ (.slice Ao25 y232.length co25 : Value).ownBlock ∧ some k_ ≠ (.slice Ao30 t236.length co30 : Value).ownBlock ∧ k_ ≠ g ∧ k_ ≠ gb240)) (Up.Nup HO_3) hg hat)
               have n1_:=Aside0.mk (Kd.V_afterv (ok:=(fun k_ => (w.heap.size ≤ k_) ∧ some k_ ≠ (.slice Ao19 x3_1.length co19 : Value).ownBlock ∧ some k_ ≠ (.slice Ao24 y229.length co24 : Value).ownBlock ∧ some k_ ≠ (.slice Ao25 y232.length co25 : Value).ownBlock ∧ some k_ ≠ (.slice Ao30 t236.length co30 : Value).ownBlock ∧ k_ ≠ g ∧ k_ ≠ gb240)) (Up.Vup HO_5) hg hat)
               have n2_:=Aside0.mk (IsS79.grown (Ip1 HI0 NB0_240) hg (IsS79.own_neN HI0.out HO243.out (by decide)))
               have n3_:=Aside0.mk (Kd.N_afterv (ok:=(fun k_ => (w.heap.size ≤ k_) ∧ some k_ ≠ (.slice Ao19 x3_1.length co19 : Value).ownBlock ∧ some k_ ≠ (.slice Ao25 y232.length co25 : Value).ownBlock ∧ some k_ ≠ (.slice Ao30 t236.length co30 : Value).ownBlock ∧ k_ ≠ g ∧ k_ ≠ gb240)) (Up.Nup HO231) hg hat)
               have n4_:=Aside0.mk (Kd.N_afterv (ok:=(fun k_ => (w.heap.size ≤ k_) ∧ some k_ ≠ (.slice Ao30 t236.length co30 : Value).ownBlock ∧ k_ ≠ g ∧ k_ ≠ gb240)) (Up.Nup HO234) hg hat)
               have n5_:=Aside0.mk (Kd.R_over' (Up.Rup HO238) (Kd.N_typed (Up.Nup HO243)) (by decide) hg)
               have n6_:=Aside0.mk (blk_grown (g:=gb240) (o:=.cells #[.int .i64 t235,.slice Ao30 t236.length co30] 81 (0,0)) (Up.Kup BK240) hg (Kd.N_away HO243.out (fun _ hk => hk.2.2.2.2.2.1)))
               have n7_:=Aside0.mk (below_weaken (Up.Bt HB (IsS79.ge HI0.out) GE240) HL.out hb)
               have n8_:=Aside0.mk (KeepBut.trans (Up.Kp HK GW240) (KeepBut.of_grown hg g) (Kd.N_base2 HO243.out))
               have n9_:=Aside0.mk (ho)
               clear HO_3
               clear HO_5
               clear HI0
               clear HO231
               clear HO234
               clear HO238
               clear BK240
               clear HB
               clear HK
               clear HO243
               have HO_3:=n0_
               have HO_5:=n1_
               have HI0:=n2_
               have HO231:=n3_
               have HO234:=n4_
               have HO238:=n5_
               have BK240:=n6_
               have HB:=n7_
               have HK:=n8_
               have HO246:=n9_
               clear n0_ n1_ n2_ n3_ n4_ n5_ n6_ n7_ n8_ n9_
               clear ho hb hg hat
               refine hK.out _ _ ⟨Up.c0 BK240,Up.c1 BK240⟩ (fun hHeld => ?_)
               clear hK K
               refine Up.nm 33 ?_
               refine one_ (i:=4) (N:=some 35) #[true,true,true,true,true,false,false] rfl rfl (by kernel_rfl) (by decide) (fun K hK => ?_)
               refine Kd.N_lit_step k81 _ 81 ?hg (N':=35) ?hd (xs:=([(⟨t235,t236⟩ : S81)] : List (S81))) (inner:=[.int .i64 t235,.slice Ao30 t236.length co30]) (ok:=(fun k_ => (w.heap.size ≤ k_) ∧ some k_ ≠ (.slice Ao19 x3_1.length co19 : Value).ownBlock ∧ some k_ ≠ (.slice Ao24 y229.length co24 : Value).ownBlock ∧ some k_ ≠ (.slice Ao25 y232.length co25 : Value).ownBlock ∧ some k_ ≠ (v245 : Value).ownBlock ∧ k_ ≠ gb240 ∧ k_ ≠ g)) (okp:=(fun k_ => (w.heap.size ≤ k_) ∧ some k_ ≠ (.slice Ao19 x3_1.length co19 : Value).ownBlock ∧ some k_ ≠ (.slice Ao24 y229.length co24 : Value).ownBlock ∧ some k_ ≠ (.slice Ao25 y232.length co25 : Value).ownBlock ∧ some k_ ≠ (v245 : Value).ownBlock ∧ k_ ≠ gb240 ∧ k_ ≠ g)) ?hr ?hp (fun _ hk => hk) ((show ∀ k_,w37.heap.size ≤ k_ → (fun k_ => (w.heap.size ≤ k_) ∧ some k_ ≠ (.slice Ao19 x3_1.length co19 : Value).ownBlock ∧ some k_ ≠ (.slice Ao24 y229.length co24 : Value).ownBlock ∧ some k_ ≠ (.slice Ao25 y232.length co25 : Value).ownBlock ∧ some k_ ≠ (v245 : Value).ownBlock ∧ k_ ≠ gb240 ∧ k_ ≠ g) k_ from fun k_ hk => ⟨(Nat.le_trans (keep_size (w:=w) (g:=g) (row:=none) (Up.Kp HK GW240)) hk),Kd.fresh' (Kd.N_lt (Up.Nup HO_3)) k_ hk,Kd.fresh' (Kd.N_lt (Up.Nup HO231)) k_ hk,Kd.fresh' (Kd.N_lt (Up.Nup HO234)) k_ hk,Kd.fresh' (Kd.N_lt (Up.Nup HO246)) k_ hk,Kd.freshB (g:=gb240) (o:=.cells #[.int .i64 t235,.slice Ao30 t236.length co30] 81 (0,0)) (Up.Kup BK240) k_ hk,IsS79.fresh (Ip1 HI0 NB0_240) k_ hk⟩) _ (Nat.le_refl _)) (Below.refl _ _) (Nat.le_refl _) (by simp) ?_;(case hd => rfl);(case hg => rfl);(case hr => first | (go_simp;done) | (go_simp;rfl));(case hp => exact (Reps.c2 (show Kd.FK k81 _ _ (⟨t235,t236⟩ : S81) [.int .i64 t235,.slice Ao30 t236.length co30] from (k81_mkF _ _ (⟨t235,t236⟩ : S81) (Kd.R_reads' (Kd.R_mono (ok':=(fun k_ => (w.heap.size ≤ k_) ∧ some k_ ≠ (.slice Ao19 x3_1.length co19 : Value).ownBlock ∧ some k_ ≠ (.slice Ao24 y229.length co24 : Value).ownBlock ∧ some k_ ≠ (.slice Ao25 y232.length co25 : Value).ownBlock ∧ some k_ ≠ (v245 : Value).ownBlock ∧ k_ ≠ gb240 ∧ k_ ≠ g)) (IsS79.apart HI0.out (Kd.R_types (Kd.R_apart' (Kd.R_apart' (Kd.R_apart' (Kd.R_apart' (HO238.out) (Kd.N_typed HO_3.out) (by decide)) (Kd.N_typed HO231.out) (by decide)) (Kd.N_typed HO234.out) (by decide)) (Kd.N_typed HO246.out) (by decide)) BK240.out (by decide)) (by decide)) (fun k_ hk => ⟨hk.1.1.1.1.1.1,⟨hk.1.1.1.1.1.2,⟨hk.1.1.1.1.2,⟨hk.1.1.1.2,⟨hk.1.1.2,⟨hk.1.2,hk.2⟩⟩⟩⟩⟩⟩))).2.1 (Kd.R_F (Kd.R_mono (ok':=(fun k_ => (w.heap.size ≤ k_) ∧ some k_ ≠ (.slice Ao19 x3_1.length co19 : Value).ownBlock ∧ some k_ ≠ (.slice Ao24 y229.length co24 : Value).ownBlock ∧ some k_ ≠ (.slice Ao25 y232.length co25 : Value).ownBlock ∧ some k_ ≠ (v245 : Value).ownBlock ∧ k_ ≠ gb240 ∧ k_ ≠ g)) (IsS79.apart HI0.out (Kd.R_types (Kd.R_apart' (Kd.R_apart' (Kd.R_apart' (Kd.R_apart' (HO238.out) (Kd.N_typed HO_3.out) (by decide)) (Kd.N_typed HO231.out) (by decide)) (Kd.N_typed HO234.out) (by decide)) (Kd.N_typed HO246.out) (by decide)) BK240.out (by decide)) (by decide)) (fun k_ hk => ⟨hk.1.1.1.1.1.1,⟨hk.1.1.1.1.1.2,⟨hk.1.1.1.1.2,⟨hk.1.1.1.2,⟨hk.1.1.2,⟨hk.1.2,hk.2⟩⟩⟩⟩⟩⟩))))) (Reps.none _ _)))
               intro v248 w38 ho39 hb hg_ hnew_
               clear hg_ hnew_
               (first | rw [← Ny247.out] at ho39 | (simp only [Int.reduceToNat] at ho39;rw [← Ny247.out] at ho39))
               have n0_:=Aside0.mk (Kd.N_elder' (Up.Nup HO_3) (Kd.N_base ho39) hb)
               have n1_:=Aside0.mk (Kd.V_elder' (Up.Vup HO_5) (Kd.N_base ho39) hb)
               have n2_:=Aside0.mk (Kd.N_elder' (Up.Nup HO231) (Kd.N_base ho39) hb)
               have n3_:=Aside0.mk (Kd.N_elder' (Up.Nup HO234) (Kd.N_base ho39) hb)
               have n4_:=Aside0.mk (Kd.N_elder' (Up.Nup HO246) (Kd.N_base ho39) hb)
               have n5_:=Aside0.mk (Kd.N_lower ho39 (keep_size (w:=w) (g:=g) (row:=none) (Up.Kp HK GW240)))
               have n6_:=Aside0.mk (IsS79.below (Ip1 HI0 NB0_240) hb)
               have n7_:=Up.KB BK240 hb
               have n8_:=Aside0.mk (KeepBut.trans (Up.Kp HK GW240) (KeepBut.of_below hb g none) (.inl rfl))
               have n9_:=Aside0.mk (below_step (Up.Bt HB (IsS79.ge HI0.out) GE240) hb)
               clear HO_3
               clear HO_5
               clear HO231
               clear HO234
               clear HO246
               clear HI0
               clear BK240
               clear HK
               clear HB
               clear HO238
               have HO_3:=n0_
               have HO_5:=n1_
               have HO231:=n2_
               have HO234:=n3_
               have HO246:=n4_
               have HO249:=n5_
               have HI0:=n6_
               have BK240:=n7_
               have HK:=n8_
               have HB:=n9_
               clear n0_ n1_ n2_ n3_ n4_ n5_ n6_ n7_ n8_ n9_
               clear hb ho39
               refine hK.out _ _ ⟨Up.c0 BK240,Up.c1 BK240⟩ (fun hHeld => ?_)
               clear hK K
               refine Up.nm 35 ?_
               exact norm_ (by simp only [putAll,Act.put,List.setIfInBounds_toArray,List.set_cons_zero,List.set_cons_succ]) (hCont (v242,v245,v248) _ ⟨hHeld,(Up.Nq (Kd.N_mono HO231.out (fun _ hk => ⟨hk.1.1.1,⟨hk.1.1.2.2.1,⟨hk.1.2,⟨hk.2,⟨hk.1.1.2.1,⟨hk.1.1.2.2.2.2.1,hk.1.1.2.2.2.2.2⟩⟩⟩⟩⟩⟩))),(Up.Nq (Kd.N_mono HO234.out (fun _ hk => ⟨hk.1.1.1,⟨hk.1.2,⟨hk.2,⟨hk.1.1.2.2.1,hk.1.1.2.2.2⟩⟩⟩⟩))),(Up.Nq (Kd.N_mono HO246.out (fun _ hk => ⟨hk.1.1,⟨hk.1.2.2.1,⟨hk.1.2.2.2.1,⟨hk.2,⟨hk.1.2.1,⟨hk.1.2.2.2.2.2.2,hk.1.2.2.2.2.2.1⟩⟩⟩⟩⟩⟩))),(Up.Nq (Kd.N_mono HO249.out (fun _ hk => ⟨hk.1,⟨hk.2.2.1,⟨hk.2.2.2.1,⟨hk.2.2.2.2.1,⟨hk.2.1,⟨hk.2.2.2.2.2.2,hk.2.2.2.2.2.1⟩⟩⟩⟩⟩⟩))),(Up.Nq (Kd.N_mono HO_3.out (fun _ hk => ⟨hk.1.1.1,⟨hk.1.1.2.1,⟨hk.1.1.2.2.1,⟨hk.1.2,⟨hk.2,⟨hk.1.1.2.2.2.2.1,hk.1.1.2.2.2.2.2⟩⟩⟩⟩⟩⟩))),(Up.Vq (Kd.V_mono HO_5.out (fun _ hk => ⟨hk.1.1.1,⟨hk.1.1.2.2.1,⟨hk.1.1.2.2.2.1,⟨hk.1.2,⟨hk.2,⟨hk.1.1.2.1,⟨hk.1.1.2.2.2.2.2.1,hk.1.1.2.2.2.2.2.2⟩⟩⟩⟩⟩⟩⟩))),(Up.Kup BK240),(Ip1 HI0 NB0_240),(Up.Kp HK GW240),(Up.Bt HB (IsS79.ge HI0.out) GE240)⟩)
              ·skip
               refine Kd.N_lit_step k81 _ 81 ?hg (N':=35) ?hd (xs:=([(⟨t235,t236⟩ : S81)] : List (S81))) (inner:=[.int .i64 t235,.slice Ao30 t236.length co30]) (ok:=(fun k_ => (w.heap.size ≤ k_) ∧ some k_ ≠ (.slice Ao19 x3_1.length co19 : Value).ownBlock ∧ some k_ ≠ (.slice Ao24 y229.length co24 : Value).ownBlock ∧ some k_ ≠ (.slice Ao25 y232.length co25 : Value).ownBlock ∧ some k_ ≠ (v242 : Value).ownBlock ∧ k_ ≠ gb240 ∧ k_ ≠ g)) (okp:=(fun k_ => (w.heap.size ≤ k_) ∧ some k_ ≠ (.slice Ao19 x3_1.length co19 : Value).ownBlock ∧ some k_ ≠ (.slice Ao24 y229.length co24 : Value).ownBlock ∧ some k_ ≠ (.slice Ao25 y232.length co25 : Value).ownBlock ∧ some k_ ≠ (v242 : Value).ownBlock ∧ k_ ≠ gb240 ∧ k_ ≠ g)) ?hr ?hp (fun _ hk => hk) ((show ∀ k_,w35.heap.size ≤ k_ → (fun k_ => (w.heap.size ≤ k_) ∧ some k_ ≠ (.slice Ao19 x3_1.length co19 : Value).ownBlock ∧ some k_ ≠ (.slice Ao24 y229.length co24 : Value).ownBlock ∧ some k_ ≠ (.slice Ao25 y232.length co25 : Value).ownBlock ∧ some k_ ≠ (v242 : Value).ownBlock ∧ k_ ≠ gb240 ∧ k_ ≠ g) k_ from fun k_ hk => ⟨(Nat.le_trans (keep_size (w:=w) (g:=g) (row:=none) (Up.Kp HK GW240)) hk),Kd.fresh' (Kd.N_lt (Up.Nup HO_3)) k_ hk,Kd.fresh' (Kd.N_lt (Up.Nup HO231)) k_ hk,Kd.fresh' (Kd.N_lt (Up.Nup HO234)) k_ hk,Kd.fresh' (Kd.N_lt (Up.Nup HO243)) k_ hk,Kd.freshB (g:=gb240) (o:=.cells #[.int .i64 t235,.slice Ao30 t236.length co30] 81 (0,0)) (Up.Kup BK240) k_ hk,IsS79.fresh (Ip1 HI0 NB0_240) k_ hk⟩) _ (Nat.le_refl _)) (Below.refl _ _) (Nat.le_refl _) (by simp) ?_;(case hd => rfl);(case hg => rfl);(case hr => first | (go_simp;done) | (go_simp;rfl));(case hp => exact (Reps.c2 (show Kd.FK k81 _ _ (⟨t235,t236⟩ : S81) [.int .i64 t235,.slice Ao30 t236.length co30] from (k81_mkF _ _ (⟨t235,t236⟩ : S81) (Kd.R_reads' (Kd.R_mono (ok':=(fun k_ => (w.heap.size ≤ k_) ∧ some k_ ≠ (.slice Ao19 x3_1.length co19 : Value).ownBlock ∧ some k_ ≠ (.slice Ao24 y229.length co24 : Value).ownBlock ∧ some k_ ≠ (.slice Ao25 y232.length co25 : Value).ownBlock ∧ some k_ ≠ (v242 : Value).ownBlock ∧ k_ ≠ gb240 ∧ k_ ≠ g)) (IsS79.apart HI0.out (Kd.R_types (Kd.R_apart' (Kd.R_apart' (Kd.R_apart' (Kd.R_apart' (HO238.out) (Kd.N_typed HO_3.out) (by decide)) (Kd.N_typed HO231.out) (by decide)) (Kd.N_typed HO234.out) (by decide)) (Kd.N_typed HO243.out) (by decide)) BK240.out (by decide)) (by decide)) (fun k_ hk => ⟨hk.1.1.1.1.1.1,⟨hk.1.1.1.1.1.2,⟨hk.1.1.1.1.2,⟨hk.1.1.1.2,⟨hk.1.1.2,⟨hk.1.2,hk.2⟩⟩⟩⟩⟩⟩))).2.1 (Kd.R_F (Kd.R_mono (ok':=(fun k_ => (w.heap.size ≤ k_) ∧ some k_ ≠ (.slice Ao19 x3_1.length co19 : Value).ownBlock ∧ some k_ ≠ (.slice Ao24 y229.length co24 : Value).ownBlock ∧ some k_ ≠ (.slice Ao25 y232.length co25 : Value).ownBlock ∧ some k_ ≠ (v242 : Value).ownBlock ∧ k_ ≠ gb240 ∧ k_ ≠ g)) (IsS79.apart HI0.out (Kd.R_types (Kd.R_apart' (Kd.R_apart' (Kd.R_apart' (Kd.R_apart' (HO238.out) (Kd.N_typed HO_3.out) (by decide)) (Kd.N_typed HO231.out) (by decide)) (Kd.N_typed HO234.out) (by decide)) (Kd.N_typed HO243.out) (by decide)) BK240.out (by decide)) (by decide)) (fun k_ hk => ⟨hk.1.1.1.1.1.1,⟨hk.1.1.1.1.1.2,⟨hk.1.1.1.1.2,⟨hk.1.1.1.2,⟨hk.1.1.2,⟨hk.1.2,hk.2⟩⟩⟩⟩⟩⟩))))) (Reps.none _ _)))
               intro v248 w37 ho38 hb hg_ hnew_
               clear hg_ hnew_
               (first | rw [← Ny247.out] at ho38 | (simp only [Int.reduceToNat] at ho38;rw [← Ny247.out] at ho38))
               have n0_:=Aside0.mk (Kd.N_elder' (Up.Nup HO_3) (Kd.N_base ho38) hb)
               have n1_:=Aside0.mk (Kd.V_elder' (Up.Vup HO_5) (Kd.N_base ho38) hb)
               have n2_:=Aside0.mk (Kd.N_elder' (Up.Nup HO231) (Kd.N_base ho38) hb)
               have n3_:=Aside0.mk (Kd.N_elder' (Up.Nup HO234) (Kd.N_base ho38) hb)
               have n4_:=Aside0.mk (Kd.N_elder' (Up.Nup HO243) (Kd.N_base ho38) hb)
               have n5_:=Aside0.mk (Kd.N_lower ho38 (keep_size (w:=w) (g:=g) (row:=none) (Up.Kp HK GW240)))
               have n6_:=Aside0.mk (IsS79.below (Ip1 HI0 NB0_240) hb)
               have n7_:=Up.KB BK240 hb
               have n8_:=Aside0.mk (KeepBut.trans (Up.Kp HK GW240) (KeepBut.of_below hb g none) (.inl rfl))
               have n9_:=Aside0.mk (below_step (Up.Bt HB (IsS79.ge HI0.out) GE240) hb)
               clear HO_3
               clear HO_5
               clear HO231
               clear HO234
               clear HO243
               clear HI0
               clear BK240
               clear HK
               clear HB
               clear HO238
               have HO_3:=n0_
               have HO_5:=n1_
               have HO231:=n2_
               have HO234:=n3_
               have HO243:=n4_
               have HO249:=n5_
               have HI0:=n6_
               have BK240:=n7_
               have HK:=n8_
               have HB:=n9_
               clear n0_ n1_ n2_ n3_ n4_ n5_ n6_ n7_ n8_ n9_
               clear hb ho38
               refine hK.out _ _ ⟨Up.c0 BK240,Up.c1 BK240⟩ (fun hHeld => ?_)
               clear hK K
               refine Up.nm 35 ?_
               refine one_ (i:=2) (N:=some 33) #[true,true,true,true,true,false,false] rfl rfl (by kernel_rfl) (by decide) (fun K hK => ?_)
               refine Kd.N_append_rows_step k81 w.heap.size (by rfl) (.tmp 31) (.tmp 32) 66 81 (.agg #[(.int .i64 0),(.slice none 0 0)]) 32 rfl Tryd.underlying66 info81 rfl (by decide) (by omega) v242 y241 x5_2 _ _ _ (fun k_ => (w.heap.size ≤ k_) ∧ some k_ ≠ (.slice Ao19 x3_1.length co19 : Value).ownBlock ∧ some k_ ≠ (.slice Ao24 y229.length co24 : Value).ownBlock ∧ some k_ ≠ (.slice Ao25 y232.length co25 : Value).ownBlock ∧ some k_ ≠ (v248 : Value).ownBlock ∧ k_ ≠ gb240 ∧ k_ ≠ g) (fun k_ => ((fun k_ => (w.heap.size ≤ k_) ∧ some k_ ≠ (.slice Ao19 x3_1.length co19 : Value).ownBlock ∧ some k_ ≠ (.slice Ao24 y229.length co24 : Value).ownBlock ∧ some k_ ≠ (.slice Ao25 y232.length co25 : Value).ownBlock ∧ some k_ ≠ (v248 : Value).ownBlock ∧ k_ ≠ gb240 ∧ k_ ≠ g)) k_ ∧ some k_ ≠ (v242 : Value).ownBlock) rfl rfl ?aO ?aR (fun _ hk => hk) ?aF (Below.refl _ _) ?aS ?aL ?_
               (case aR => exact (by skip;exact Kd.V_F (Kd.V_mono (ok':=(fun k_ => ((fun k_ => (w.heap.size ≤ k_) ∧ some k_ ≠ (.slice Ao19 x3_1.length co19 : Value).ownBlock ∧ some k_ ≠ (.slice Ao24 y229.length co24 : Value).ownBlock ∧ some k_ ≠ (.slice Ao25 y232.length co25 : Value).ownBlock ∧ some k_ ≠ (v248 : Value).ownBlock ∧ k_ ≠ gb240 ∧ k_ ≠ g)) k_ ∧ some k_ ≠ (v242 : Value).ownBlock)) (HO_5.out) (fun k_ hk => ⟨⟨hk.1.1.1,⟨hk.1.1.2.1,⟨hk.1.1.2.2.1,⟨hk.1.1.2.2.2.1,⟨hk.2,⟨hk.1.1.2.2.2.2.2.2,hk.1.1.2.2.2.2.2.1⟩⟩⟩⟩⟩⟩,hk.1.2⟩))))
               (case aF => exact (fun k_ hk => ⟨(Nat.le_trans (keep_size (w:=w) (g:=g) (row:=none) (Up.Kp HK GW240)) hk),Kd.fresh' (Kd.N_lt (Up.Nup HO_3)) k_ hk,Kd.fresh' (Kd.N_lt (Up.Nup HO231)) k_ hk,Kd.fresh' (Kd.N_lt (Up.Nup HO234)) k_ hk,Kd.fresh' (Kd.N_lt (Up.Nup HO249)) k_ hk,Kd.freshB (g:=gb240) (o:=.cells #[.int .i64 t235,.slice Ao30 t236.length co30] 81 (0,0)) (Up.Kup BK240) k_ hk,IsS79.fresh (Ip1 HI0 NB0_240) k_ hk⟩))
               (case aO => exact (Up.Nq (Kd.N_mono HO243.out (fun _ hk => ⟨hk.1.1,⟨hk.1.2.1,⟨hk.1.2.2.1,⟨hk.1.2.2.2.1,⟨hk.2,⟨hk.1.2.2.2.2.2.1,hk.1.2.2.2.2.2.2⟩⟩⟩⟩⟩⟩))))
               (case aS => exact (keep_size (w:=w) (g:=g) (row:=none) (Up.Kp HK GW240)))
               (case aL => have:=LMc31.out;omega)
               intro v245 w39 ho hb hg hat
               rw [← Ny244.out] at ho
               have n0_:=Aside0.mk (Kd.N_afterv (ok:=(fun k_ => (w.heap.size ≤ k_) ∧ some k_ ≠ (.slice Ao24 y229.length co24 : Value).ownBlock ∧ some k_ ≠ (.slice Ao25 y232.length co25 : Value).ownBlock ∧ some k_ ≠ (v248 : Value).ownBlock ∧ k_ ≠ g ∧ k_ ≠ gb240)) (Up.Nq (Kd.N_mono HO_3.out (fun _ hk => ⟨⟨hk.1.1.1,⟨hk.1.1.2.1,⟨hk.1.1.2.2.1,⟨hk.2,⟨hk.1.1.2.2.2.2.1,hk.1.1.2.2.2.2.2⟩⟩⟩⟩⟩,hk.1.2⟩))) hg hat)
               have n1_:=Aside0.mk (Kd.V_afterv (ok:=(fun k_ => (w.heap.size ≤ k_) ∧ some k_ ≠ (.slice Ao19 x3_1.length co19 : Value).ownBlock ∧ some k_ ≠ (.slice Ao24 y229.length co24 : Value).ownBlock ∧ some k_ ≠ (.slice Ao25 y232.length co25 : Value).ownBlock ∧ some k_ ≠ (v248 : Value).ownBlock ∧ k_ ≠ g ∧ k_ ≠ gb240)) (Up.Vq (Kd.V_mono HO_5.out (fun _ hk => ⟨⟨hk.1.1.1,⟨hk.1.1.2.1,⟨hk.1.1.2.2.1,⟨hk.1.1.2.2.2.1,⟨hk.2,⟨hk.1.1.2.2.2.2.2.1,hk.1.1.2.2.2.2.2.2⟩⟩⟩⟩⟩⟩,hk.1.2⟩))) hg hat)
               have n2_:=Aside0.mk (IsS79.grown (Ip1 HI0 NB0_240) hg (IsS79.own_neN HI0.out HO243.out (by decide)))
               have n3_:=Aside0.mk (Kd.N_afterv (ok:=(fun k_ => (w.heap.size ≤ k_) ∧ some k_ ≠ (.slice Ao19 x3_1.length co19 : Value).ownBlock ∧ some k_ ≠ (.slice Ao25 y232.length co25 : Value).ownBlock ∧ some k_ ≠ (v248 : Value).ownBlock ∧ k_ ≠ g ∧ k_ ≠ gb240)) (Up.Nq (Kd.N_mono HO231.out (fun _ hk => ⟨⟨hk.1.1.1,⟨hk.1.1.2.1,⟨hk.1.1.2.2.1,⟨hk.2,⟨hk.1.1.2.2.2.2.1,hk.1.1.2.2.2.2.2⟩⟩⟩⟩⟩,hk.1.2⟩))) hg hat)
               have n4_:=Aside0.mk (Kd.N_afterv (ok:=(fun k_ => (w.heap.size ≤ k_) ∧ some k_ ≠ (v248 : Value).ownBlock ∧ k_ ≠ g ∧ k_ ≠ gb240)) (Up.Nq (Kd.N_mono HO234.out (fun _ hk => ⟨⟨hk.1.1.1,⟨hk.2,⟨hk.1.1.2.2.1,hk.1.1.2.2.2⟩⟩⟩,hk.1.2⟩))) hg hat)
               have n5_:=Aside0.mk (blk_grown (g:=gb240) (o:=.cells #[.int .i64 t235,.slice Ao30 t236.length co30] 81 (0,0)) (Up.Kup BK240) hg (Kd.N_away HO243.out (fun _ hk => hk.1.2.2.2.2.2.1)))
               have n6_:=Aside0.mk (Kd.N_afterv (ok:=(fun k_ => (w.heap.size ≤ k_) ∧ some k_ ≠ (.slice Ao19 x3_1.length co19 : Value).ownBlock ∧ some k_ ≠ (.slice Ao24 y229.length co24 : Value).ownBlock ∧ some k_ ≠ (.slice Ao25 y232.length co25 : Value).ownBlock ∧ k_ ≠ gb240 ∧ k_ ≠ g)) (Up.Nq (Kd.N_mono HO249.out (fun _ hk => ⟨⟨hk.1,⟨hk.2.1,⟨hk.2.2.1,⟨hk.2.2.2.1,⟨hk.2.2.2.2.2.1,hk.2.2.2.2.2.2⟩⟩⟩⟩⟩,hk.2.2.2.2.1⟩))) hg hat)
               have n7_:=Aside0.mk (below_weaken (Up.Bt HB (IsS79.ge HI0.out) GE240) HL.out hb)
               have n8_:=Aside0.mk (KeepBut.trans (Up.Kp HK GW240) (KeepBut.of_grown hg g) (Kd.N_base2 HO243.out))
               have n9_:=Aside0.mk (ho)
               clear HO_3
               clear HO_5
               clear HI0
               clear HO231
               clear HO234
               clear BK240
               clear HO249
               clear HB
               clear HK
               clear HO243
               have HO_3:=n0_
               have HO_5:=n1_
               have HI0:=n2_
               have HO231:=n3_
               have HO234:=n4_
               have BK240:=n5_
               have HO249:=n6_
               have HB:=n7_
               have HK:=n8_
               have HO246:=n9_
               clear n0_ n1_ n2_ n3_ n4_ n5_ n6_ n7_ n8_ n9_
               clear ho hb hg hat
               refine hK.out _ _ ⟨Up.c0 BK240,Up.c1 BK240⟩ (fun hHeld => ?_)
               clear hK K
               refine Up.nm 33 ?_
               exact norm_ (by simp only [putAll,Act.put,List.setIfInBounds_toArray,List.set_cons_zero,List.set_cons_succ]) (hCont (v242,v245,v248) _ ⟨hHeld,(Up.Nq (Kd.N_mono HO231.out (fun _ hk => ⟨hk.1.1,⟨hk.1.2.2.1,⟨hk.2,⟨hk.1.2.2.2.1,⟨hk.1.2.1,⟨hk.1.2.2.2.2.1,hk.1.2.2.2.2.2⟩⟩⟩⟩⟩⟩))),(Up.Nq (Kd.N_mono HO234.out (fun _ hk => ⟨hk.1.1,⟨hk.2,⟨hk.1.2.1,⟨hk.1.2.2.1,hk.1.2.2.2⟩⟩⟩⟩))),(Up.Nq (Kd.N_mono HO246.out (fun _ hk => ⟨hk.1,⟨hk.2.2.1,⟨hk.2.2.2.1,⟨hk.2.2.2.2.1,⟨hk.2.1,⟨hk.2.2.2.2.2.2,hk.2.2.2.2.2.1⟩⟩⟩⟩⟩⟩))),(Up.Nq (Kd.N_mono HO249.out (fun _ hk => ⟨hk.1.1,⟨hk.1.2.2.1,⟨hk.1.2.2.2.1,⟨hk.2,⟨hk.1.2.1,⟨hk.1.2.2.2.2.2,hk.1.2.2.2.2.1⟩⟩⟩⟩⟩⟩))),(Up.Nq (Kd.N_mono HO_3.out (fun _ hk => ⟨hk.1.1,⟨hk.1.2.1,⟨hk.1.2.2.1,⟨hk.2,⟨hk.1.2.2.2.1,⟨hk.1.2.2.2.2.1,hk.1.2.2.2.2.2⟩⟩⟩⟩⟩⟩))),(Up.Vq (Kd.V_mono HO_5.out (fun _ hk => ⟨hk.1.1,⟨hk.1.2.2.1,⟨hk.1.2.2.2.1,⟨hk.2,⟨hk.1.2.2.2.2.1,⟨hk.1.2.1,⟨hk.1.2.2.2.2.2.1,hk.1.2.2.2.2.2.2⟩⟩⟩⟩⟩⟩⟩))),(Up.Kup BK240),(Ip1 HI0 NB0_240),(Up.Kp HK GW240),(Up.Bt HB (IsS79.ge HI0.out) GE240)⟩)
             ·skip
              refine Kd.N_lit_step k81 _ 81 ?hg (N':=35) ?hd (xs:=([(⟨t235,t236⟩ : S81)] : List (S81))) (inner:=[.int .i64 t235,.slice Ao30 t236.length co30]) (ok:=(fun k_ => (w.heap.size ≤ k_) ∧ some k_ ≠ (.slice Ao19 x3_1.length co19 : Value).ownBlock ∧ some k_ ≠ (.slice Ao24 y229.length co24 : Value).ownBlock ∧ some k_ ≠ (.slice Ao25 y232.length co25 : Value).ownBlock ∧ k_ ≠ gb240 ∧ k_ ≠ g)) (okp:=(fun k_ => (w.heap.size ≤ k_) ∧ some k_ ≠ (.slice Ao19 x3_1.length co19 : Value).ownBlock ∧ some k_ ≠ (.slice Ao24 y229.length co24 : Value).ownBlock ∧ some k_ ≠ (.slice Ao25 y232.length co25 : Value).ownBlock ∧ k_ ≠ gb240 ∧ k_ ≠ g)) ?hr ?hp (fun _ hk => hk) ((show ∀ k_,w34.heap.size ≤ k_ → (fun k_ => (w.heap.size ≤ k_) ∧ some k_ ≠ (.slice Ao19 x3_1.length co19 : Value).ownBlock ∧ some k_ ≠ (.slice Ao24 y229.length co24 : Value).ownBlock ∧ some k_ ≠ (.slice Ao25 y232.length co25 : Value).ownBlock ∧ k_ ≠ gb240 ∧ k_ ≠ g) k_ from fun k_ hk => ⟨(Nat.le_trans (keep_size (w:=w) (g:=g) (row:=none) (Up.Kp HK GW240)) hk),Kd.fresh' (Kd.N_lt (Up.Nup HO_3)) k_ hk,Kd.fresh' (Kd.N_lt (Up.Nup HO231)) k_ hk,Kd.fresh' (Kd.N_lt (Up.Nup HO234)) k_ hk,Kd.freshB (g:=gb240) (o:=.cells #[.int .i64 t235,.slice Ao30 t236.length co30] 81 (0,0)) (Up.Kup BK240) k_ hk,IsS79.fresh (Ip1 HI0 NB0_240) k_ hk⟩) _ (Nat.le_refl _)) (Below.refl _ _) (Nat.le_refl _) (by simp) ?_;(case hd => rfl);(case hg => rfl);(case hr => first | (go_simp;done) | (go_simp;rfl));(case hp => exact (Reps.c2 (show Kd.FK k81 _ _ (⟨t235,t236⟩ : S81) [.int .i64 t235,.slice Ao30 t236.length co30] from (k81_mkF _ _ (⟨t235,t236⟩ : S81) (Kd.R_reads' (Kd.R_mono (ok':=(fun k_ => (w.heap.size ≤ k_) ∧ some k_ ≠ (.slice Ao19 x3_1.length co19 : Value).ownBlock ∧ some k_ ≠ (.slice Ao24 y229.length co24 : Value).ownBlock ∧ some k_ ≠ (.slice Ao25 y232.length co25 : Value).ownBlock ∧ k_ ≠ gb240 ∧ k_ ≠ g)) (IsS79.apart HI0.out (Kd.R_types (Kd.R_apart' (Kd.R_apart' (Kd.R_apart' (HO238.out) (Kd.N_typed HO_3.out) (by decide)) (Kd.N_typed HO231.out) (by decide)) (Kd.N_typed HO234.out) (by decide)) BK240.out (by decide)) (by decide)) (fun k_ hk => ⟨hk.1.1.1.1.1,⟨hk.1.1.1.1.2,⟨hk.1.1.1.2,⟨hk.1.1.2,⟨hk.1.2,hk.2⟩⟩⟩⟩⟩))).2.1 (Kd.R_F (Kd.R_mono (ok':=(fun k_ => (w.heap.size ≤ k_) ∧ some k_ ≠ (.slice Ao19 x3_1.length co19 : Value).ownBlock ∧ some k_ ≠ (.slice Ao24 y229.length co24 : Value).ownBlock ∧ some k_ ≠ (.slice Ao25 y232.length co25 : Value).ownBlock ∧ k_ ≠ gb240 ∧ k_ ≠ g)) (IsS79.apart HI0.out (Kd.R_types (Kd.R_apart' (Kd.R_apart' (Kd.R_apart' (HO238.out) (Kd.N_typed HO_3.out) (by decide)) (Kd.N_typed HO231.out) (by decide)) (Kd.N_typed HO234.out) (by decide)) BK240.out (by decide)) (by decide)) (fun k_ hk => ⟨hk.1.1.1.1.1,⟨hk.1.1.1.1.2,⟨hk.1.1.1.2,⟨hk.1.1.2,⟨hk.1.2,hk.2⟩⟩⟩⟩⟩))))) (Reps.none _ _)))
              intro v248 w35 ho36 hb hg_ hnew_
              clear hg_ hnew_
              (first | rw [← Ny247.out] at ho36 | (simp only [Int.reduceToNat] at ho36;rw [← Ny247.out] at ho36))
              have n0_:=Aside0.mk (Kd.N_elder' (Up.Nup HO_3) (Kd.N_base ho36) hb)
              have n1_:=Aside0.mk (Kd.V_elder' (Up.Vup HO_5) (Kd.N_base ho36) hb)
              have n2_:=Aside0.mk (Kd.N_elder' (Up.Nup HO231) (Kd.N_base ho36) hb)
              have n3_:=Aside0.mk (Kd.N_elder' (Up.Nup HO234) (Kd.N_base ho36) hb)
              have n4_:=Aside0.mk (Kd.N_lower ho36 (keep_size (w:=w) (g:=g) (row:=none) (Up.Kp HK GW240)))
              have n5_:=Aside0.mk (IsS79.below (Ip1 HI0 NB0_240) hb)
              have n6_:=Up.KB BK240 hb
              have n7_:=Aside0.mk (KeepBut.trans (Up.Kp HK GW240) (KeepBut.of_below hb g none) (.inl rfl))
              have n8_:=Aside0.mk (below_step (Up.Bt HB (IsS79.ge HI0.out) GE240) hb)
              clear HO_3
              clear HO_5
              clear HO231
              clear HO234
              clear HI0
              clear BK240
              clear HK
              clear HB
              clear HO238
              have HO_3:=n0_
              have HO_5:=n1_
              have HO231:=n2_
              have HO234:=n3_
              have HO249:=n4_
              have HI0:=n5_
              have BK240:=n6_
              have HK:=n7_
              have HB:=n8_
              clear n0_ n1_ n2_ n3_ n4_ n5_ n6_ n7_ n8_
              clear hb ho36
              refine hK.out _ _ ⟨Up.c0 BK240,Up.c1 BK240⟩ (fun hHeld => ?_)
              clear hK K
              refine Up.nm 35 ?_
              refine one_ (i:=0) (N:=some 31) #[true,true,false,true,true,false,false] rfl rfl (by kernel_rfl) (by decide) (fun K hK => ?_)
              refine Kd.N_lit_step k81 _ 81 ?hg (N':=31) ?hd (xs:=([] : List (S81))) (inner:=[]) (ok:=(fun k_ => (w.heap.size ≤ k_) ∧ some k_ ≠ (.slice Ao19 x3_1.length co19 : Value).ownBlock ∧ some k_ ≠ (.slice Ao24 y229.length co24 : Value).ownBlock ∧ some k_ ≠ (.slice Ao25 y232.length co25 : Value).ownBlock ∧ some k_ ≠ (v248 : Value).ownBlock ∧ k_ ≠ gb240 ∧ k_ ≠ g)) (okp:=(fun k_ => (w.heap.size ≤ k_) ∧ some k_ ≠ (.slice Ao19 x3_1.length co19 : Value).ownBlock ∧ some k_ ≠ (.slice Ao24 y229.length co24 : Value).ownBlock ∧ some k_ ≠ (.slice Ao25 y232.length co25 : Value).ownBlock ∧ some k_ ≠ (v248 : Value).ownBlock ∧ k_ ≠ gb240 ∧ k_ ≠ g)) ?hr ?hp (fun _ hk => hk) ((show ∀ k_,w35.heap.size ≤ k_ → (fun k_ => (w.heap.size ≤ k_) ∧ some k_ ≠ (.slice Ao19 x3_1.length co19 : Value).ownBlock ∧ some k_ ≠ (.slice Ao24 y229.length co24 : Value).ownBlock ∧ some k_ ≠ (.slice Ao25 y232.length co25 : Value).ownBlock ∧ some k_ ≠ (v248 : Value).ownBlock ∧ k_ ≠ gb240 ∧ k_ ≠ g) k_ from fun k_ hk => ⟨(Nat.le_trans (keep_size (w:=w) (g:=g) (row:=none) (Up.Kp HK GW240)) hk),Kd.fresh' (Kd.N_lt (Up.Nup HO_3)) k_ hk,Kd.fresh' (Kd.N_lt (Up.Nup HO231)) k_ hk,Kd.fresh' (Kd.N_lt (Up.Nup HO234)) k_ hk,Kd.fresh' (Kd.N_lt (Up.Nup HO249)) k_ hk,Kd.freshB (g:=gb240) (o:=.cells #[.int .i64 t235,.slice Ao30 t236.length co30] 81 (0,0)) (Up.Kup BK240) k_ hk,IsS79.fresh (Ip1 HI0 NB0_240) k_ hk⟩) _ (Nat.le_refl _)) (Below.refl _ _) (Nat.le_refl _) (by simp) ?_;(case hd => rfl);(case hg => rfl);(case hr => first | (go_simp;done) | (go_simp;rfl));(case hp => exact (Reps.none _ _))
              intro v242 w37 ho38 hb hg_ hnew_
              clear hg_ hnew_
              (first | rw [← Ny241.out] at ho38 | (simp only [Int.reduceToNat] at ho38;rw [← Ny241.out] at ho38))
              have n0_:=Aside0.mk (Kd.N_elder' (Up.Nup HO_3) (Kd.N_base ho38) hb)
              have n1_:=Aside0.mk (Kd.V_elder' (Up.Vup HO_5) (Kd.N_base ho38) hb)
              have n2_:=Aside0.mk (Kd.N_elder' (Up.Nup HO231) (Kd.N_base ho38) hb)
              have n3_:=Aside0.mk (Kd.N_elder' (Up.Nup HO234) (Kd.N_base ho38) hb)
              have n4_:=Aside0.mk (Kd.N_elder' (Up.Nup HO249) (Kd.N_base ho38) hb)
              have n5_:=Aside0.mk (Kd.N_lower ho38 (keep_size (w:=w) (g:=g) (row:=none) (Up.Kp HK GW240)))
              have n6_:=Aside0.mk (IsS79.below (Ip1 HI0 NB0_240) hb)
              have n7_:=Up.KB BK240 hb
              have n8_:=Aside0.mk (KeepBut.trans (Up.Kp HK GW240) (KeepBut.of_below hb g none) (.inl rfl))
              have n9_:=Aside0.mk (below_step (Up.Bt HB (IsS79.ge HI0.out) GE240) hb)
              clear HO_3
              clear HO_5
              clear HO231
              clear HO234
              clear HO249
              clear HI0
              clear BK240
              clear HK
              clear HB
              have HO_3:=n0_
              have HO_5:=n1_
              have HO231:=n2_
              have HO234:=n3_
              have HO249:=n4_
              have HO243:=n5_
              have HI0:=n6_
              have BK240:=n7_
              have HK:=n8_
              have HB:=n9_
              clear n0_ n1_ n2_ n3_ n4_ n5_ n6_ n7_ n8_ n9_
              clear hb ho38
              refine hK.out _ _ ⟨Up.c0 BK240,Up.c1 BK240⟩ (fun hHeld => ?_)
              clear hK K
              refine Up.nm 31 ?_
              refine one_ (i:=2) (N:=some 33) #[true,true,true,true,true,false,false] rfl rfl (by kernel_rfl) (by decide) (fun K hK => ?_)
              refine Kd.N_append_rows_step k81 w.heap.size (by rfl) (.tmp 31) (.tmp 32) 66 81 (.agg #[(.int .i64 0),(.slice none 0 0)]) 32 rfl Tryd.underlying66 info81 rfl (by decide) (by omega) v242 y241 x5_2 _ _ _ (fun k_ => (w.heap.size ≤ k_) ∧ some k_ ≠ (.slice Ao19 x3_1.length co19 : Value).ownBlock ∧ some k_ ≠ (.slice Ao24 y229.length co24 : Value).ownBlock ∧ some k_ ≠ (.slice Ao25 y232.length co25 : Value).ownBlock ∧ some k_ ≠ (v248 : Value).ownBlock ∧ k_ ≠ gb240 ∧ k_ ≠ g) (fun k_ => ((fun k_ => (w.heap.size ≤ k_) ∧ some k_ ≠ (.slice Ao19 x3_1.length co19 : Value).ownBlock ∧ some k_ ≠ (.slice Ao24 y229.length co24 : Value).ownBlock ∧ some k_ ≠ (.slice Ao25 y232.length co25 : Value).ownBlock ∧ some k_ ≠ (v248 : Value).ownBlock ∧ k_ ≠ gb240 ∧ k_ ≠ g)) k_ ∧ some k_ ≠ (v242 : Value).ownBlock) rfl rfl ?aO ?aR (fun _ hk => hk) ?aF (Below.refl _ _) ?aS ?aL ?_
              (case aR => exact (by skip;exact Kd.V_F (Kd.V_mono (ok':=(fun k_ => ((fun k_ => (w.heap.size ≤ k_) ∧ some k_ ≠ (.slice Ao19 x3_1.length co19 : Value).ownBlock ∧ some k_ ≠ (.slice Ao24 y229.length co24 : Value).ownBlock ∧ some k_ ≠ (.slice Ao25 y232.length co25 : Value).ownBlock ∧ some k_ ≠ (v248 : Value).ownBlock ∧ k_ ≠ gb240 ∧ k_ ≠ g)) k_ ∧ some k_ ≠ (v242 : Value).ownBlock)) (HO_5.out) (fun k_ hk => ⟨⟨hk.1.1.1,⟨hk.1.1.2.1,⟨hk.1.1.2.2.1,⟨hk.1.1.2.2.2.1,⟨hk.1.2,⟨hk.1.1.2.2.2.2.2.2,hk.1.1.2.2.2.2.2.1⟩⟩⟩⟩⟩⟩,hk.2⟩))))
              (case aF => exact (fun k_ hk => ⟨(Nat.le_trans (keep_size (w:=w) (g:=g) (row:=none) (Up.Kp HK GW240)) hk),Kd.fresh' (Kd.N_lt (Up.Nup HO_3)) k_ hk,Kd.fresh' (Kd.N_lt (Up.Nup HO231)) k_ hk,Kd.fresh' (Kd.N_lt (Up.Nup HO234)) k_ hk,Kd.fresh' (Kd.N_lt (Up.Nup HO249)) k_ hk,Kd.freshB (g:=gb240) (o:=.cells #[.int .i64 t235,.slice Ao30 t236.length co30] 81 (0,0)) (Up.Kup BK240) k_ hk,IsS79.fresh (Ip1 HI0 NB0_240) k_ hk⟩))
              (case aO => exact (Up.Nup HO243))
              (case aS => exact (keep_size (w:=w) (g:=g) (row:=none) (Up.Kp HK GW240)))
              (case aL => have:=LMc31.out;omega)
              intro v245 w39 ho hb hg hat
              rw [← Ny244.out] at ho
              have n0_:=Aside0.mk (Kd.N_afterv (ok:=(fun k_ => (w.heap.size ≤ k_) ∧ some k_ ≠ (.slice Ao24 y229.length co24 : Value).ownBlock ∧ some k_ ≠ (.slice Ao25 y232.length co25 : Value).ownBlock ∧ some k_ ≠ (v248 : Value).ownBlock ∧ k_ ≠ g ∧ k_ ≠ gb240)) (Up.Nq (Kd.N_mono HO_3.out (fun _ hk => ⟨⟨hk.1.1.1,⟨hk.1.1.2.1,⟨hk.1.1.2.2.1,⟨hk.1.2,⟨hk.1.1.2.2.2.2.1,hk.1.1.2.2.2.2.2⟩⟩⟩⟩⟩,hk.2⟩))) hg hat)
              have n1_:=Aside0.mk (Kd.V_afterv (ok:=(fun k_ => (w.heap.size ≤ k_) ∧ some k_ ≠ (.slice Ao19 x3_1.length co19 : Value).ownBlock ∧ some k_ ≠ (.slice Ao24 y229.length co24 : Value).ownBlock ∧ some k_ ≠ (.slice Ao25 y232.length co25 : Value).ownBlock ∧ some k_ ≠ (v248 : Value).ownBlock ∧ k_ ≠ g ∧ k_ ≠ gb240)) (Up.Vq (Kd.V_mono HO_5.out (fun _ hk => ⟨⟨hk.1.1.1,⟨hk.1.1.2.1,⟨hk.1.1.2.2.1,⟨hk.1.1.2.2.2.1,⟨hk.1.2,⟨hk.1.1.2.2.2.2.2.1,hk.1.1.2.2.2.2.2.2⟩⟩⟩⟩⟩⟩,hk.2⟩))) hg hat)
              have n2_:=Aside0.mk (IsS79.grown (Ip1 HI0 NB0_240) hg (IsS79.own_neN HI0.out HO243.out (by decide)))
              have n3_:=Aside0.mk (Kd.N_afterv (ok:=(fun k_ => (w.heap.size ≤ k_) ∧ some k_ ≠ (.slice Ao19 x3_1.length co19 : Value).ownBlock ∧ some k_ ≠ (.slice Ao25 y232.length co25 : Value).ownBlock ∧ some k_ ≠ (v248 : Value).ownBlock ∧ k_ ≠ g ∧ k_ ≠ gb240)) (Up.Nq (Kd.N_mono HO231.out (fun _ hk => ⟨⟨hk.1.1.1,⟨hk.1.1.2.1,⟨hk.1.1.2.2.1,⟨hk.1.2,⟨hk.1.1.2.2.2.2.1,hk.1.1.2.2.2.2.2⟩⟩⟩⟩⟩,hk.2⟩))) hg hat)
              have n4_:=Aside0.mk (Kd.N_afterv (ok:=(fun k_ => (w.heap.size ≤ k_) ∧ some k_ ≠ (v248 : Value).ownBlock ∧ k_ ≠ g ∧ k_ ≠ gb240)) (Up.Nq (Kd.N_mono HO234.out (fun _ hk => ⟨⟨hk.1.1.1,⟨hk.1.2,⟨hk.1.1.2.2.1,hk.1.1.2.2.2⟩⟩⟩,hk.2⟩))) hg hat)
              have n5_:=Aside0.mk (blk_grown (g:=gb240) (o:=.cells #[.int .i64 t235,.slice Ao30 t236.length co30] 81 (0,0)) (Up.Kup BK240) hg (Kd.N_away HO243.out (fun _ hk => hk.2.2.2.2.2.1)))
              have n6_:=Aside0.mk (Kd.N_afterv (ok:=(fun k_ => (w.heap.size ≤ k_) ∧ some k_ ≠ (.slice Ao19 x3_1.length co19 : Value).ownBlock ∧ some k_ ≠ (.slice Ao24 y229.length co24 : Value).ownBlock ∧ some k_ ≠ (.slice Ao25 y232.length co25 : Value).ownBlock ∧ k_ ≠ gb240 ∧ k_ ≠ g)) (Up.Nup HO249) hg hat)
              have n7_:=Aside0.mk (below_weaken (Up.Bt HB (IsS79.ge HI0.out) GE240) HL.out hb)
              have n8_:=Aside0.mk (KeepBut.trans (Up.Kp HK GW240) (KeepBut.of_grown hg g) (Kd.N_base2 HO243.out))
              have n9_:=Aside0.mk (ho)
              clear HO_3
              clear HO_5
              clear HI0
              clear HO231
              clear HO234
              clear BK240
              clear HO249
              clear HB
              clear HK
              clear HO243
              have HO_3:=n0_
              have HO_5:=n1_
              have HI0:=n2_
              have HO231:=n3_
              have HO234:=n4_
              have BK240:=n5_
              have HO249:=n6_
              have HB:=n7_
              have HK:=n8_
              have HO246:=n9_
              clear n0_ n1_ n2_ n3_ n4_ n5_ n6_ n7_ n8_ n9_
              clear ho hb hg hat
              refine hK.out _ _ ⟨Up.c0 BK240,Up.c1 BK240⟩ (fun hHeld => ?_)
              clear hK K
              refine Up.nm 33 ?_
              exact norm_ (by simp only [putAll,Act.put,List.setIfInBounds_toArray,List.set_cons_zero,List.set_cons_succ]) (hCont (v242,v245,v248) _ ⟨hHeld,(Up.Nq (Kd.N_mono HO231.out (fun _ hk => ⟨hk.1.1,⟨hk.1.2.2.1,⟨hk.2,⟨hk.1.2.2.2.1,⟨hk.1.2.1,⟨hk.1.2.2.2.2.1,hk.1.2.2.2.2.2⟩⟩⟩⟩⟩⟩))),(Up.Nq (Kd.N_mono HO234.out (fun _ hk => ⟨hk.1.1,⟨hk.2,⟨hk.1.2.1,⟨hk.1.2.2.1,hk.1.2.2.2⟩⟩⟩⟩))),(Up.Nq (Kd.N_mono HO246.out (fun _ hk => ⟨hk.1,⟨hk.2.2.1,⟨hk.2.2.2.1,⟨hk.2.2.2.2.1,⟨hk.2.1,⟨hk.2.2.2.2.2.2,hk.2.2.2.2.2.1⟩⟩⟩⟩⟩⟩))),(Up.Nq (Kd.N_mono HO249.out (fun _ hk => ⟨hk.1.1,⟨hk.1.2.2.1,⟨hk.1.2.2.2.1,⟨hk.2,⟨hk.1.2.1,⟨hk.1.2.2.2.2.2,hk.1.2.2.2.2.1⟩⟩⟩⟩⟩⟩))),(Up.Nq (Kd.N_mono HO_3.out (fun _ hk => ⟨hk.1.1,⟨hk.1.2.1,⟨hk.1.2.2.1,⟨hk.2,⟨hk.1.2.2.2.1,⟨hk.1.2.2.2.2.1,hk.1.2.2.2.2.2⟩⟩⟩⟩⟩⟩))),(Up.Vq (Kd.V_mono HO_5.out (fun _ hk => ⟨hk.1.1,⟨hk.1.2.2.1,⟨hk.1.2.2.2.1,⟨hk.2,⟨hk.1.2.2.2.2.1,⟨hk.1.2.1,⟨hk.1.2.2.2.2.2.1,hk.1.2.2.2.2.2.2⟩⟩⟩⟩⟩⟩⟩))),(Up.Kup BK240),(Ip1 HI0 NB0_240),(Up.Kp HK GW240),(Up.Bt HB (IsS79.ge HI0.out) GE240)⟩)
            rintro ⟨v242,v245,v248⟩ w40 ⟨hS_,h0_,h1_,h2_,h3_,h4_,h5_,h6_,h7_,h8_,h9_⟩
            have n0_ : Aside0 (Kd.N (Kd.slice 81 k81) 66 w40 w.heap.size (fun k_ => (w.heap.size ≤ k_) ∧ some k_ ≠ (.slice Ao25 y232.length co25 : Value).ownBlock ∧ some k_ ≠ (v245 : Value).ownBlock ∧ some k_ ≠ (v248 : Value).ownBlock ∧ some k_ ≠ (.slice Ao19 x3_1.length co19 : Value).ownBlock ∧ k_ ≠ g ∧ k_ ≠ gb240) (.slice Ao24 y229.length co24) y229):=⟨h0_⟩
            have n1_ : Aside0 (Kd.N (Kd.slice 81 k81) 66 w40 w.heap.size (fun k_ => (w.heap.size ≤ k_) ∧ some k_ ≠ (v245 : Value).ownBlock ∧ some k_ ≠ (v248 : Value).ownBlock ∧ k_ ≠ g ∧ k_ ≠ gb240) (.slice Ao25 y232.length co25) y232):=⟨h1_⟩
            have n2_ : Aside0 (Kd.N k81 81 w40 w.heap.size (fun k_ => (w.heap.size ≤ k_) ∧ some k_ ≠ (.slice Ao24 y229.length co24 : Value).ownBlock ∧ some k_ ≠ (.slice Ao25 y232.length co25 : Value).ownBlock ∧ some k_ ≠ (v248 : Value).ownBlock ∧ some k_ ≠ (.slice Ao19 x3_1.length co19 : Value).ownBlock ∧ k_ ≠ g ∧ k_ ≠ gb240) v245 y244):=⟨h2_⟩
            have n3_ : Aside0 (Kd.N k81 81 w40 w.heap.size (fun k_ => (w.heap.size ≤ k_) ∧ some k_ ≠ (.slice Ao24 y229.length co24 : Value).ownBlock ∧ some k_ ≠ (.slice Ao25 y232.length co25 : Value).ownBlock ∧ some k_ ≠ (v245 : Value).ownBlock ∧ some k_ ≠ (.slice Ao19 x3_1.length co19 : Value).ownBlock ∧ k_ ≠ g ∧ k_ ≠ gb240) v248 y247):=⟨h3_⟩
            have n4_ : Aside0 (Kd.N (Kd.slice 81 k81) 66 w40 w.heap.size (fun k_ => (w.heap.size ≤ k_) ∧ some k_ ≠ (.slice Ao24 y229.length co24 : Value).ownBlock ∧ some k_ ≠ (.slice Ao25 y232.length co25 : Value).ownBlock ∧ some k_ ≠ (v245 : Value).ownBlock ∧ some k_ ≠ (v248 : Value).ownBlock ∧ k_ ≠ g ∧ k_ ≠ gb240) (.slice Ao19 x3_1.length co19) x3_1):=⟨h4_⟩
            have n5_ : Aside0 (Kd.V k81 81 w40 w.heap.size (fun k_ => (w.heap.size ≤ k_) ∧ some k_ ≠ (.slice Ao24 y229.length co24 : Value).ownBlock ∧ some k_ ≠ (.slice Ao25 y232.length co25 : Value).ownBlock ∧ some k_ ≠ (v245 : Value).ownBlock ∧ some k_ ≠ (v248 : Value).ownBlock ∧ some k_ ≠ (.slice Ao19 x3_1.length co19 : Value).ownBlock ∧ k_ ≠ g ∧ k_ ≠ gb240) (.slice Ao20 x5_2.length co20) x5_2):=⟨h5_⟩
            have n6_ : Aside0 (w40.heap[gb240]? = some (.cells #[.int .i64 t235,.slice Ao30 t236.length co30] 81 (0,0))):=⟨h6_⟩
            have n7_ : Aside0 (IsS79 w0 w40 g s0_0 t239):=⟨h7_⟩
            have n8_ : Aside0 (KeepBut w w40 g none):=⟨h8_⟩
            have n9_ : Aside0 (Below w0.heap.size w0 w40):=⟨h9_⟩
            clear HO_3
            clear HO_5
            clear HO231
            clear HO234
            clear HO238
            clear BK240
            clear HI0
            clear HK
            clear HB
            clear h0_ h1_ h2_ h3_ h4_ h5_ h6_ h7_ h8_ h9_
            have HO231:=n0_
            have HO234:=n1_
            have HO246:=n2_
            have HO249:=n3_
            have HO_3:=n4_
            have HO_5:=n5_
            have BK240:=n6_
            have HI0:=n7_
            have HK:=n8_
            have HB:=n9_
            clear n0_ n1_ n2_ n3_ n4_ n5_ n6_ n7_ n8_ n9_
            have hHeld : w40.cell? ⟨gb240,0,none⟩ = some (.int .i64 t235) ∧ w40.cell? ⟨gb240,1,none⟩ = some (.slice Ao30 t236.length co30):=hS_
            obtain ⟨Ao42,co42,eo42⟩:=Kd.N_slice HO249.out
            (first | subst eo42 | (injection eo42 with f1_ f2_ f3_;have f4_:=f1_.symm;have f5_:=f3_.symm;clear f1_ f2_ f3_;subst f4_;subst f5_))
            refine norm_ (a':=?_) ?_ ?_
            rotate_left
            ·simp only [putAll,Act.put,List.setIfInBounds_toArray,List.set_cons_zero,List.set_cons_succ]
             rfl
            refine one_ (i:=5) (N:=some 36) #[true,true,true,true,true,true,false] rfl rfl (by kernel_rfl) (by decide) (fun K hK => ?_)
            refine Kd.N_append_rows_step k81 w.heap.size (by rfl) (.tmp 33) (.tmp 35) 66 81 (.agg #[(.int .i64 0),(.slice none 0 0)]) 32 rfl Tryd.underlying66 info81 rfl (by decide) (by omega) v245 y244 y247 _ _ _ (fun k_ => (w.heap.size ≤ k_) ∧ some k_ ≠ (.slice Ao19 x3_1.length co19 : Value).ownBlock ∧ some k_ ≠ (.slice Ao24 y229.length co24 : Value).ownBlock ∧ some k_ ≠ (.slice Ao25 y232.length co25 : Value).ownBlock ∧ k_ ≠ gb240 ∧ k_ ≠ g) (fun k_ => ((fun k_ => (w.heap.size ≤ k_) ∧ some k_ ≠ (.slice Ao19 x3_1.length co19 : Value).ownBlock ∧ some k_ ≠ (.slice Ao24 y229.length co24 : Value).ownBlock ∧ some k_ ≠ (.slice Ao25 y232.length co25 : Value).ownBlock ∧ k_ ≠ gb240 ∧ k_ ≠ g)) k_ ∧ some k_ ≠ (v245 : Value).ownBlock) rfl rfl ?aO ?aR (fun _ hk => hk) ?aF (Below.refl _ _) ?aS ?aL ?_
            (case aR => exact (by skip;exact Kd.N_F (Kd.N_mono (ok':=(fun k_ => ((fun k_ => (w.heap.size ≤ k_) ∧ some k_ ≠ (.slice Ao19 x3_1.length co19 : Value).ownBlock ∧ some k_ ≠ (.slice Ao24 y229.length co24 : Value).ownBlock ∧ some k_ ≠ (.slice Ao25 y232.length co25 : Value).ownBlock ∧ k_ ≠ gb240 ∧ k_ ≠ g)) k_ ∧ some k_ ≠ (v245 : Value).ownBlock)) (HO249.out) (fun k_ hk => ⟨⟨hk.1,⟨hk.2.2.2.2.1,⟨hk.2.1,⟨hk.2.2.1,⟨hk.2.2.2.2.2.2,hk.2.2.2.2.2.1⟩⟩⟩⟩⟩,hk.2.2.2.1⟩))))
            (case aF => exact (fun k_ hk => ⟨(Nat.le_trans (keep_size (w:=w) (g:=g) (row:=none) (Up.Kp HK GW240)) hk),Kd.fresh' (Kd.N_lt (Up.Nup HO_3)) k_ hk,Kd.fresh' (Kd.N_lt (Up.Nup HO231)) k_ hk,Kd.fresh' (Kd.N_lt (Up.Nup HO234)) k_ hk,Kd.freshB (g:=gb240) (o:=.cells #[.int .i64 t235,.slice Ao30 t236.length co30] 81 (0,0)) (Up.Kup BK240) k_ hk,IsS79.fresh (Ip1 HI0 NB0_240) k_ hk⟩))
            (case aO => exact (Up.Nq (Kd.N_mono HO246.out (fun _ hk => ⟨hk.1,⟨hk.2.2.2.2.1,⟨hk.2.1,⟨hk.2.2.1,⟨hk.2.2.2.2.2.2,hk.2.2.2.2.2.1⟩⟩⟩⟩⟩))))
            (case aS => exact (keep_size (w:=w) (g:=g) (row:=none) (Up.Kp HK GW240)))
            (case aL => have:=LMc32.out;omega)
            intro v251 w41 ho hb hg hat
            rw [← Ny250.out] at ho
            have n0_:=Aside0.mk (Kd.N_afterv (ok:=(fun k_ => (w.heap.size ≤ k_) ∧ some k_ ≠ (.slice Ao24 y229.length co24 : Value).ownBlock ∧ some k_ ≠ (.slice Ao25 y232.length co25 : Value).ownBlock ∧ some k_ ≠ (.slice Ao42 y247.length co42 : Value).ownBlock ∧ k_ ≠ g ∧ k_ ≠ gb240)) (Up.Nq (Kd.N_mono HO_3.out (fun _ hk => ⟨⟨hk.1,⟨hk.2.1,⟨hk.2.2.1,⟨hk.2.2.2.2.1,⟨hk.2.2.2.2.2.1,hk.2.2.2.2.2.2⟩⟩⟩⟩⟩,hk.2.2.2.1⟩))) hg hat)
            have n1_:=Aside0.mk (Kd.V_afterv (ok:=(fun k_ => (w.heap.size ≤ k_) ∧ some k_ ≠ (.slice Ao19 x3_1.length co19 : Value).ownBlock ∧ some k_ ≠ (.slice Ao24 y229.length co24 : Value).ownBlock ∧ some k_ ≠ (.slice Ao25 y232.length co25 : Value).ownBlock ∧ some k_ ≠ (.slice Ao42 y247.length co42 : Value).ownBlock ∧ k_ ≠ g ∧ k_ ≠ gb240)) (Up.Vq (Kd.V_mono HO_5.out (fun _ hk => ⟨⟨hk.1,⟨hk.2.2.2.2.2.1,⟨hk.2.1,⟨hk.2.2.1,⟨hk.2.2.2.2.1,⟨hk.2.2.2.2.2.2.1,hk.2.2.2.2.2.2.2⟩⟩⟩⟩⟩⟩,hk.2.2.2.1⟩))) hg hat)
            have n2_:=Aside0.mk (IsS79.grown (Ip1 HI0 NB0_240) hg (IsS79.own_neN HI0.out HO246.out (by decide)))
            have n3_:=Aside0.mk (Kd.N_afterv (ok:=(fun k_ => (w.heap.size ≤ k_) ∧ some k_ ≠ (.slice Ao19 x3_1.length co19 : Value).ownBlock ∧ some k_ ≠ (.slice Ao25 y232.length co25 : Value).ownBlock ∧ some k_ ≠ (.slice Ao42 y247.length co42 : Value).ownBlock ∧ k_ ≠ g ∧ k_ ≠ gb240)) (Up.Nq (Kd.N_mono HO231.out (fun _ hk => ⟨⟨hk.1,⟨hk.2.2.2.2.1,⟨hk.2.1,⟨hk.2.2.2.1,⟨hk.2.2.2.2.2.1,hk.2.2.2.2.2.2⟩⟩⟩⟩⟩,hk.2.2.1⟩))) hg hat)
            have n4_:=Aside0.mk (Kd.N_afterv (ok:=(fun k_ => (w.heap.size ≤ k_) ∧ some k_ ≠ (.slice Ao42 y247.length co42 : Value).ownBlock ∧ k_ ≠ g ∧ k_ ≠ gb240)) (Up.Nq (Kd.N_mono HO234.out (fun _ hk => ⟨⟨hk.1,⟨hk.2.2.1,⟨hk.2.2.2.1,hk.2.2.2.2⟩⟩⟩,hk.2.1⟩))) hg hat)
            have n5_:=Aside0.mk (blk_grown (g:=gb240) (o:=.cells #[.int .i64 t235,.slice Ao30 t236.length co30] 81 (0,0)) (Up.Kup BK240) hg (Kd.N_away HO246.out (fun _ hk => hk.2.2.2.2.2.2)))
            have n6_:=Aside0.mk (Kd.N_afterv (ok:=(fun k_ => (w.heap.size ≤ k_) ∧ some k_ ≠ (.slice Ao19 x3_1.length co19 : Value).ownBlock ∧ some k_ ≠ (.slice Ao24 y229.length co24 : Value).ownBlock ∧ some k_ ≠ (.slice Ao25 y232.length co25 : Value).ownBlock ∧ k_ ≠ g ∧ k_ ≠ gb240)) (Up.Nq (Kd.N_mono HO249.out (fun _ hk => ⟨⟨hk.1,⟨hk.2.2.2.2.1,⟨hk.2.1,⟨hk.2.2.1,⟨hk.2.2.2.2.2.1,hk.2.2.2.2.2.2⟩⟩⟩⟩⟩,hk.2.2.2.1⟩))) hg hat)
            have n7_:=Aside0.mk (below_weaken (Up.Bt HB (IsS79.ge HI0.out) GE240) HL.out hb)
            have n8_:=Aside0.mk (KeepBut.trans (Up.Kp HK GW240) (KeepBut.of_grown hg g) (Kd.N_base2 HO246.out))
            have n9_:=Aside0.mk (ho)
            clear HO_3
            clear HO_5
            clear HI0
            clear HO231
            clear HO234
            clear BK240
            clear HO249
            clear HB
            clear HK
            clear HO246
            have HO_3:=n0_
            have HO_5:=n1_
            have HI0:=n2_
            have HO231:=n3_
            have HO234:=n4_
            have BK240:=n5_
            have HO249:=n6_
            have HB:=n7_
            have HK:=n8_
            have HO252:=n9_
            clear n0_ n1_ n2_ n3_ n4_ n5_ n6_ n7_ n8_ n9_
            clear ho hb hg hat
            refine hK.out _ _ ⟨Up.c0 BK240,Up.c1 BK240⟩ (fun hHeld => ?_)
            clear hK K
            refine Up.nm 36 ?_
            refine Up.pn 6 (some 8) ?_
            refine done_ (by kernel_rfl) ?_
            have hv_:=Kd.N_V (base':=w.heap.size) HO252.out
            clear HO252
            have HO252:=Aside0.mk hv_
            clear hv_
            try go_wp2
            go_meet
            case rel => exact ⟨_,(y250),H',⟨by have:=HK1.out;have:=HK2.out;first | omega | exact Nat.le_refl _⟩,⟨by (with_reducible repeat (first | apply Kd.N_alloc | apply Kd.N_drewN | apply Kd.N_drew));exact Kd.N_mono HO_3.out (fun _ hk => ⟨hk.1.1,hk.1.2.2.2.2.1⟩)⟩,⟨by (with_reducible repeat (first | apply Kd.V_alloc | apply Kd.V_drewN | apply Kd.V_drew));exact Kd.V_mono HO_5.out (fun _ hk => ⟨hk.1.1,⟨hk.1.2.1,hk.1.2.2.2.2.2.1⟩⟩)⟩,⟨by (with_reducible repeat (first | apply Kd.V_alloc | apply Kd.V_drewN | apply Kd.V_drew));exact Kd.V_mono HO252.out (fun _ hk => ⟨hk.1,⟨hk.2.1,hk.2.2.2.2.2⟩⟩)⟩,⟨by repeat (first | (with_reducible first | exact HI0.out | apply IsS79.alloc | apply IsS79.drewN | apply IsS79.drew | apply IsS79.set_1 | refine IsS79.far ?_ NB0_240.out _) | exact HI0.out)⟩,⟨by repeat (first | (with_reducible first | exact HK.out | apply KeepBut.set_ | apply keep_drewN | apply keep_drew | apply keep_alloc | refine keep_far ?_ GW240.out _) | exact HK.out)⟩,⟨by repeat (first | (with_reducible first | exact HB.out | apply below_alloc | apply pw_below_drewN | apply below_drew1 | refine below_set ?_ (IsS79.ge HI0.out) | refine below_set ?_ GE240.out) | exact HB.out)⟩⟩
           ·rw [if_neg c32] at H
            exact absurd H (by simp)
          ·rw [if_neg c31] at H
           exact absurd H (by simp)
         case rest =>
          clear HC15
          try clear c1
          try clear c2
          try clear p2
          try clear c3
          try clear c4
          try clear c12
          try clear c13
          try clear c28
          try clear c31
          try clear c32
          try clear hcz29_0
          try clear hcz29_1
          try clear hfz29_0
          try clear hfz29_1
          obtain ⟨kq,x8_14,HA,HJ14,HO_3,HO_5,HO_8,HI0,HK,HB⟩:=hcut
          cases kq with
          | zero => exact absurd HA.out (by simp [spec_l91Kinds.j2])
          | succ kj14 =>
           have H:=HA.out
           clear HA
           simp only [spec_l91Kinds.j2] at H
           obtain ⟨y253,hy253⟩ : ∃ y_ : List (List (S81)),y_ = (([] : List (List (S81)))):=⟨_,rfl⟩
           replace H : (if y253.length + x3_1.length < 5864062014805 then ((some (y253 ++ x3_1 : List (List (S81)))).bind fun y256 => ((some (([x8_14] : List (List (S81))) : List (List (S81)))).bind fun y259 => (if y256.length + y259.length < 5864062014805 then ((spec_KindsOk.f kj14 (y256 ++ y259)).bind fun t265 => (if t265 = true then (spec_l91Kinds.l1 kj14 x3_1 x4_1 x8_14 (wrap64 (x6_2 - 1)) s0_0 t239) else ((spec_l6Rd_pick.f kj14 s0_0 t239 12).bind fun bt266 => (if bt266.1 = 0 then (spec_l91Kinds.l1 kj14 x3_1 x4_1 x8_14 (wrap64 (x6_2 - 1)) s0_0 bt266.2) else (spec_l91Kinds.l1 kj14 x3_1 x4_1 x5_2 (wrap64 (x6_2 - 1)) s0_0 bt266.2))))) else (none)))) else (none)) = some (r1,r2):=by first | (rw [hy253];with_reducible exact H) | (have H2_:=(Option.bind_some _ _).symm.trans H;rw [hy253];with_reducible exact H2_) | (have H2_:=(Option.bind_some _ _).symm.trans H;with_reducible exact H2_) | with_reducible exact H | (rw [hy253];exact H) | exact H
           have Ny253:=Aside0.mk hy253
           clear hy253
           by_cases c43 : y253.length + x3_1.length < 5864062014805
           ·rw [if_pos c43] at H
            have LMc43:=Aside0.mk c43
            clear c43
            obtain ⟨y256,hy256⟩ : ∃ y_ : List (List (S81)),y_ = (y253 ++ x3_1):=⟨_,rfl⟩
            replace H : ((some (([x8_14] : List (List (S81))) : List (List (S81)))).bind fun y259 => (if y256.length + y259.length < 5864062014805 then ((spec_KindsOk.f kj14 (y256 ++ y259)).bind fun t265 => (if t265 = true then (spec_l91Kinds.l1 kj14 x3_1 x4_1 x8_14 (wrap64 (x6_2 - 1)) s0_0 t239) else ((spec_l6Rd_pick.f kj14 s0_0 t239 12).bind fun bt266 => (if bt266.1 = 0 then (spec_l91Kinds.l1 kj14 x3_1 x4_1 x8_14 (wrap64 (x6_2 - 1)) s0_0 bt266.2) else (spec_l91Kinds.l1 kj14 x3_1 x4_1 x5_2 (wrap64 (x6_2 - 1)) s0_0 bt266.2))))) else (none))) = some (r1,r2):=by first | (rw [hy256];with_reducible exact H) | (have H2_:=(Option.bind_some _ _).symm.trans H;rw [hy256];with_reducible exact H2_) | (have H2_:=(Option.bind_some _ _).symm.trans H;with_reducible exact H2_) | with_reducible exact H | (rw [hy256];exact H) | exact H
            have Ny256:=Aside0.mk hy256
            clear hy256
            obtain ⟨y259,hy259⟩ : ∃ y_ : List (List (S81)),y_ = (([x8_14] : List (List (S81)))):=⟨_,rfl⟩
            replace H : (if y256.length + y259.length < 5864062014805 then ((spec_KindsOk.f kj14 (y256 ++ y259)).bind fun t265 => (if t265 = true then (spec_l91Kinds.l1 kj14 x3_1 x4_1 x8_14 (wrap64 (x6_2 - 1)) s0_0 t239) else ((spec_l6Rd_pick.f kj14 s0_0 t239 12).bind fun bt266 => (if bt266.1 = 0 then (spec_l91Kinds.l1 kj14 x3_1 x4_1 x8_14 (wrap64 (x6_2 - 1)) s0_0 bt266.2) else (spec_l91Kinds.l1 kj14 x3_1 x4_1 x5_2 (wrap64 (x6_2 - 1)) s0_0 bt266.2))))) else (none)) = some (r1,r2):=by first | (rw [hy259];with_reducible exact H) | (have H2_:=(Option.bind_some _ _).symm.trans H;rw [hy259];with_reducible exact H2_) | (have H2_:=(Option.bind_some _ _).symm.trans H;with_reducible exact H2_) | with_reducible exact H | (rw [hy259];exact H) | exact H
            have Ny259:=Aside0.mk hy259
            clear hy259
            by_cases c44 : y256.length + y259.length < 5864062014805
            ·rw [if_pos c44] at H
             have LMc44:=Aside0.mk c44
             clear c44
             obtain ⟨y262,hy262⟩ : ∃ y_ : List (List (S81)),y_ = (y256 ++ y259):=⟨_,rfl⟩
             replace H : ((spec_KindsOk.f kj14 y262).bind fun t265 => (if t265 = true then (spec_l91Kinds.l1 kj14 x3_1 x4_1 x8_14 (wrap64 (x6_2 - 1)) s0_0 t239) else ((spec_l6Rd_pick.f kj14 s0_0 t239 12).bind fun bt266 => (if bt266.1 = 0 then (spec_l91Kinds.l1 kj14 x3_1 x4_1 x8_14 (wrap64 (x6_2 - 1)) s0_0 bt266.2) else (spec_l91Kinds.l1 kj14 x3_1 x4_1 x5_2 (wrap64 (x6_2 - 1)) s0_0 bt266.2))))) = some (r1,r2):=by first | (rw [hy262];with_reducible exact H) | (have H2_:=(Option.bind_some _ _).symm.trans H;rw [hy262];with_reducible exact H2_) | (have H2_:=(Option.bind_some _ _).symm.trans H;with_reducible exact H2_) | with_reducible exact H | (rw [hy262];exact H) | exact H
             have Ny262:=Aside0.mk hy262
             clear hy262
             replace H:=Option.bind_eq_some_iff.mp H
             obtain ⟨t265,A450,H⟩:=H
             replace H : (if t265 = true then (spec_l91Kinds.l1 kj14 x3_1 x4_1 x8_14 (wrap64 (x6_2 - 1)) s0_0 t239) else ((spec_l6Rd_pick.f kj14 s0_0 t239 12).bind fun bt266 => (if bt266.1 = 0 then (spec_l91Kinds.l1 kj14 x3_1 x4_1 x8_14 (wrap64 (x6_2 - 1)) s0_0 bt266.2) else (spec_l91Kinds.l1 kj14 x3_1 x4_1 x5_2 (wrap64 (x6_2 - 1)) s0_0 bt266.2)))) = some (r1,r2):=H
             have A45:=Aside0.mk A450
             clear A450
             by_cases c46 : t265 = true
             ·subst c46
              have H1 : (spec_l91Kinds.l1 kj14 x3_1 x4_1 x8_14 (wrap64 (x6_2 - 1)) s0_0 t239) = some (r1,r2):=by rw [if_pos rfl] at H;exact H
              clear H
              have H:=H1
              clear H1
              have H':=Aside0.mk H
              clear H
              go_wp2_with (first | ((with_reducible refine gate_dst (N:=37) rfl ?_);refine Kd.N_lit (Kd.slice 81 k81) _ 66 ?hg (N':=37) ?hd (xs:=([] : List (List (S81)))) (inner:=[]) (ok:=(fun k_ => (w.heap.size ≤ k_) ∧ some k_ ≠ (.slice Ao19 x3_1.length co19 : Value).ownBlock ∧ k_ ≠ g)) (okp:=(fun k_ => (w.heap.size ≤ k_) ∧ some k_ ≠ (.slice Ao19 x3_1.length co19 : Value).ownBlock ∧ k_ ≠ g)) ?hr ?hp (fun _ hk => hk) ((show ∀ k_,wc.heap.size ≤ k_ → (fun k_ => (w.heap.size ≤ k_) ∧ some k_ ≠ (.slice Ao19 x3_1.length co19 : Value).ownBlock ∧ k_ ≠ g) k_ from fun k_ hk => ⟨(Nat.le_trans (keep_size (w:=w) (g:=g) (row:=none) (Up.Kp0 HK)) hk),Kd.fresh' (Kd.N_lt (Up.Nup HO_3)) k_ hk,IsS79.fresh (Ip0 HI0) k_ hk⟩) _ (Nat.le_refl _)) (Below.refl _ _) (Nat.le_refl _) (by simp) ?_;(case hd => rfl);(case hg => rfl);(case hr => first | (go_simp;done) | (go_simp;rfl));(case hp => exact (Reps.none _ _));intro v254 w47 ho48 hb hg_ hnew_;clear hg_ hnew_;(first | rw [← Ny253.out] at ho48 | (simp only [Int.reduceToNat] at ho48;rw [← Ny253.out] at ho48));have n0_:=Aside0.mk (Kd.N_elder' (Up.Nup HO_3) (Kd.N_base ho48) hb);have n1_:=Aside0.mk (Kd.V_elder' (Up.Vup HO_5) (Kd.N_base ho48) hb);have n2_:=Aside0.mk (Kd.V_elder' (Up.Vup HO_8) (Kd.N_base ho48) hb);have n3_:=Aside0.mk (Kd.N_lower ho48 (keep_size (w:=w) (g:=g) (row:=none) (Up.Kp0 HK)));have n4_:=Aside0.mk (IsS79.below (Ip0 HI0) hb);have n5_:=Aside0.mk (KeepBut.trans (Up.Kp0 HK) (KeepBut.of_below hb g none) (.inl rfl));have n6_:=Aside0.mk (below_step (Up.Bs HB (IsS79.ge HI0.out)) hb);clear HO_3 HO_5 HO_8 HI0 HK HB;have HO_3:=n0_;have HO_5:=n1_;have HO_8:=n2_;have HO255:=n3_;have HI0:=n4_;have HK:=n5_;have HB:=n6_;clear n0_ n1_ n2_ n3_ n4_ n5_ n6_ hb ho48) | ((with_reducible refine gate_builtin (b:=.append) (xs:=#[.tmp 37,.tmp 38]) rfl ?_);at_builtin;refine Kd.N_append_rows (Kd.slice 81 k81) w.heap.size rfl (.tmp 37) (.tmp 38) 23 66 (.slice none 0 0) 24 rfl Tryd.underlying23 info66 rfl (by decide) (by omega) v254 y253 x3_1 _ _ _ (fun k_ => (w.heap.size ≤ k_) ∧ k_ ≠ g) (fun k_ => ((fun k_ => (w.heap.size ≤ k_) ∧ k_ ≠ g)) k_ ∧ some k_ ≠ (v254 : Value).ownBlock) rfl rfl ?aO ?aR (fun _ hk => hk) ?aF (Below.refl _ _) ?aS ?aL ?_;(case aR => exact (by skip;exact Kd.N_F (Kd.N_mono (ok':=(fun k_ => ((fun k_ => (w.heap.size ≤ k_) ∧ k_ ≠ g)) k_ ∧ some k_ ≠ (v254 : Value).ownBlock)) (HO_3.out) (fun k_ hk => ⟨⟨hk.1.1,hk.1.2⟩,hk.2⟩))));(case aF => exact (fun k_ hk => ⟨(Nat.le_trans (keep_size (w:=w) (g:=g) (row:=none) (Up.Kp0 HK)) hk),IsS79.fresh (Ip0 HI0) k_ hk⟩));(case aO => exact (Up.Nq (Kd.N_mono HO255.out (fun _ hk => ⟨hk.1,hk.2.2⟩))));(case aS => exact (keep_size (w:=w) (g:=g) (row:=none) (Up.Kp0 HK)));(case aL => have:=LMc43.out;omega);intro v257 w49 ho hb hg hat;rw [← Ny256.out] at ho;have n0_:=Aside0.mk (Kd.N_afterv (ok:=(fun k_ => (w.heap.size ≤ k_) ∧ k_ ≠ g)) (Up.Nup HO_3) hg hat);have n1_:=Aside0.mk (Kd.V_afterv (ok:=(fun k_ => (w.heap.size ≤ k_) ∧ some k_ ≠ (.slice Ao19 x3_1.length co19 : Value).ownBlock ∧ k_ ≠ g)) (Up.Vup HO_5) hg hat);have n2_:=Aside0.mk (Kd.V_afterv (ok:=(fun k_ => (w.heap.size ≤ k_) ∧ some k_ ≠ (.slice Ao19 x3_1.length co19 : Value).ownBlock ∧ k_ ≠ g)) (Up.Vup HO_8) hg hat);have n3_:=Aside0.mk (IsS79.grown (Ip0 HI0) hg (IsS79.own_neN HI0.out HO255.out (by decide)));have n4_:=Aside0.mk (below_weaken (Up.Bs HB (IsS79.ge HI0.out)) HL.out hb);have n5_:=Aside0.mk (KeepBut.trans (Up.Kp0 HK) (KeepBut.of_grown hg g) (Kd.N_base2 HO255.out));have n6_:=Aside0.mk (ho);clear HO_3 HO_5 HO_8 HI0 HB HK HO255;have HO_3:=n0_;have HO_5:=n1_;have HO_8:=n2_;have HI0:=n3_;have HB:=n4_;have HK:=n5_;have HO258:=n6_;clear n0_ n1_ n2_ n3_ n4_ n5_ n6_ ho hb hg hat;obtain ⟨Ao50,co50,eo50⟩:=Kd.V_slice HO_8.out;subst eo50) | ((with_reducible refine gate_dst (N:=41) rfl ?_);refine Kd.N_lit (Kd.slice 81 k81) _ 66 ?hg (N':=41) ?hd (xs:=([x8_14] : List (List (S81)))) (inner:=[.slice Ao50 x8_14.length co50]) (ok:=(fun k_ => (w.heap.size ≤ k_) ∧ some k_ ≠ (.slice Ao19 x3_1.length co19 : Value).ownBlock ∧ some k_ ≠ (v257 : Value).ownBlock ∧ k_ ≠ g)) (okp:=(fun k_ => (w.heap.size ≤ k_) ∧ some k_ ≠ (.slice Ao19 x3_1.length co19 : Value).ownBlock ∧ some k_ ≠ (v257 : Value).ownBlock ∧ k_ ≠ g)) ?hr ?hp (fun _ hk => hk) ((show ∀ k_,w49.heap.size ≤ k_ → (fun k_ => (w.heap.size ≤ k_) ∧ some k_ ≠ (.slice Ao19 x3_1.length co19 : Value).ownBlock ∧ some k_ ≠ (v257 : Value).ownBlock ∧ k_ ≠ g) k_ from fun k_ hk => ⟨(Nat.le_trans (keep_size (w:=w) (g:=g) (row:=none) (Up.Kp0 HK)) hk),Kd.fresh' (Kd.N_lt (Up.Nup HO_3)) k_ hk,Kd.fresh' (Kd.N_lt (Up.Nup HO258)) k_ hk,IsS79.fresh (Ip0 HI0) k_ hk⟩) _ (Nat.le_refl _)) (Below.refl _ _) (Nat.le_refl _) (by simp) ?_;(case hd => rfl);(case hg => rfl);(case hr => first | (go_simp;done) | (go_simp;rfl));(case hp => exact (Reps.one (show Kd.FK (Kd.slice 81 k81) _ _ x8_14 [.slice Ao50 x8_14.length co50] from (Kd.FK_slice_mk (Kd.V_reads' (Kd.V_mono (ok':=(fun k_ => (w.heap.size ≤ k_) ∧ some k_ ≠ (.slice Ao19 x3_1.length co19 : Value).ownBlock ∧ some k_ ≠ (v257 : Value).ownBlock ∧ k_ ≠ g)) (HO_8.out) (fun k_ hk => ⟨hk.1.1,⟨hk.1.2.1,⟨hk.2,hk.1.2.2⟩⟩⟩))).2.1 (Kd.V_F (Kd.V_mono (ok':=(fun k_ => (w.heap.size ≤ k_) ∧ some k_ ≠ (.slice Ao19 x3_1.length co19 : Value).ownBlock ∧ some k_ ≠ (v257 : Value).ownBlock ∧ k_ ≠ g)) (HO_8.out) (fun k_ hk => ⟨hk.1.1,⟨hk.1.2.1,⟨hk.2,hk.1.2.2⟩⟩⟩))))) (Reps.none _ _)));intro v260 w51 ho52 hb hg_ hnew_;clear hg_ hnew_;(first | rw [← Ny259.out] at ho52 | (simp only [Int.reduceToNat] at ho52;rw [← Ny259.out] at ho52));have n0_:=Aside0.mk (Kd.N_elder' (Up.Nup HO_3) (Kd.N_base ho52) hb);have n1_:=Aside0.mk (Kd.V_elder' (Up.Vup HO_5) (Kd.N_base ho52) hb);have n2_:=Aside0.mk (Kd.V_elder' (Up.Vup HO_8) (Kd.N_base ho52) hb);have n3_:=Aside0.mk (Kd.N_elder' (Up.Nup HO258) (Kd.N_base ho52) hb);have n4_:=Aside0.mk (Kd.N_lower ho52 (keep_size (w:=w) (g:=g) (row:=none) (Up.Kp0 HK)));have n5_:=Aside0.mk (IsS79.below (Ip0 HI0) hb);have n6_:=Aside0.mk (KeepBut.trans (Up.Kp0 HK) (KeepBut.of_below hb g none) (.inl rfl));have n7_:=Aside0.mk (below_step (Up.Bs HB (IsS79.ge HI0.out)) hb);clear HO_3 HO_5 HO_8 HO258 HI0 HK HB;have HO_3:=n0_;have HO_5:=n1_;have HO_8:=n2_;have HO258:=n3_;have HO261:=n4_;have HI0:=n5_;have HK:=n6_;have HB:=n7_;clear n0_ n1_ n2_ n3_ n4_ n5_ n6_ n7_ hb ho52;obtain ⟨Ao54,co54,eo54⟩:=Kd.N_slice HO261.out;subst eo54) | ((with_reducible refine gate_builtin (b:=.append) (xs:=#[.tmp 39,.tmp 41]) rfl ?_);at_builtin;refine Kd.N_append_rows (Kd.slice 81 k81) w.heap.size rfl (.tmp 39) (.tmp 41) 23 66 (.slice none 0 0) 24 rfl Tryd.underlying23 info66 rfl (by decide) (by omega) v257 y256 y259 _ _ _ (fun k_ => (w.heap.size ≤ k_) ∧ k_ ≠ g) (fun k_ => ((fun k_ => (w.heap.size ≤ k_) ∧ k_ ≠ g)) k_ ∧ some k_ ≠ (v257 : Value).ownBlock) rfl rfl ?aO ?aR (fun _ hk => hk) ?aF (Below.refl _ _) ?aS ?aL ?_;(case aR => exact (by skip;exact Kd.N_F (Kd.N_mono (ok':=(fun k_ => ((fun k_ => (w.heap.size ≤ k_) ∧ k_ ≠ g)) k_ ∧ some k_ ≠ (v257 : Value).ownBlock)) (HO261.out) (fun k_ hk => ⟨⟨hk.1,hk.2.2.2⟩,hk.2.2.1⟩))));(case aF => exact (fun k_ hk => ⟨(Nat.le_trans (keep_size (w:=w) (g:=g) (row:=none) (Up.Kp0 HK)) hk),IsS79.fresh (Ip0 HI0) k_ hk⟩));(case aO => exact (Up.Nq (Kd.N_mono HO258.out (fun _ hk => ⟨hk.1.1,hk.1.2⟩))));(case aS => exact (keep_size (w:=w) (g:=g) (row:=none) (Up.Kp0 HK)));(case aL => have:=LMc44.out;omega);intro v263 w53 ho hb hg hat;rw [← Ny262.out] at ho;have n0_:=Aside0.mk (Kd.N_afterv (ok:=(fun k_ => (w.heap.size ≤ k_) ∧ some k_ ≠ (.slice Ao54 y259.length co54 : Value).ownBlock ∧ k_ ≠ g)) (Up.Nq (Kd.N_mono HO_3.out (fun _ hk => ⟨⟨hk.1.1.1,⟨hk.2,hk.1.1.2⟩⟩,hk.1.2⟩))) hg hat);have n1_:=Aside0.mk (Kd.V_afterv (ok:=(fun k_ => (w.heap.size ≤ k_) ∧ some k_ ≠ (.slice Ao19 x3_1.length co19 : Value).ownBlock ∧ some k_ ≠ (.slice Ao54 y259.length co54 : Value).ownBlock ∧ k_ ≠ g)) (Up.Vq (Kd.V_mono HO_5.out (fun _ hk => ⟨⟨hk.1.1.1,⟨hk.1.1.2.1,⟨hk.2,hk.1.1.2.2⟩⟩⟩,hk.1.2⟩))) hg hat);have n2_:=Aside0.mk (Kd.V_afterv (ok:=(fun k_ => (w.heap.size ≤ k_) ∧ some k_ ≠ (.slice Ao19 x3_1.length co19 : Value).ownBlock ∧ some k_ ≠ (.slice Ao54 y259.length co54 : Value).ownBlock ∧ k_ ≠ g)) (Up.Vq (Kd.V_mono HO_8.out (fun _ hk => ⟨⟨hk.1.1.1,⟨hk.1.1.2.1,⟨hk.2,hk.1.1.2.2⟩⟩⟩,hk.1.2⟩))) hg hat);have n3_:=Aside0.mk (IsS79.grown (Ip0 HI0) hg (IsS79.own_neN HI0.out HO258.out (by decide)));have n4_:=Aside0.mk (Kd.N_afterv (ok:=(fun k_ => (w.heap.size ≤ k_) ∧ some k_ ≠ (.slice Ao19 x3_1.length co19 : Value).ownBlock ∧ k_ ≠ g)) (Up.Nq (Kd.N_mono HO261.out (fun _ hk => ⟨⟨hk.1,⟨hk.2.1,hk.2.2.2⟩⟩,hk.2.2.1⟩))) hg hat);have n5_:=Aside0.mk (below_weaken (Up.Bs HB (IsS79.ge HI0.out)) HL.out hb);have n6_:=Aside0.mk (KeepBut.trans (Up.Kp0 HK) (KeepBut.of_grown hg g) (Kd.N_base2 HO258.out));have n7_:=Aside0.mk (ho);clear HO_3 HO_5 HO_8 HI0 HO261 HB HK HO258;have HO_3:=n0_;have HO_5:=n1_;have HO_8:=n2_;have HI0:=n3_;have HO261:=n4_;have HB:=n5_;have HK:=n6_;have HO264:=n7_;clear n0_ n1_ n2_ n3_ n4_ n5_ n6_ n7_ ho hb hg hat;obtain ⟨Ao55,co55,eo55⟩:=Kd.N_slice HO264.out;subst eo55) | ((with_reducible refine gate_callee (f:=30) rfl ?_);refine Up.gl (some 43) Tryd.func30 #[.slice Ao55 y262.length co55] ?_;(with_reducible refine (spec_KindsOk.calls kj14 _ _ y262 true _ ?side1 ?side2 A45.out).mono ?_);(case side1 => repeat (first | exact (Kd.N_reads' HO264.out).2.2 | (with_reducible refine Kd.C_alloc ?_ _) | (with_reducible refine Kd.C_drewN ?_ _) | (with_reducible refine Kd.C_drew ?_)));(case side2 => exact (Kd.N_reads' HO264.out).2.1);rintro e w56 ⟨rfl,hb⟩;refine ⟨_,rfl,?_⟩;have n0_:=Up.NB HO_3 hb;have n1_:=Up.VB HO_5 hb;have n2_:=Up.VB HO_8 hb;have n3_:=Up.NB HO261 hb;have n4_:=Up.NB HO264 hb;have n5_:=Aside0.mk (IsS79.below (Ip0 HI0) hb);have n6_:=Aside0.mk (KeepBut.trans (Up.Kp0 HK) (KeepBut.of_below hb g none) (.inl rfl));have n7_:=Aside0.mk (below_step (Up.Bs HB (IsS79.ge HI0.out)) hb);clear HO_3 HO_5 HO_8 HO261 HO264 HI0 HK HB;have HO_3:=n0_;have HO_5:=n1_;have HO_8:=n2_;have HO261:=n3_;have HO264:=n4_;have HI0:=n5_;have HK:=n6_;have HB:=n7_;clear n0_ n1_ n2_ n3_ n4_ n5_ n6_ n7_;(try clear hb);(try clear hb2);(try clear hk);(try clear hi)))
              go_roundg kj14
              case measure => have:=HK1.out;have:=HK2.out;have:=HJ14.out;omega
              case rel => exact ⟨(x8_14),(wrap64 (x6_2 - 1)),(t239),(by first | rfl | (simp;done) | (simp [*];done)),H',⟨by have:=HK1.out;have:=HK2.out;have:=HJ14.out;omega⟩,⟨by (with_reducible repeat (first | apply Kd.N_alloc | apply Kd.N_drewN | apply Kd.N_drew));exact Kd.N_mono HO_3.out (fun _ hk => ⟨hk.1.1,hk.1.2.2⟩)⟩,⟨by (with_reducible repeat (first | apply Kd.V_alloc | apply Kd.V_drewN | apply Kd.V_drew));exact Kd.V_mono HO_8.out (fun _ hk => ⟨hk.1.1,⟨hk.1.2.1,hk.1.2.2.2⟩⟩)⟩,⟨by repeat (first | (with_reducible first | exact HI0.out | apply IsS79.alloc | apply IsS79.drewN | apply IsS79.drew | apply IsS79.set_1) | exact HI0.out)⟩,⟨by repeat (first | (with_reducible first | exact HK.out | apply KeepBut.set_ | apply keep_drewN | apply keep_drew | apply keep_alloc) | exact HK.out)⟩,⟨by repeat (first | (with_reducible first | exact HB.out | apply below_alloc | apply pw_below_drewN | apply below_drew1 | refine below_set ?_ (IsS79.ge HI0.out)) | exact HB.out)⟩⟩
             ·replace c46:=Bool.eq_false_iff.mpr c46
              subst c46
              have H1 : ((spec_l6Rd_pick.f kj14 s0_0 t239 12).bind fun bt266 => (if bt266.1 = 0 then (spec_l91Kinds.l1 kj14 x3_1 x4_1 x8_14 (wrap64 (x6_2 - 1)) s0_0 bt266.2) else (spec_l91Kinds.l1 kj14 x3_1 x4_1 x5_2 (wrap64 (x6_2 - 1)) s0_0 bt266.2))) = some (r1,r2):=by rw [if_neg (show ¬ (false = true) by decide)] at H;exact H
              clear H
              have H:=H1
              clear H1
              replace H:=Option.bind_eq_some_iff.mp H
              obtain ⟨⟨t266,t267⟩,A570,H⟩:=H
              replace H : (if t266 = 0 then (spec_l91Kinds.l1 kj14 x3_1 x4_1 x8_14 (wrap64 (x6_2 - 1)) s0_0 t267) else (spec_l91Kinds.l1 kj14 x3_1 x4_1 x5_2 (wrap64 (x6_2 - 1)) s0_0 t267)) = some (r1,r2):=H
              have A57:=Aside0.mk A570
              clear A570
              by_cases c58 : t266 = 0
              ·rw [if_pos c58] at H
               have c58b0 : (t266 == 0) = true:=beq_iff_eq.mpr c58
               have c58b1 : (t266 != 0) = false:=bne_eq_false_iff_eq.mpr c58
               clear c58
               have H':=Aside0.mk H
               clear H
               go_wp2_with (first | ((with_reducible refine gate_dst (N:=37) rfl ?_);refine Kd.N_lit (Kd.slice 81 k81) _ 66 ?hg (N':=37) ?hd (xs:=([] : List (List (S81)))) (inner:=[]) (ok:=(fun k_ => (w.heap.size ≤ k_) ∧ some k_ ≠ (.slice Ao19 x3_1.length co19 : Value).ownBlock ∧ k_ ≠ g)) (okp:=(fun k_ => (w.heap.size ≤ k_) ∧ some k_ ≠ (.slice Ao19 x3_1.length co19 : Value).ownBlock ∧ k_ ≠ g)) ?hr ?hp (fun _ hk => hk) ((show ∀ k_,wc.heap.size ≤ k_ → (fun k_ => (w.heap.size ≤ k_) ∧ some k_ ≠ (.slice Ao19 x3_1.length co19 : Value).ownBlock ∧ k_ ≠ g) k_ from fun k_ hk => ⟨(Nat.le_trans (keep_size (w:=w) (g:=g) (row:=none) (Up.Kp0 HK)) hk),Kd.fresh' (Kd.N_lt (Up.Nup HO_3)) k_ hk,IsS79.fresh (Ip0 HI0) k_ hk⟩) _ (Nat.le_refl _)) (Below.refl _ _) (Nat.le_refl _) (by simp) ?_;(case hd => rfl);(case hg => rfl);(case hr => first | (go_simp;done) | (go_simp;rfl));(case hp => exact (Reps.none _ _));intro v254 w59 ho60 hb hg_ hnew_;clear hg_ hnew_;(first | rw [← Ny253.out] at ho60 | (simp only [Int.reduceToNat] at ho60;rw [← Ny253.out] at ho60));have n0_:=Aside0.mk (Kd.N_elder' (Up.Nup HO_3) (Kd.N_base ho60) hb);have n1_:=Aside0.mk (Kd.V_elder' (Up.Vup HO_5) (Kd.N_base ho60) hb);have n2_:=Aside0.mk (Kd.V_elder' (Up.Vup HO_8) (Kd.N_base ho60) hb);have n3_:=Aside0.mk (Kd.N_lower ho60 (keep_size (w:=w) (g:=g) (row:=none) (Up.Kp0 HK)));have n4_:=Aside0.mk (IsS79.below (Ip0 HI0) hb);have n5_:=Aside0.mk (KeepBut.trans (Up.Kp0 HK) (KeepBut.of_below hb g none) (.inl rfl));have n6_:=Aside0.mk (below_step (Up.Bs HB (IsS79.ge HI0.out)) hb);clear HO_3 HO_5 HO_8 HI0 HK HB;have HO_3:=n0_;have HO_5:=n1_;have HO_8:=n2_;have HO255:=n3_;have HI0:=n4_;have HK:=n5_;have HB:=n6_;clear n0_ n1_ n2_ n3_ n4_ n5_ n6_ hb ho60) | ((with_reducible refine gate_builtin (b:=.append) (xs:=#[.tmp 37,.tmp 38]) rfl ?_);at_builtin;refine Kd.N_append_rows (Kd.slice 81 k81) w.heap.size rfl (.tmp 37) (.tmp 38) 23 66 (.slice none 0 0) 24 rfl Tryd.underlying23 info66 rfl (by decide) (by omega) v254 y253 x3_1 _ _ _ (fun k_ => (w.heap.size ≤ k_) ∧ k_ ≠ g) (fun k_ => ((fun k_ => (w.heap.size ≤ k_) ∧ k_ ≠ g)) k_ ∧ some k_ ≠ (v254 : Value).ownBlock) rfl rfl ?aO ?aR (fun _ hk => hk) ?aF (Below.refl _ _) ?aS ?aL ?_;(case aR => exact (by skip;exact Kd.N_F (Kd.N_mono (ok':=(fun k_ => ((fun k_ => (w.heap.size ≤ k_) ∧ k_ ≠ g)) k_ ∧ some k_ ≠ (v254 : Value).ownBlock)) (HO_3.out) (fun k_ hk => ⟨⟨hk.1.1,hk.1.2⟩,hk.2⟩))));(case aF => exact (fun k_ hk => ⟨(Nat.le_trans (keep_size (w:=w) (g:=g) (row:=none) (Up.Kp0 HK)) hk),IsS79.fresh (Ip0 HI0) k_ hk⟩));(case aO => exact (Up.Nq (Kd.N_mono HO255.out (fun _ hk => ⟨hk.1,hk.2.2⟩))));(case aS => exact (keep_size (w:=w) (g:=g) (row:=none) (Up.Kp0 HK)));(case aL => have:=LMc43.out;omega);intro v257 w61 ho hb hg hat;rw [← Ny256.out] at ho;have n0_:=Aside0.mk (Kd.N_afterv (ok:=(fun k_ => (w.heap.size ≤ k_) ∧ k_ ≠ g)) (Up.Nup HO_3) hg hat);have n1_:=Aside0.mk (Kd.V_afterv (ok:=(fun k_ => (w.heap.size ≤ k_) ∧ some k_ ≠ (.slice Ao19 x3_1.length co19 : Value).ownBlock ∧ k_ ≠ g)) (Up.Vup HO_5) hg hat);have n2_:=Aside0.mk (Kd.V_afterv (ok:=(fun k_ => (w.heap.size ≤ k_) ∧ some k_ ≠ (.slice Ao19 x3_1.length co19 : Value).ownBlock ∧ k_ ≠ g)) (Up.Vup HO_8) hg hat);have n3_:=Aside0.mk (IsS79.grown (Ip0 HI0) hg (IsS79.own_neN HI0.out HO255.out (by decide)));have n4_:=Aside0.mk (below_weaken (Up.Bs HB (IsS79.ge HI0.out)) HL.out hb);have n5_:=Aside0.mk (KeepBut.trans (Up.Kp0 HK) (KeepBut.of_grown hg g) (Kd.N_base2 HO255.out));have n6_:=Aside0.mk (ho);clear HO_3 HO_5 HO_8 HI0 HB HK HO255;have HO_3:=n0_;have HO_5:=n1_;have HO_8:=n2_;have HI0:=n3_;have HB:=n4_;have HK:=n5_;have HO258:=n6_;clear n0_ n1_ n2_ n3_ n4_ n5_ n6_ ho hb hg hat;obtain ⟨Ao62,co62,eo62⟩:=Kd.V_slice HO_8.out;subst eo62) | ((with_reducible refine gate_dst (N:=41) rfl ?_);refine Kd.N_lit (Kd.slice 81 k81) _ 66 ?hg (N':=41) ?hd (xs:=([x8_14] : List (List (S81)))) (inner:=[.slice Ao62 x8_14.length co62]) (ok:=(fun k_ => (w.heap.size ≤ k_) ∧ some k_ ≠ (.slice Ao19 x3_1.length co19 : Value).ownBlock ∧ some k_ ≠ (v257 : Value).ownBlock ∧ k_ ≠ g)) (okp:=(fun k_ => (w.heap.size ≤ k_) ∧ some k_ ≠ (.slice Ao19 x3_1.length co19 : Value).ownBlock ∧ some k_ ≠ (v257 : Value).ownBlock ∧ k_ ≠ g)) ?hr ?hp (fun _ hk => hk) ((show ∀ k_,w61.heap.size ≤ k_ → (fun k_ => (w.heap.size ≤ k_) ∧ some k_ ≠ (.slice Ao19 x3_1.length co19 : Value).ownBlock ∧ some k_ ≠ (v257 : Value).ownBlock ∧ k_ ≠ g) k_ from fun k_ hk => ⟨(Nat.le_trans (keep_size (w:=w) (g:=g) (row:=none) (Up.Kp0 HK)) hk),Kd.fresh' (Kd.N_lt (Up.Nup HO_3)) k_ hk,Kd.fresh' (Kd.N_lt (Up.Nup HO258)) k_ hk,IsS79.fresh (Ip0 HI0) k_ hk⟩) _ (Nat.le_refl _)) (Below.refl _ _) (Nat.le_refl _) (by simp) ?_;(case hd => rfl);(case hg => rfl);(case hr => first | (go_simp;done) | (go_simp;rfl));(case hp => exact (Reps.one (show Kd.FK (Kd.slice 81 k81) _ _ x8_14 [.slice Ao62 x8_14.length co62] from (Kd.FK_slice_mk (Kd.V_reads' (Kd.V_mono (ok':=(fun k_ => (w.heap.size ≤ k_) ∧ some k_ ≠ (.slice Ao19 x3_1.length co19 : Value).ownBlock ∧ some k_ ≠ (v257 : Value).ownBlock ∧ k_ ≠ g)) (HO_8.out) (fun k_ hk => ⟨hk.1.1,⟨hk.1.2.1,⟨hk.2,hk.1.2.2⟩⟩⟩))).2.1 (Kd.V_F (Kd.V_mono (ok':=(fun k_ => (w.heap.size ≤ k_) ∧ some k_ ≠ (.slice Ao19 x3_1.length co19 : Value).ownBlock ∧ some k_ ≠ (v257 : Value).ownBlock ∧ k_ ≠ g)) (HO_8.out) (fun k_ hk => ⟨hk.1.1,⟨hk.1.2.1,⟨hk.2,hk.1.2.2⟩⟩⟩))))) (Reps.none _ _)));intro v260 w63 ho64 hb hg_ hnew_;clear hg_ hnew_;(first | rw [← Ny259.out] at ho64 | (simp only [Int.reduceToNat] at ho64;rw [← Ny259.out] at ho64));have n0_:=Aside0.mk (Kd.N_elder' (Up.Nup HO_3) (Kd.N_base ho64) hb);have n1_:=Aside0.mk (Kd.V_elder' (Up.Vup HO_5) (Kd.N_base ho64) hb);have n2_:=Aside0.mk (Kd.V_elder' (Up.Vup HO_8) (Kd.N_base ho64) hb);have n3_:=Aside0.mk (Kd.N_elder' (Up.Nup HO258) (Kd.N_base ho64) hb);have n4_:=Aside0.mk (Kd.N_lower ho64 (keep_size (w:=w) (g:=g) (row:=none) (Up.Kp0 HK)));have n5_:=Aside0.mk (IsS79.below (Ip0 HI0) hb);have n6_:=Aside0.mk (KeepBut.trans (Up.Kp0 HK) (KeepBut.of_below hb g none) (.inl rfl));have n7_:=Aside0.mk (below_step (Up.Bs HB (IsS79.ge HI0.out)) hb);clear HO_3 HO_5 HO_8 HO258 HI0 HK HB;have HO_3:=n0_;have HO_5:=n1_;have HO_8:=n2_;have HO258:=n3_;have HO261:=n4_;have HI0:=n5_;have HK:=n6_;have HB:=n7_;clear n0_ n1_ n2_ n3_ n4_ n5_ n6_ n7_ hb ho64;obtain ⟨Ao66,co66,eo66⟩:=Kd.N_slice HO261.out;subst eo66) | ((with_reducible refine gate_builtin (b:=.append) (xs:=#[.tmp 39,.tmp 41]) rfl ?_);at_builtin;refine Kd.N_append_rows (Kd.slice 81 k81) w.heap.size rfl (.tmp 39) (.tmp 41) 23 66 (.slice none 0 0) 24 rfl Tryd.underlying23 info66 rfl (by decide) (by omega) v257 y256 y259 _ _ _ (fun k_ => (w.heap.size ≤ k_) ∧ k_ ≠ g) (fun k_ => ((fun k_ => (w.heap.size ≤ k_) ∧ k_ ≠ g)) k_ ∧ some k_ ≠ (v257 : Value).ownBlock) rfl rfl ?aO ?aR (fun _ hk => hk) ?aF (Below.refl _ _) ?aS ?aL ?_;(case aR => exact (by skip;exact Kd.N_F (Kd.N_mono (ok':=(fun k_ => ((fun k_ => (w.heap.size ≤ k_) ∧ k_ ≠ g)) k_ ∧ some k_ ≠ (v257 : Value).ownBlock)) (HO261.out) (fun k_ hk => ⟨⟨hk.1,hk.2.2.2⟩,hk.2.2.1⟩))));(case aF => exact (fun k_ hk => ⟨(Nat.le_trans (keep_size (w:=w) (g:=g) (row:=none) (Up.Kp0 HK)) hk),IsS79.fresh (Ip0 HI0) k_ hk⟩));(case aO => exact (Up.Nq (Kd.N_mono HO258.out (fun _ hk => ⟨hk.1.1,hk.1.2⟩))));(case aS => exact (keep_size (w:=w) (g:=g) (row:=none) (Up.Kp0 HK)));(case aL => have:=LMc44.out;omega);intro v263 w65 ho hb hg hat;rw [← Ny262.out] at ho;have n0_:=Aside0.mk (Kd.N_afterv (ok:=(fun k_ => (w.heap.size ≤ k_) ∧ some k_ ≠ (.slice Ao66 y259.length co66 : Value).ownBlock ∧ k_ ≠ g)) (Up.Nq (Kd.N_mono HO_3.out (fun _ hk => ⟨⟨hk.1.1.1,⟨hk.2,hk.1.1.2⟩⟩,hk.1.2⟩))) hg hat);have n1_:=Aside0.mk (Kd.V_afterv (ok:=(fun k_ => (w.heap.size ≤ k_) ∧ some k_ ≠ (.slice Ao19 x3_1.length co19 : Value).ownBlock ∧ some k_ ≠ (.slice Ao66 y259.length co66 : Value).ownBlock ∧ k_ ≠ g)) (Up.Vq (Kd.V_mono HO_5.out (fun _ hk => ⟨⟨hk.1.1.1,⟨hk.1.1.2.1,⟨hk.2,hk.1.1.2.2⟩⟩⟩,hk.1.2⟩))) hg hat);have n2_:=Aside0.mk (Kd.V_afterv (ok:=(fun k_ => (w.heap.size ≤ k_) ∧ some k_ ≠ (.slice Ao19 x3_1.length co19 : Value).ownBlock ∧ some k_ ≠ (.slice Ao66 y259.length co66 : Value).ownBlock ∧ k_ ≠ g)) (Up.Vq (Kd.V_mono HO_8.out (fun _ hk => ⟨⟨hk.1.1.1,⟨hk.1.1.2.1,⟨hk.2,hk.1.1.2.2⟩⟩⟩,hk.1.2⟩))) hg hat);have n3_:=Aside0.mk (IsS79.grown (Ip0 HI0) hg (IsS79.own_neN HI0.out HO258.out (by decide)));have n4_:=Aside0.mk (Kd.N_afterv (ok:=(fun k_ => (w.heap.size ≤ k_) ∧ some k_ ≠ (.slice Ao19 x3_1.length co19 : Value).ownBlock ∧ k_ ≠ g)) (Up.Nq (Kd.N_mono HO261.out (fun _ hk => ⟨⟨hk.1,⟨hk.2.1,hk.2.2.2⟩⟩,hk.2.2.1⟩))) hg hat);have n5_:=Aside0.mk (below_weaken (Up.Bs HB (IsS79.ge HI0.out)) HL.out hb);have n6_:=Aside0.mk (KeepBut.trans (Up.Kp0 HK) (KeepBut.of_grown hg g) (Kd.N_base2 HO258.out));have n7_:=Aside0.mk (ho);clear HO_3 HO_5 HO_8 HI0 HO261 HB HK HO258;have HO_3:=n0_;have HO_5:=n1_;have HO_8:=n2_;have HI0:=n3_;have HO261:=n4_;have HB:=n5_;have HK:=n6_;have HO264:=n7_;clear n0_ n1_ n2_ n3_ n4_ n5_ n6_ n7_ ho hb hg hat;obtain ⟨Ao67,co67,eo67⟩:=Kd.N_slice HO264.out;subst eo67) | ((with_reducible refine gate_callee (f:=30) rfl ?_);refine Up.gl (some 43) Tryd.func30 #[.slice Ao67 y262.length co67] ?_;(with_reducible refine (spec_KindsOk.calls kj14 _ _ y262 false _ ?side1 ?side2 A45.out).mono ?_);(case side1 => repeat (first | exact (Kd.N_reads' HO264.out).2.2 | (with_reducible refine Kd.C_alloc ?_ _) | (with_reducible refine Kd.C_drewN ?_ _) | (with_reducible refine Kd.C_drew ?_)));(case side2 => exact (Kd.N_reads' HO264.out).2.1);rintro e w68 ⟨rfl,hb⟩;refine ⟨_,rfl,?_⟩;have n0_:=Up.NB HO_3 hb;have n1_:=Up.VB HO_5 hb;have n2_:=Up.VB HO_8 hb;have n3_:=Up.NB HO261 hb;have n4_:=Up.NB HO264 hb;have n5_:=Aside0.mk (IsS79.below (Ip0 HI0) hb);have n6_:=Aside0.mk (KeepBut.trans (Up.Kp0 HK) (KeepBut.of_below hb g none) (.inl rfl));have n7_:=Aside0.mk (below_step (Up.Bs HB (IsS79.ge HI0.out)) hb);clear HO_3 HO_5 HO_8 HO261 HO264 HI0 HK HB;have HO_3:=n0_;have HO_5:=n1_;have HO_8:=n2_;have HO261:=n3_;have HO264:=n4_;have HI0:=n5_;have HK:=n6_;have HB:=n7_;clear n0_ n1_ n2_ n3_ n4_ n5_ n6_ n7_;(try clear hb);(try clear hb2);(try clear hk);(try clear hi)) | (go_at_call 46;(with_reducible refine (spec_l6Rd_pick.calls kj14 g s0_0 t239 12 t266 t267 w0 _ ?side1 ?side2 A57.out).mono ?_);(case side1 => repeat (first | (with_reducible first | exact HI0.out | apply IsS79.alloc | apply IsS79.drewN | apply IsS79.drew | apply IsS79.set_1) | exact HI0.out));(case side2 => repeat (first | (with_reducible first | exact HB.out | apply below_alloc | apply pw_below_drewN | apply below_drew1 | refine below_set ?_ (IsS79.ge HI0.out)) | exact HB.out));rintro e w69 ⟨rfl,hi,hb,hk⟩;have n0_:=Aside0.mk (Kd.N_mono (Kd.N_keep (Kd.N_mono (ok:=fun k_ => ((((w.heap.size ≤ k_)) ∧ (some k_ ≠ (.slice Ao66 y259.length co66 : Value).ownBlock ∧ k_ ≠ g)) ∧ some k_ ≠ (.slice Ao67 y262.length co67 : Value).ownBlock)) (Up.Nup HO_3) (fun k_ hk_ => (⟨hk_,hk_.1.2.2⟩ : _ ∧ k_ ≠ g))) hk (fun _ h => h.2)) (fun _ h => h.1));have n1_:=Aside0.mk (Kd.V_mono (Kd.V_keep (Kd.V_mono (ok:=fun k_ => ((((w.heap.size ≤ k_)) ∧ (some k_ ≠ (.slice Ao19 x3_1.length co19 : Value).ownBlock ∧ (some k_ ≠ (.slice Ao66 y259.length co66 : Value).ownBlock ∧ k_ ≠ g))) ∧ some k_ ≠ (.slice Ao67 y262.length co67 : Value).ownBlock)) (Up.Vup HO_5) (fun k_ hk_ => (⟨hk_,hk_.1.2.2.2⟩ : _ ∧ k_ ≠ g))) hk (fun _ h => h.2)) (fun _ h => h.1));have n2_:=Aside0.mk (Kd.V_mono (Kd.V_keep (Kd.V_mono (ok:=fun k_ => ((((w.heap.size ≤ k_)) ∧ (some k_ ≠ (.slice Ao19 x3_1.length co19 : Value).ownBlock ∧ (some k_ ≠ (.slice Ao66 y259.length co66 : Value).ownBlock ∧ k_ ≠ g))) ∧ some k_ ≠ (.slice Ao67 y262.length co67 : Value).ownBlock)) (Up.Vup HO_8) (fun k_ hk_ => (⟨hk_,hk_.1.2.2.2⟩ : _ ∧ k_ ≠ g))) hk (fun _ h => h.2)) (fun _ h => h.1));have n3_:=Aside0.mk (Kd.N_mono (Kd.N_keep (Kd.N_mono (ok:=fun k_ => ((((w.heap.size ≤ k_)) ∧ (some k_ ≠ (.slice Ao19 x3_1.length co19 : Value).ownBlock ∧ k_ ≠ g)) ∧ some k_ ≠ (.slice Ao67 y262.length co67 : Value).ownBlock)) (Up.Nup HO261) (fun k_ hk_ => (⟨hk_,hk_.1.2.2⟩ : _ ∧ k_ ≠ g))) hk (fun _ h => h.2)) (fun _ h => h.1));have n4_:=Aside0.mk (Kd.N_mono (Kd.N_keep (Kd.N_mono (ok:=fun k_ => (((w.heap.size ≤ k_)) ∧ k_ ≠ g)) (Up.Nup HO264) (fun k_ hk_ => (⟨hk_,hk_.2⟩ : _ ∧ k_ ≠ g))) hk (fun _ h => h.2)) (fun _ h => h.1));have n5_:=Aside0.mk (KeepBut.trans (Up.Kp0 HK) hk (.inl rfl));have n6_:=Aside0.mk (hb);have n7_:=Aside0.mk (hi);clear HO_3 HO_5 HO_8 HO261 HO264 HK HB HI0;have HO_3:=n0_;have HO_5:=n1_;have HO_8:=n2_;have HO261:=n3_;have HO264:=n4_;have HK:=n5_;have HB:=n6_;have HI0:=n7_;clear n0_ n1_ n2_ n3_ n4_ n5_ n6_ n7_;(try clear hb);(try clear hb2);(try clear hk);(try clear hi)))
               go_roundg kj14
               case measure => have:=HK1.out;have:=HK2.out;have:=HJ14.out;omega
               case rel => exact ⟨(x8_14),(wrap64 (x6_2 - 1)),(t267),(by first | rfl | (simp;done) | (simp [*];done)),H',⟨by have:=HK1.out;have:=HK2.out;have:=HJ14.out;omega⟩,⟨by (with_reducible repeat (first | apply Kd.N_alloc | apply Kd.N_drewN | apply Kd.N_drew));exact Kd.N_mono HO_3.out (fun _ hk => ⟨hk.1.1,hk.1.2.2⟩)⟩,⟨by (with_reducible repeat (first | apply Kd.V_alloc | apply Kd.V_drewN | apply Kd.V_drew));exact Kd.V_mono HO_8.out (fun _ hk => ⟨hk.1.1,⟨hk.1.2.1,hk.1.2.2.2⟩⟩)⟩,⟨by repeat (first | (with_reducible first | exact HI0.out | apply IsS79.alloc | apply IsS79.drewN | apply IsS79.drew | apply IsS79.set_1) | exact HI0.out)⟩,⟨by repeat (first | (with_reducible first | exact HK.out | apply KeepBut.set_ | apply keep_drewN | apply keep_drew | apply keep_alloc) | exact HK.out)⟩,⟨by repeat (first | (with_reducible first | exact HB.out | apply below_alloc | apply pw_below_drewN | apply below_drew1 | refine below_set ?_ (IsS79.ge HI0.out)) | exact HB.out)⟩⟩
              ·rw [if_neg c58] at H
               have c58b0 : (t266 == 0) = false:=beq_eq_false_iff_ne.mpr c58
               have c58b1 : (t266 != 0) = true:=bne_iff_ne.mpr c58
               have H':=Aside0.mk H
               clear H
               go_wp2_with (first | ((with_reducible refine gate_dst (N:=37) rfl ?_);refine Kd.N_lit (Kd.slice 81 k81) _ 66 ?hg (N':=37) ?hd (xs:=([] : List (List (S81)))) (inner:=[]) (ok:=(fun k_ => (w.heap.size ≤ k_) ∧ some k_ ≠ (.slice Ao19 x3_1.length co19 : Value).ownBlock ∧ k_ ≠ g)) (okp:=(fun k_ => (w.heap.size ≤ k_) ∧ some k_ ≠ (.slice Ao19 x3_1.length co19 : Value).ownBlock ∧ k_ ≠ g)) ?hr ?hp (fun _ hk => hk) ((show ∀ k_,wc.heap.size ≤ k_ → (fun k_ => (w.heap.size ≤ k_) ∧ some k_ ≠ (.slice Ao19 x3_1.length co19 : Value).ownBlock ∧ k_ ≠ g) k_ from fun k_ hk => ⟨(Nat.le_trans (keep_size (w:=w) (g:=g) (row:=none) (Up.Kp0 HK)) hk),Kd.fresh' (Kd.N_lt (Up.Nup HO_3)) k_ hk,IsS79.fresh (Ip0 HI0) k_ hk⟩) _ (Nat.le_refl _)) (Below.refl _ _) (Nat.le_refl _) (by simp) ?_;(case hd => rfl);(case hg => rfl);(case hr => first | (go_simp;done) | (go_simp;rfl));(case hp => exact (Reps.none _ _));intro v254 w70 ho71 hb hg_ hnew_;clear hg_ hnew_;(first | rw [← Ny253.out] at ho71 | (simp only [Int.reduceToNat] at ho71;rw [← Ny253.out] at ho71));have n0_:=Aside0.mk (Kd.N_elder' (Up.Nup HO_3) (Kd.N_base ho71) hb);have n1_:=Aside0.mk (Kd.V_elder' (Up.Vup HO_5) (Kd.N_base ho71) hb);have n2_:=Aside0.mk (Kd.V_elder' (Up.Vup HO_8) (Kd.N_base ho71) hb);have n3_:=Aside0.mk (Kd.N_lower ho71 (keep_size (w:=w) (g:=g) (row:=none) (Up.Kp0 HK)));have n4_:=Aside0.mk (IsS79.below (Ip0 HI0) hb);have n5_:=Aside0.mk (KeepBut.trans (Up.Kp0 HK) (KeepBut.of_below hb g none) (.inl rfl));have n6_:=Aside0.mk (below_step (Up.Bs HB (IsS79.ge HI0.out)) hb);clear HO_3 HO_5 HO_8 HI0 HK HB;have HO_3:=n0_;have HO_5:=n1_;have HO_8:=n2_;have HO255:=n3_;have HI0:=n4_;have HK:=n5_;have HB:=n6_;clear n0_ n1_ n2_ n3_ n4_ n5_ n6_ hb ho71) | ((with_reducible refine gate_builtin (b:=.append) (xs:=#[.tmp 37,.tmp 38]) rfl ?_);at_builtin;refine Kd.N_append_rows (Kd.slice 81 k81) w.heap.size rfl (.tmp 37) (.tmp 38) 23 66 (.slice none 0 0) 24 rfl Tryd.underlying23 info66 rfl (by decide) (by omega) v254 y253 x3_1 _ _ _ (fun k_ => (w.heap.size ≤ k_) ∧ k_ ≠ g) (fun k_ => ((fun k_ => (w.heap.size ≤ k_) ∧ k_ ≠ g)) k_ ∧ some k_ ≠ (v254 : Value).ownBlock) rfl rfl ?aO ?aR (fun _ hk => hk) ?aF (Below.refl _ _) ?aS ?aL ?_;(case aR => exact (by skip;exact Kd.N_F (Kd.N_mono (ok':=(fun k_ => ((fun k_ => (w.heap.size ≤ k_) ∧ k_ ≠ g)) k_ ∧ some k_ ≠ (v254 : Value).ownBlock)) (HO_3.out) (fun k_ hk => ⟨⟨hk.1.1,hk.1.2⟩,hk.2⟩))));(case aF => exact (fun k_ hk => ⟨(Nat.le_trans (keep_size (w:=w) (g:=g) (row:=none) (Up.Kp0 HK)) hk),IsS79.fresh (Ip0 HI0) k_ hk⟩));(case aO => exact (Up.Nq (Kd.N_mono HO255.out (fun _ hk => ⟨hk.1,hk.2.2⟩))));(case aS => exact (keep_size (w:=w) (g:=g) (row:=none) (Up.Kp0 HK)));(case aL => have:=LMc43.out;omega);intro v257 w72 ho hb hg hat;rw [← Ny256.out] at ho;have n0_:=Aside0.mk (Kd.N_afterv (ok:=(fun k_ => (w.heap.size ≤ k_) ∧ k_ ≠ g)) (Up.Nup HO_3) hg hat);have n1_:=Aside0.mk (Kd.V_afterv (ok:=(fun k_ => (w.heap.size ≤ k_) ∧ some k_ ≠ (.slice Ao19 x3_1.length co19 : Value).ownBlock ∧ k_ ≠ g)) (Up.Vup HO_5) hg hat);have n2_:=Aside0.mk (Kd.V_afterv (ok:=(fun k_ => (w.heap.size ≤ k_) ∧ some k_ ≠ (.slice Ao19 x3_1.length co19 : Value).ownBlock ∧ k_ ≠ g)) (Up.Vup HO_8) hg hat);have n3_:=Aside0.mk (IsS79.grown (Ip0 HI0) hg (IsS79.own_neN HI0.out HO255.out (by decide)));have n4_:=Aside0.mk (below_weaken (Up.Bs HB (IsS79.ge HI0.out)) HL.out hb);have n5_:=Aside0.mk (KeepBut.trans (Up.Kp0 HK) (KeepBut.of_grown hg g) (Kd.N_base2 HO255.out));have n6_:=Aside0.mk (ho);clear HO_3 HO_5 HO_8 HI0 HB HK HO255;have HO_3:=n0_;have HO_5:=n1_;have HO_8:=n2_;have HI0:=n3_;have HB:=n4_;have HK:=n5_;have HO258:=n6_;clear n0_ n1_ n2_ n3_ n4_ n5_ n6_ ho hb hg hat;obtain ⟨Ao73,co73,eo73⟩:=Kd.V_slice HO_8.out;subst eo73) | ((with_reducible refine gate_dst (N:=41) rfl ?_);refine Kd.N_lit (Kd.slice 81 k81) _ 66 ?hg (N':=41) ?hd (xs:=([x8_14] : List (List (S81)))) (inner:=[.slice Ao73 x8_14.length co73]) (ok:=(fun k_ => (w.heap.size ≤ k_) ∧ some k_ ≠ (.slice Ao19 x3_1.length co19 : Value).ownBlock ∧ some k_ ≠ (v257 : Value).ownBlock ∧ k_ ≠ g)) (okp:=(fun k_ => (w.heap.size ≤ k_) ∧ some k_ ≠ (.slice Ao19 x3_1.length co19 : Value).ownBlock ∧ some k_ ≠ (v257 : Value).ownBlock ∧ k_ ≠ g)) ?hr ?hp (fun _ hk => hk) ((show ∀ k_,w72.heap.size ≤ k_ → (fun k_ => (w.heap.size ≤ k_) ∧ some k_ ≠ (.slice Ao19 x3_1.length co19 : Value).ownBlock ∧ some k_ ≠ (v257 : Value).ownBlock ∧ k_ ≠ g) k_ from fun k_ hk => ⟨(Nat.le_trans (keep_size (w:=w) (g:=g) (row:=none) (Up.Kp0 HK)) hk),Kd.fresh' (Kd.N_lt (Up.Nup HO_3)) k_ hk,Kd.fresh' (Kd.N_lt (Up.Nup HO258)) k_ hk,IsS79.fresh (Ip0 HI0) k_ hk⟩) _ (Nat.le_refl _)) (Below.refl _ _) (Nat.le_refl _) (by simp) ?_;(case hd => rfl);(case hg => rfl);(case hr => first | (go_simp;done) | (go_simp;rfl));(case hp => exact (Reps.one (show Kd.FK (Kd.slice 81 k81) _ _ x8_14 [.slice Ao73 x8_14.length co73] from (Kd.FK_slice_mk (Kd.V_reads' (Kd.V_mono (ok':=(fun k_ => (w.heap.size ≤ k_) ∧ some k_ ≠ (.slice Ao19 x3_1.length co19 : Value).ownBlock ∧ some k_ ≠ (v257 : Value).ownBlock ∧ k_ ≠ g)) (HO_8.out) (fun k_ hk => ⟨hk.1.1,⟨hk.1.2.1,⟨hk.2,hk.1.2.2⟩⟩⟩))).2.1 (Kd.V_F (Kd.V_mono (ok':=(fun k_ => (w.heap.size ≤ k_) ∧ some k_ ≠ (.slice Ao19 x3_1.length co19 : Value).ownBlock ∧ some k_ ≠ (v257 : Value).ownBlock ∧ k_ ≠ g)) (HO_8.out) (fun k_ hk => ⟨hk.1.1,⟨hk.1.2.1,⟨hk.2,hk.1.2.2⟩⟩⟩))))) (Reps.none _ _)));intro v260 w74 ho75 hb hg_ hnew_;clear hg_ hnew_;(first | rw [← Ny259.out] at ho75 | (simp only [Int.reduceToNat] at ho75;rw [← Ny259.out] at ho75));have n0_:=Aside0.mk (Kd.N_elder' (Up.Nup HO_3) (Kd.N_base ho75) hb);have n1_:=Aside0.mk (Kd.V_elder' (Up.Vup HO_5) (Kd.N_base ho75) hb);have n2_:=Aside0.mk (Kd.V_elder' (Up.Vup HO_8) (Kd.N_base ho75) hb);have n3_:=Aside0.mk (Kd.N_elder' (Up.Nup HO258) (Kd.N_base ho75) hb);have n4_:=Aside0.mk (Kd.N_lower ho75 (keep_size (w:=w) (g:=g) (row:=none) (Up.Kp0 HK)));have n5_:=Aside0.mk (IsS79.below (Ip0 HI0) hb);have n6_:=Aside0.mk (KeepBut.trans (Up.Kp0 HK) (KeepBut.of_below hb g none) (.inl rfl));have n7_:=Aside0.mk (below_step (Up.Bs HB (IsS79.ge HI0.out)) hb);clear HO_3 HO_5 HO_8 HO258 HI0 HK HB;have HO_3:=n0_;have HO_5:=n1_;have HO_8:=n2_;have HO258:=n3_;have HO261:=n4_;have HI0:=n5_;have HK:=n6_;have HB:=n7_;clear n0_ n1_ n2_ n3_ n4_ n5_ n6_ n7_ hb ho75;obtain ⟨Ao77,co77,eo77⟩:=Kd.N_slice HO261.out;subst eo77) | ((with_reducible refine gate_builtin (b:=.append) (xs:=#[.tmp 39,.tmp 41]) rfl ?_);at_builtin;refine Kd.N_append_rows (Kd.slice 81 k81) w.heap.size rfl (.tmp 39) (.tmp 41) 23 66 (.slice none 0 0) 24 rfl Tryd.underlying23 info66 rfl (by decide) (by omega) v257 y256 y259 _ _ _ (fun k_ => (w.heap.size ≤ k_) ∧ k_ ≠ g) (fun k_ => ((fun k_ => (w.heap.size ≤ k_) ∧ k_ ≠ g)) k_ ∧ some k_ ≠ (v257 : Value).ownBlock) rfl rfl ?aO ?aR (fun _ hk => hk) ?aF (Below.refl _ _) ?aS ?aL ?_;(case aR => exact (by skip;exact Kd.N_F (Kd.N_mono (ok':=(fun k_ => ((fun k_ => (w.heap.size ≤ k_) ∧ k_ ≠ g)) k_ ∧ some k_ ≠ (v257 : Value).ownBlock)) (HO261.out) (fun k_ hk => ⟨⟨hk.1,hk.2.2.2⟩,hk.2.2.1⟩))));(case aF => exact (fun k_ hk => ⟨(Nat.le_trans (keep_size (w:=w) (g:=g) (row:=none) (Up.Kp0 HK)) hk),IsS79.fresh (Ip0 HI0) k_ hk⟩));(case aO => exact (Up.Nq (Kd.N_mono HO258.out (fun _ hk => ⟨hk.1.1,hk.1.2⟩))));(case aS => exact (keep_size (w:=w) (g:=g) (row:=none) (Up.Kp0 HK)));(case aL => have:=LMc44.out;omega);intro v263 w76 ho hb hg hat;rw [← Ny262.out] at ho;have n0_:=Aside0.mk (Kd.N_afterv (ok:=(fun k_ => (w.heap.size ≤ k_) ∧ some k_ ≠ (.slice Ao77 y259.length co77 : Value).ownBlock ∧ k_ ≠ g)) (Up.Nq (Kd.N_mono HO_3.out (fun _ hk => ⟨⟨hk.1.1.1,⟨hk.2,hk.1.1.2⟩⟩,hk.1.2⟩))) hg hat);have n1_:=Aside0.mk (Kd.V_afterv (ok:=(fun k_ => (w.heap.size ≤ k_) ∧ some k_ ≠ (.slice Ao19 x3_1.length co19 : Value).ownBlock ∧ some k_ ≠ (.slice Ao77 y259.length co77 : Value).ownBlock ∧ k_ ≠ g)) (Up.Vq (Kd.V_mono HO_5.out (fun _ hk => ⟨⟨hk.1.1.1,⟨hk.1.1.2.1,⟨hk.2,hk.1.1.2.2⟩⟩⟩,hk.1.2⟩))) hg hat);have n2_:=Aside0.mk (Kd.V_afterv (ok:=(fun k_ => (w.heap.size ≤ k_) ∧ some k_ ≠ (.slice Ao19 x3_1.length co19 : Value).ownBlock ∧ some k_ ≠ (.slice Ao77 y259.length co77 : Value).ownBlock ∧ k_ ≠ g)) (Up.Vq (Kd.V_mono HO_8.out (fun _ hk => ⟨⟨hk.1.1.1,⟨hk.1.1.2.1,⟨hk.2,hk.1.1.2.2⟩⟩⟩,hk.1.2⟩))) hg hat);have n3_:=Aside0.mk (IsS79.grown (Ip0 HI0) hg (IsS79.own_neN HI0.out HO258.out (by decide)));have n4_:=Aside0.mk (Kd.N_afterv (ok:=(fun k_ => (w.heap.size ≤ k_) ∧ some k_ ≠ (.slice Ao19 x3_1.length co19 : Value).ownBlock ∧ k_ ≠ g)) (Up.Nq (Kd.N_mono HO261.out (fun _ hk => ⟨⟨hk.1,⟨hk.2.1,hk.2.2.2⟩⟩,hk.2.2.1⟩))) hg hat);have n5_:=Aside0.mk (below_weaken (Up.Bs HB (IsS79.ge HI0.out)) HL.out hb);have n6_:=Aside0.mk (KeepBut.trans (Up.Kp0 HK) (KeepBut.of_grown hg g) (Kd.N_base2 HO258.out));have n7_:=Aside0.mk (ho);clear HO_3 HO_5 HO_8 HI0 HO261 HB HK HO258;have HO_3:=n0_;have HO_5:=n1_;have HO_8:=n2_;have HI0:=n3_;have HO261:=n4_;have HB:=n5_;have HK:=n6_;have HO264:=n7_;clear n0_ n1_ n2_ n3_ n4_ n5_ n6_ n7_ ho hb hg hat;obtain ⟨Ao78,co78,eo78⟩:=Kd.N_slice HO264.out;subst eo78) | ((with_reducible refine gate_callee (f:=30) rfl ?_);refine Up.gl (some 43) Tryd.func30 #[.slice Ao78 y262.length co78] ?_;(with_reducible refine (spec_KindsOk.calls kj14 _ _ y262 false _ ?side1 ?side2 A45.out).mono ?_);(case side1 => repeat (first | exact (Kd.N_reads' HO264.out).2.2 | (with_reducible refine Kd.C_alloc ?_ _) | (with_reducible refine Kd.C_drewN ?_ _) | (with_reducible refine Kd.C_drew ?_)));(case side2 => exact (Kd.N_reads' HO264.out).2.1);rintro e w79 ⟨rfl,hb⟩;refine ⟨_,rfl,?_⟩;have n0_:=Up.NB HO_3 hb;have n1_:=Up.VB HO_5 hb;have n2_:=Up.VB HO_8 hb;have n3_:=Up.NB HO261 hb;have n4_:=Up.NB HO264 hb;have n5_:=Aside0.mk (IsS79.below (Ip0 HI0) hb);have n6_:=Aside0.mk (KeepBut.trans (Up.Kp0 HK) (KeepBut.of_below hb g none) (.inl rfl));have n7_:=Aside0.mk (below_step (Up.Bs HB (IsS79.ge HI0.out)) hb);clear HO_3 HO_5 HO_8 HO261 HO264 HI0 HK HB;have HO_3:=n0_;have HO_5:=n1_;have HO_8:=n2_;have HO261:=n3_;have HO264:=n4_;have HI0:=n5_;have HK:=n6_;have HB:=n7_;clear n0_ n1_ n2_ n3_ n4_ n5_ n6_ n7_;(try clear hb);(try clear hb2);(try clear hk);(try clear hi)) | (go_at_call 46;(with_reducible refine (spec_l6Rd_pick.calls kj14 g s0_0 t239 12 t266 t267 w0 _ ?side1 ?side2 A57.out).mono ?_);(case side1 => repeat (first | (with_reducible first | exact HI0.out | apply IsS79.alloc | apply IsS79.drewN | apply IsS79.drew | apply IsS79.set_1) | exact HI0.out));(case side2 => repeat (first | (with_reducible first | exact HB.out | apply below_alloc | apply pw_below_drewN | apply below_drew1 | refine below_set ?_ (IsS79.ge HI0.out)) | exact HB.out));rintro e w80 ⟨rfl,hi,hb,hk⟩;have n0_:=Aside0.mk (Kd.N_mono (Kd.N_keep (Kd.N_mono (ok:=fun k_ => ((((w.heap.size ≤ k_)) ∧ (some k_ ≠ (.slice Ao77 y259.length co77 : Value).ownBlock ∧ k_ ≠ g)) ∧ some k_ ≠ (.slice Ao78 y262.length co78 : Value).ownBlock)) (Up.Nup HO_3) (fun k_ hk_ => (⟨hk_,hk_.1.2.2⟩ : _ ∧ k_ ≠ g))) hk (fun _ h => h.2)) (fun _ h => h.1));have n1_:=Aside0.mk (Kd.V_mono (Kd.V_keep (Kd.V_mono (ok:=fun k_ => ((((w.heap.size ≤ k_)) ∧ (some k_ ≠ (.slice Ao19 x3_1.length co19 : Value).ownBlock ∧ (some k_ ≠ (.slice Ao77 y259.length co77 : Value).ownBlock ∧ k_ ≠ g))) ∧ some k_ ≠ (.slice Ao78 y262.length co78 : Value).ownBlock)) (Up.Vup HO_5) (fun k_ hk_ => (⟨hk_,hk_.1.2.2.2⟩ : _ ∧ k_ ≠ g))) hk (fun _ h => h.2)) (fun _ h => h.1));have n2_:=Aside0.mk (Kd.V_mono (Kd.V_keep (Kd.V_mono (ok:=fun k_ => ((((w.heap.size ≤ k_)) ∧ (some k_ ≠ (.slice Ao19 x3_1.length co19 : Value).ownBlock ∧ (some k_ ≠ (.slice Ao77 y259.length co77 : Value).ownBlock ∧ k_ ≠ g))) ∧ some k_ ≠ (.slice Ao78 y262.length co78 : Value).ownBlock)) (Up.Vup HO_8) (fun k_ hk_ => (⟨hk_,hk_.1.2.2.2⟩ : _ ∧ k_ ≠ g))) hk (fun _ h => h.2)) (fun _ h => h.1));have n3_:=Aside0.mk (Kd.N_mono (Kd.N_keep (Kd.N_mono (ok:=fun k_ => ((((w.heap.size ≤ k_)) ∧ (some k_ ≠ (.slice Ao19 x3_1.length co19 : Value).ownBlock ∧ k_ ≠ g)) ∧ some k_ ≠ (.slice Ao78 y262.length co78 : Value).ownBlock)) (Up.Nup HO261) (fun k_ hk_ => (⟨hk_,hk_.1.2.2⟩ : _ ∧ k_ ≠ g))) hk (fun _ h => h.2)) (fun _ h => h.1));have n4_:=Aside0.mk (Kd.N_mono (Kd.N_keep (Kd.N_mono (ok:=fun k_ => (((w.heap.size ≤ k_)) ∧ k_ ≠ g)) (Up.Nup HO264) (fun k_ hk_ => (⟨hk_,hk_.2⟩ : _ ∧ k_ ≠ g))) hk (fun _ h => h.2)) (fun _ h => h.1));have n5_:=Aside0.mk (KeepBut.trans (Up.Kp0 HK) hk (.inl rfl));have n6_:=Aside0.mk (hb);have n7_:=Aside0.mk (hi);clear HO_3 HO_5 HO_8 HO261 HO264 HK HB HI0;have HO_3:=n0_;have HO_5:=n1_;have HO_8:=n2_;have HO261:=n3_;have HO264:=n4_;have HK:=n5_;have HB:=n6_;have HI0:=n7_;clear n0_ n1_ n2_ n3_ n4_ n5_ n6_ n7_;(try clear hb);(try clear hb2);(try clear hk);(try clear hi)))
               go_roundg kj14
               case measure => have:=HK1.out;have:=HK2.out;have:=HJ14.out;omega
               case rel => exact ⟨(x5_2),(wrap64 (x6_2 - 1)),(t267),(by first | rfl | (simp;done) | (simp [*];done)),H',⟨by have:=HK1.out;have:=HK2.out;have:=HJ14.out;omega⟩,⟨by (with_reducible repeat (first | apply Kd.N_alloc | apply Kd.N_drewN | apply Kd.N_drew));exact Kd.N_mono HO_3.out (fun _ hk => ⟨hk.1.1,hk.1.2.2⟩)⟩,⟨by (with_reducible repeat (first | apply Kd.V_alloc | apply Kd.V_drewN | apply Kd.V_drew));exact Kd.V_mono HO_5.out (fun _ hk => ⟨hk.1.1,⟨hk.1.2.1,hk.1.2.2.2⟩⟩)⟩,⟨by repeat (first | (with_reducible first | exact HI0.out | apply IsS79.alloc | apply IsS79.drewN | apply IsS79.drew | apply IsS79.set_1) | exact HI0.out)⟩,⟨by repeat (first | (with_reducible first | exact HK.out | apply KeepBut.set_ | apply keep_drewN | apply keep_drew | apply keep_alloc) | exact HK.out)⟩,⟨by repeat (first | (with_reducible first | exact HB.out | apply below_alloc | apply pw_below_drewN | apply below_drew1 | refine below_set ?_ (IsS79.ge HI0.out)) | exact HB.out)⟩⟩
            ·rw [if_neg c44] at H
             exact absurd H (by simp)
           ·rw [if_neg c43] at H
            exact absurd H (by simp)
        ·rw [if_neg c13] at H
         exact absurd H (by simp)
       ·rw [if_neg c12] at H
        exact absurd H (by simp)
      ·rw [if_neg c11] at H
       have c11b0 : decide (0 < x6_2) = false:=decide_eq_false c11
       clear c11
       obtain ⟨y217,hy217⟩ : ∃ y_ : List (List (S81)),y_ = (([x5_2] : List (List (S81)))):=⟨_,rfl⟩
       replace H : (if x3_1.length + y217.length < 5864062014805 then (spec_l91Kinds.l0 k2 (x3_1 ++ y217) (wrap64 (x4_1 - 1)) s0_0 x1001_2) else (none)) = some (r1,r2):=by first | (rw [hy217];with_reducible exact H) | (have H2_:=(Option.bind_some _ _).symm.trans H;rw [hy217];with_reducible exact H2_) | (have H2_:=(Option.bind_some _ _).symm.trans H;with_reducible exact H2_) | with_reducible exact H | (rw [hy217];exact H) | exact H
       have Ny217:=Aside0.mk hy217
       clear hy217
       by_cases c81 : x3_1.length + y217.length < 5864062014805
       ·rw [if_pos c81] at H
        have LMc81:=Aside0.mk c81
        clear c81
        obtain ⟨y220,hy220⟩ : ∃ y_ : List (List (S81)),y_ = (x3_1 ++ y217):=⟨_,rfl⟩
        replace H : (spec_l91Kinds.l0 k2 y220 (wrap64 (x4_1 - 1)) s0_0 x1001_2) = some (r1,r2):=by first | (rw [hy220];with_reducible exact H) | (have H2_:=(Option.bind_some _ _).symm.trans H;rw [hy220];with_reducible exact H2_) | (have H2_:=(Option.bind_some _ _).symm.trans H;with_reducible exact H2_) | with_reducible exact H | (rw [hy220];exact H) | exact H
        have Ny220:=Aside0.mk hy220
        clear hy220
        have H':=Aside0.mk H
        clear H
        obtain ⟨Ao82,co82,eo82⟩:=Kd.V_slice HO_5.out
        subst eo82
        go_wp2_with (first | ((with_reducible refine gate_dst (N:=52) rfl ?_);refine Kd.N_lit (Kd.slice 81 k81) _ 66 ?hg (N':=52) ?hd (xs:=([x5_2] : List (List (S81)))) (inner:=[.slice Ao82 x5_2.length co82]) (ok:=(fun k_ => (w.heap.size ≤ k_) ∧ some k_ ≠ (u3 : Value).ownBlock ∧ k_ ≠ g)) (okp:=(fun k_ => (w.heap.size ≤ k_) ∧ some k_ ≠ (u3 : Value).ownBlock ∧ k_ ≠ g)) ?hr ?hp (fun _ hk => hk) ((show ∀ k_,wr.heap.size ≤ k_ → (fun k_ => (w.heap.size ≤ k_) ∧ some k_ ≠ (u3 : Value).ownBlock ∧ k_ ≠ g) k_ from fun k_ hk => ⟨(Nat.le_trans (keep_size (w:=w) (g:=g) (row:=none) (Up.Kp0 HK)) hk),Kd.fresh' (Kd.N_lt (Up.Nup HO_3)) k_ hk,IsS79.fresh (Ip0 HI0) k_ hk⟩) _ (Nat.le_refl _)) (Below.refl _ _) (Nat.le_refl _) (by simp) ?_;(case hd => rfl);(case hg => rfl);(case hr => first | (go_simp;done) | (go_simp;rfl));(case hp => exact (Reps.one (show Kd.FK (Kd.slice 81 k81) _ _ x5_2 [.slice Ao82 x5_2.length co82] from (Kd.FK_slice_mk (Kd.V_reads' (Kd.V_mono (ok':=(fun k_ => (w.heap.size ≤ k_) ∧ some k_ ≠ (u3 : Value).ownBlock ∧ k_ ≠ g)) (HO_5.out) (fun k_ hk => ⟨hk.1,⟨hk.2.1,hk.2.2⟩⟩))).2.1 (Kd.V_F (Kd.V_mono (ok':=(fun k_ => (w.heap.size ≤ k_) ∧ some k_ ≠ (u3 : Value).ownBlock ∧ k_ ≠ g)) (HO_5.out) (fun k_ hk => ⟨hk.1,⟨hk.2.1,hk.2.2⟩⟩))))) (Reps.none _ _)));intro v218 w83 ho84 hb hg_ hnew_;clear hg_ hnew_;(first | rw [← Ny217.out] at ho84 | (simp only [Int.reduceToNat] at ho84;rw [← Ny217.out] at ho84));have n0_:=Aside0.mk (Kd.N_elder' (Up.Nup HO_3) (Kd.N_base ho84) hb);have n1_:=Aside0.mk (Kd.V_elder' (Up.Vup HO_5) (Kd.N_base ho84) hb);have n2_:=Aside0.mk (Kd.N_lower ho84 (keep_size (w:=w) (g:=g) (row:=none) (Up.Kp0 HK)));have n3_:=Aside0.mk (IsS79.below (Ip0 HI0) hb);have n4_:=Aside0.mk (KeepBut.trans (Up.Kp0 HK) (KeepBut.of_below hb g none) (.inl rfl));have n5_:=Aside0.mk (below_step (Up.Bs HB (IsS79.ge HI0.out)) hb);clear HO_3 HO_5 HI0 HK HB;have HO_3:=n0_;have HO_5:=n1_;have HO219:=n2_;have HI0:=n3_;have HK:=n4_;have HB:=n5_;clear n0_ n1_ n2_ n3_ n4_ n5_ hb ho84;obtain ⟨Ao86,co86,eo86⟩:=Kd.N_slice HO219.out;subst eo86) | ((with_reducible refine gate_builtin (b:=.append) (xs:=#[.tmp 50,.tmp 52]) rfl ?_);at_builtin;refine Kd.N_append_rows (Kd.slice 81 k81) w.heap.size rfl (.tmp 50) (.tmp 52) 23 66 (.slice none 0 0) 24 rfl Tryd.underlying23 info66 rfl (by decide) (by omega) u3 x3_1 y217 _ _ _ (fun k_ => (w.heap.size ≤ k_) ∧ k_ ≠ g) (fun k_ => ((fun k_ => (w.heap.size ≤ k_) ∧ k_ ≠ g)) k_ ∧ some k_ ≠ (u3 : Value).ownBlock) rfl rfl ?aO ?aR (fun _ hk => hk) ?aF (Below.refl _ _) ?aS ?aL ?_;(case aR => exact (by skip;exact Kd.N_F (Kd.N_mono (ok':=(fun k_ => ((fun k_ => (w.heap.size ≤ k_) ∧ k_ ≠ g)) k_ ∧ some k_ ≠ (u3 : Value).ownBlock)) (HO219.out) (fun k_ hk => ⟨⟨hk.1,hk.2.2⟩,hk.2.1⟩))));(case aF => exact (fun k_ hk => ⟨(Nat.le_trans (keep_size (w:=w) (g:=g) (row:=none) (Up.Kp0 HK)) hk),IsS79.fresh (Ip0 HI0) k_ hk⟩));(case aO => exact (Up.Nq (Kd.N_mono HO_3.out (fun _ hk => ⟨hk.1.1,hk.1.2⟩))));(case aS => exact (keep_size (w:=w) (g:=g) (row:=none) (Up.Kp0 HK)));(case aL => have:=LMc81.out;omega);intro v221 w85 ho hb hg hat;rw [← Ny220.out] at ho;have n0_:=Aside0.mk (Kd.V_afterv (ok:=(fun k_ => (w.heap.size ≤ k_) ∧ some k_ ≠ (.slice Ao86 y217.length co86 : Value).ownBlock ∧ k_ ≠ g)) (Up.Vq (Kd.V_mono HO_5.out (fun _ hk => ⟨⟨hk.1.1,⟨hk.2,hk.1.2.2⟩⟩,hk.1.2.1⟩))) hg hat);have n1_:=Aside0.mk (IsS79.grown (Ip0 HI0) hg (IsS79.own_neN HI0.out HO_3.out (by decide)));have n2_:=Aside0.mk (Kd.N_afterv (ok:=(fun k_ => (w.heap.size ≤ k_) ∧ k_ ≠ g)) (Up.Nq (Kd.N_mono HO219.out (fun _ hk => ⟨⟨hk.1,hk.2.2⟩,hk.2.1⟩))) hg hat);have n3_:=Aside0.mk (below_weaken (Up.Bs HB (IsS79.ge HI0.out)) HL.out hb);have n4_:=Aside0.mk (KeepBut.trans (Up.Kp0 HK) (KeepBut.of_grown hg g) (Kd.N_base2 HO_3.out));have n5_:=Aside0.mk (ho);clear HO_5 HI0 HO219 HB HK HO_3;have HO_5:=n0_;have HI0:=n1_;have HO219:=n2_;have HB:=n3_;have HK:=n4_;have HO222:=n5_;clear n0_ n1_ n2_ n3_ n4_ n5_ ho hb hg hat))
        go_roundg k2
        case measure => have:=HK1.out;have:=HK2.out;omega
        case rel => exact ⟨(y220),(wrap64 (x4_1 - 1)),(x1001_2),(by first | rfl | (simp;done) | (simp [*];done)),H',⟨by have:=HK1.out;have:=HK2.out;omega⟩,⟨Up.Nup HO222⟩,⟨by repeat (first | (with_reducible first | exact HI0.out | apply IsS79.alloc | apply IsS79.drewN | apply IsS79.drew | apply IsS79.set_1) | exact HI0.out)⟩,⟨by repeat (first | (with_reducible first | exact HK.out | apply KeepBut.set_ | apply keep_drewN | apply keep_drew | apply keep_alloc) | exact HK.out)⟩,⟨by repeat (first | (with_reducible first | exact HB.out | apply below_alloc | apply pw_below_drewN | apply below_drew1 | refine below_set ?_ (IsS79.ge HI0.out)) | exact HB.out)⟩⟩
       ·rw [if_neg c81] at H
        exact absurd H (by simp)
   ·rw [if_neg c6] at H
    have c6b0 : decide (0 < x4_1) = false:=decide_eq_false c6
    clear c6
    simp only [Option.some.injEq,Prod.mk.injEq] at H
    obtain ⟨rfl,rfl⟩:=H
    go_wp2
    go_ret
    exact ⟨_,by first | rfl | (simp [errW_none,errW_some] <;> rfl) | (simp [*,errW_none,errW_some] <;> rfl),by (with_reducible repeat (first | apply Kd.N_alloc | apply Kd.N_drewN | apply Kd.N_drew));exact Kd.N_mono HO_3.out (fun _ hk => hk.1),by repeat (first | (with_reducible first | exact HI0.out | apply IsS79.alloc | apply IsS79.drewN | apply IsS79.drew | apply IsS79.set_1) | exact HI0.out),by repeat (first | (with_reducible first | exact HB.out | apply below_alloc | apply pw_below_drewN | apply below_drew1 | refine below_set ?_ (IsS79.ge HI0.out)) | exact HB.out),by repeat (first | (with_reducible first | exact HK.out | apply KeepBut.set_ | apply keep_drewN | apply keep_drew | apply keep_alloc) | exact HK.out)⟩

end Go.Proofs.YtdgmlakgnbmbbaaDoor.OFnValueOk
