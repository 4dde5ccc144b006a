-- Laid by a program of this session (wip/myprint.py): the kit's print of the functions, contracts of our own among them.
import Derived.Test.YtdgmlakgnbmbbaaOFnExactVaultsOkx0
import Derived.Test.YtdgmlakgnbmbbaaOFnExactVaultsOkx12
namespace Go.Proofs.Ytdgmlakgnbmbbaa.OFnExactVaultsOk
open Go.RowKit Go.Proofs.YtdgmlakgnbmbbaaW.PrintWords Go.Proofs.YtdgmlakgnbmbbaaW.PrintLast Go.Proofs.YtdgmlakgnbmbbaaW.PrintMore
attribute [local go_sem] max2_int min2_int max_two min_two max_three min_three max_four min_four   -- for this text's walks alone
set_option linter.unusedVariables false
set_option linter.unusedSimpArgs false

/-! ### laws_toKeptS: function 31 -/
def laws_toKeptS.l0 : Nat → List (S96) → List (S55) → Int → Option ((List (S55)))
 | 0,_,_,_ => none
 | k + 1,x0,x3,x4 => if x4 < (x0.length : Int) then (if 0 ≤ x4 then ((laws_toKept.f k ((rd_T96 x0 x4).f0) ((rd_T96 x0 x4).f1.f0) ((rd_T96 x0 x4).f1.f1) ((rd_T96 x0 x4).f1.f2) ((rd_T96 x0 x4).f1.f3)).bind fun bt328 => (if x4 < (x3.length : Int) then (laws_toKeptS.l0 k x0 (x3.set (x4 : Int).toNat (⟨bt328.1,(⟨bt328.2.1,bt328.2.2.1,bt328.2.2.2.1,bt328.2.2.2.2⟩ : S27)⟩ : S55)) (wrap64 (x4 + 1))) else (none))) else (none)) else (some x3)
def laws_toKeptS.f (k : Nat) (l0 : List (S96)) : Option ((List (S55))):=if 0 ≤ (l0.length : Int) then (if ((l0.length : Int) : Int).toNat ≤ 3518437208883 then (laws_toKeptS.l0 k l0 (List.replicate ((l0.length : Int) : Int).toNat z55) 0) else (none)) else (none)
theorem laws_toKeptS.mono_l : ∀ k,(∀ y0 y1 y2,LeO (laws_toKeptS.l0 k y0 y1 y2) (laws_toKeptS.l0 (k + 1) y0 y1 y2))
 | 0 => fun _ _ _ r h => by simp [laws_toKeptS.l0] at h
 | k + 1 => by
  have ih0:=laws_toKeptS.mono_l k
  ·intro y0 y1 y2
   unfold laws_toKeptS.l0
   repeat' first
   | (with_reducible exact ih0 _ _ _)
   | (with_reducible exact laws_toKept.mono _ _ _ _ _ _)
   | (with_reducible exact LeO.refl _)
   | (with_reducible exact LeO.none _)
   | (with_reducible refine LeO.ite ?_ ?_)
   | (with_reducible refine LeO.bind ?_ (fun _ => ?_))
   | exact ih0 _ _ _
   | exact laws_toKept.mono _ _ _ _ _ _
   | exact LeO.none _
   | refine LeO.ite ?_ ?_
   | refine LeO.bind ?_ (fun _ => ?_)
theorem laws_toKeptS.mono : ∀ a0 k,LeO (laws_toKeptS.f k a0) (laws_toKeptS.f (k + 1) a0):=by
 intro a0 k
 have ih0:=laws_toKeptS.mono_l k
 unfold laws_toKeptS.f
 repeat' first
   | (with_reducible exact ih0 _ _ _)
   | (with_reducible exact laws_toKept.mono _ _ _ _ _ _)
   | (with_reducible exact LeO.refl _)
   | (with_reducible exact LeO.none _)
   | (with_reducible refine LeO.ite ?_ ?_)
   | (with_reducible refine LeO.bind ?_ (fun _ => ?_))
   | exact ih0 _ _ _
   | exact laws_toKept.mono _ _ _ _ _ _
   | exact LeO.none _
   | refine LeO.ite ?_ ?_
   | refine LeO.bind ?_ (fun _ => ?_)
set_option maxHeartbeats 8000000 in
set_option maxRecDepth 100000 in
theorem laws_toKeptS.calls (k : Nat) (A0 : Option Addr) (c0 : Nat) (l0 : List (S96)) (r : List (S55)) (w : World) (hr0 : Kd.C k96 w A0 l0.length l0) (hc0 : l0.length ≤ c0) (h : laws_toKeptS.f k l0 = some r) :
  Calls Try.prog 31 #[.slice A0 l0.length c0] w fun e w' => ∃ v0_ : Value,e = .returned (v0_) ∧ Kd.R k55 55 w' w.heap.size (fun _ => True) v0_ r ∧ Below w.heap.size w w':=by
 have hu96:=Try.underlying96
 have hu55:=Try.underlying55
 have HR0:=Aside0.mk hr0
 have HC0:=Aside0.mk hc0
 clear hr0 hc0
 have HB:=Aside0.mk (Below.refl w.heap.size w)
 have H : (if 0 ≤ (l0.length : Int) then (if ((l0.length : Int) : Int).toNat ≤ 3518437208883 then (laws_toKeptS.l0 k l0 (List.replicate ((l0.length : Int) : Int).toNat z55) 0) else (none)) else (none)) = some r:=h
 clear h
 by_cases c2 : 0 ≤ (l0.length : Int)
 ·rw [if_pos c2] at H
  have c2b0:=eq_true c2
  have c2b1 : decide (0 ≤ (l0.length : Int)) = true:=decide_eq_true c2
  clear c2
  by_cases c3 : ((l0.length : Int) : Int).toNat ≤ 3518437208883
  ·rw [if_pos c3] at H
   have c3b0:=eq_true c3
   have c3b1 : decide (((l0.length : Int) : Int).toNat ≤ 3518437208883) = true:=decide_eq_true c3
   clear c3
   obtain ⟨y324,hy324⟩ : ∃ y_ : List (S55),y_ = (List.replicate ((l0.length : Int) : Int).toNat z55):=⟨_,rfl⟩
   replace H : (laws_toKeptS.l0 k l0 y324 0) = some r:=by first | (rw [hy324];with_reducible exact H) | (have H2_:=(Option.bind_some _ _).symm.trans H;rw [hy324];with_reducible exact H2_) | (have H2_:=(Option.bind_some _ _).symm.trans H;with_reducible exact H2_) | with_reducible exact H | (rw [hy324];exact H) | exact H
   have Ny324:=Aside0.mk hy324
   clear hy324
   have H':=Aside0.mk H
   clear H
   go_enter Try.func31,Try.ntmps31
   go_wp2_with (first | ((with_reducible refine gate_dst (N:=7) rfl ?_);refine Kd.R_make k55 _ 55 rfl (N:=7) rfl 48 _ _ rfl (l0.length : Int) rfl rfl Try.underlying48 (.agg #[(.int .i64 0),(.string ⟨#[]⟩),(.int .i64 0),(.slice none 0 0),(.slice none 0 0)]) 80 info55 rfl (by decide) (by omega) z55 (ok:=fun _ => True) (okp:=fun _ => True) (k55_mkM _ _ _ z55 (Kd.R_nil _ _ _ _ _) (Kd.R_nil _ _ _ _ _)) (fun _ hk => hk) trivial (Up.od) (Nat.le_trans (Nat.mul_le_mul_right _ (Up.od : (l0.length : Int).toNat ≤ 3518437208883)) (by omega)) (Below.refl _ _) (Nat.le_refl _) ?_;intro v325 w4 ho5 hb hg_ hnew_;clear hg_ hnew_;(first | rw [← Ny324.out] at ho5 | (simp only [Int.reduceToNat] at ho5;rw [← Ny324.out] at ho5));have n0_:=Aside0.mk (Kd.R_lower ho5 (below_size (Up.Bup HB)));have n1_:=Up.BB HB hb;clear HB;have HO326:=n0_;have HB:=n1_;clear n0_ n1_ hb ho5))
   go_loopg [4] k (fun kq v4 w' => ∃ (x3_1 : List (S55)) (x4_1 : Int),v4 = .int .i64 x4_1 ∧ Aside0 (laws_toKeptS.l0 kq l0 x3_1 x4_1 = some r) ∧ Aside0 (kq ≤ k) ∧ Aside0 (Kd.R k55 55 w' w.heap.size (fun _ => True) v325 x3_1) ∧ Aside0 (Below w.heap.size w w'))
   case atStart => exact ⟨(y324),(0),(by first | rfl | (simp;done) | (simp [*];done)),H',⟨Nat.le_refl _⟩,⟨Up.Rup HO326⟩,⟨Up.Bup HB⟩⟩
   case round =>
    clear H'
    try clear c2
    try clear c2b0
    try clear c2b1
    try clear p2
    try clear c3
    try clear c3b0
    try clear c3b1
    obtain ⟨x3_1,x4_1,rfl,HA,HK1,HO_3,HB⟩:=hrel
    cases gk with
    | zero => exact absurd HA.out (by simp [laws_toKeptS.l0])
    | succ k1 =>
     have H:=HA.out
     clear HA
     simp only [laws_toKeptS.l0] at H
     by_cases c6 : x4_1 < (l0.length : Int)
     ·rw [if_pos c6] at H
      have c6b0 : decide (x4_1 < (l0.length : Int)) = true:=decide_eq_true c6
      clear c6
      by_cases c7 : 0 ≤ x4_1
      ·rw [if_pos c7] at H
       have c7b0 : decide (0 ≤ x4_1) = true:=decide_eq_true c7
       clear c7
       replace H:=Option.bind_eq_some_iff.mp H
       obtain ⟨⟨t328,t329,t330,t331,t334⟩,A80,H⟩:=H
       replace H : (if x4_1 < (x3_1.length : Int) then (laws_toKeptS.l0 k1 l0 (x3_1.set (x4_1 : Int).toNat (⟨t328,(⟨t329,t330,t331,t334⟩ : S27)⟩ : S55)) (wrap64 (x4_1 + 1))) else (none)) = some r:=H
       have A8:=Aside0.mk A80
       clear A80
       by_cases c9 : x4_1 < (x3_1.length : Int)
       ·rw [if_pos c9] at H
        have c9b0 : decide (x4_1 < (x3_1.length : Int)) = true:=decide_eq_true c9
        clear c9
        obtain ⟨y337,hy337⟩ : ∃ y_ : List (S55),y_ = (x3_1.set (x4_1 : Int).toNat (⟨t328,(⟨t329,t330,t331,t334⟩ : S27)⟩ : S55)):=⟨_,rfl⟩
        replace H : (laws_toKeptS.l0 k1 l0 y337 (wrap64 (x4_1 + 1))) = some r:=by first | (rw [hy337];with_reducible exact H) | (have H2_:=(Option.bind_some _ _).symm.trans H;rw [hy337];with_reducible exact H2_) | (have H2_:=(Option.bind_some _ _).symm.trans H;with_reducible exact H2_) | with_reducible exact H | (rw [hy337];exact H) | exact H
        have Ny337:=Aside0.mk hy337
        clear hy337
        have H':=Aside0.mk H
        clear H
        have p327 : 0 ≤ (x4_1 : Int):=Up.od
        have q327 : x4_1 < (l0.length : Int):=Up.od
        obtain ⟨ad327,A327_3,c327_3,A327_4,c327_4,e327,hx327_0,hx327_1,hx327_2,hx327_3,hx327_4,hl327_3,hi327_3,hl327_4,hi327_4⟩:=at_T96 HR0.out x4_1 p327 q327
        cases e327
        replace hx327_0:=Up.hc HB hx327_0
        replace hx327_1:=Up.hc HB hx327_1
        replace hx327_2:=Up.hc HB hx327_2
        replace hx327_3:=Up.hc HB hx327_3
        replace hx327_4:=Up.hc HB hx327_4
        have HR327_3:=Aside0.mk hi327_3
        have HC327_3:=Aside0.mk hl327_3
        clear hi327_3 hl327_3
        have HR327_4:=Aside0.mk hi327_4
        have HC327_4:=Aside0.mk hl327_4
        clear hi327_4 hl327_4
        replace p327:=eq_true p327
        replace q327:=eq_true q327
        go_wp2_with (first | ((with_reducible refine gate_callee (f:=74) rfl ?_);refine Up.gl (some 20) Try.func74 #[.agg #[.int .i64 ((rd_T96 l0 x4_1).f0),.string ((rd_T96 l0 x4_1).f1.f0),.int .i64 ((rd_T96 l0 x4_1).f1.f1),.slice A327_3 ((rd_T96 l0 x4_1).f1.f2).length c327_3,.slice A327_4 ((rd_T96 l0 x4_1).f1.f3).length c327_4]] ?_;(with_reducible refine (laws_toKept.calls k1 ((rd_T96 l0 x4_1).f0) ((rd_T96 l0 x4_1).f1.f0) ((rd_T96 l0 x4_1).f1.f1) _ _ ((rd_T96 l0 x4_1).f1.f2) _ _ ((rd_T96 l0 x4_1).f1.f3) t328 t329 t330 t331 t334 _ ?side1 ?side2 ?side3 ?side4 A8.out).mono ?_);(case side1 => exact Up.Cx HR327_3 HB);(case side2 => exact HC327_3.out);(case side3 => exact Up.Cx HR327_4 HB);(case side4 => exact HC327_4.out);rintro e w11 ⟨v332,v335,rfl,ho0,ho1,hb⟩;refine ⟨_,rfl,?_⟩;have n0_:=Aside0.mk (Kd.R_mono (Kd.R_told (Kd.R_told (Kd.R_old (Up.Rup HO_3) hb) (Kd.R_base ho0)) (Kd.R_base ho1)) (fun _ h_ => h_.1));have n1_:=Aside0.mk (Kd.R_lower ho0 (below_size (Up.Bup HB)));have n2_:=Aside0.mk (Kd.R_lower ho1 (below_size (Up.Bup HB)));have n3_:=Up.BB HB hb;clear HO_3 HB;have HO_3:=n0_;have HO333:=n1_;have HO336:=n2_;have HB:=n3_;clear n0_ n1_ n2_ n3_;(try clear hb);(try clear hb2);(try clear hk);(try clear hi);(try clear ho0);(try clear ho1);(have hsvv332_ : ∀ (a_ : Addr) (m_ : Mode) (W_ : World),(Go.store a_ v332 m_).run Try.prog W_ = stored Try.prog W_ a_ v332 m_:=fun a_ m_ W_ => run_store _ W_ a_ _ m_ (by first | (obtain ⟨_,_,e_⟩:=Kd.R_slice HO333.out;rw [e_];rfl) | (obtain ⟨_,_,e_⟩:=Kd.R_slice (Kd.S_R HO333.out);rw [e_];rfl)));(have hcvv332_ : (v332 : Value).cells = #[v332]:=(by first | (obtain ⟨_,_,e_⟩:=Kd.R_slice HO333.out;rw [e_];rfl) | (obtain ⟨_,_,e_⟩:=Kd.R_slice (Kd.S_R HO333.out);rw [e_];rfl)));(have hsvv335_ : ∀ (a_ : Addr) (m_ : Mode) (W_ : World),(Go.store a_ v335 m_).run Try.prog W_ = stored Try.prog W_ a_ v335 m_:=fun a_ m_ W_ => run_store _ W_ a_ _ m_ (by first | (obtain ⟨_,_,e_⟩:=Kd.R_slice HO336.out;rw [e_];rfl) | (obtain ⟨_,_,e_⟩:=Kd.R_slice (Kd.S_R HO336.out);rw [e_];rfl)));(have hcvv335_ : (v335 : Value).cells = #[v335]:=(by first | (obtain ⟨_,_,e_⟩:=Kd.R_slice HO336.out;rw [e_];rfl) | (obtain ⟨_,_,e_⟩:=Kd.R_slice (Kd.S_R HO336.out);rw [e_];rfl)));have p10 : 0 ≤ (x4_1 : Int):=Up.od;have q10 : (x4_1 : Int) < ((x3_1.length : Int) : Int):=Up.od;obtain ⟨go10,co10,eo10,gb10,gl10,cl10,HG10⟩:=Kd.R_form HO_3.out (by omega);(first | cases eo10 | (injection eo10 with ea_ en_ ec_;(first | subst ea_ | (injection ea_ with ea_;subst ea_));subst ec_;clear en_));have GB10:=Aside0.mk gb10;have GG10:=Aside0.mk HG10;clear gb10 gl10 HG10;obtain ⟨ce10,hcl10,hM10,hcc10,hfr10⟩:=Kd.R_elem HO_3.out z55 (x4_1 : Int) p10 q10;obtain ⟨ve10_3,ve10_4,rfl,ge10_3,ge10_4⟩:=k55_openM hM10;have hx10_0 : w11.cell? ⟨go10,(x4_1 : Int).toNat * 5,none⟩ = some (.int .i64 ((rd_T55 x3_1 x4_1).f0)):=hcc10 0 _ rfl;have hx10_1 : w11.cell? ⟨go10,(x4_1 : Int).toNat * 5 + 1,none⟩ = some (.string ((rd_T55 x3_1 x4_1).f1.f0)):=hcc10 1 _ rfl;have hx10_2 : w11.cell? ⟨go10,(x4_1 : Int).toNat * 5 + 2,none⟩ = some (.int .i64 ((rd_T55 x3_1 x4_1).f1.f1)):=hcc10 2 _ rfl;have hx10_3 : w11.cell? ⟨go10,(x4_1 : Int).toNat * 5 + 3,none⟩ = some (ve10_3):=hcc10 3 _ rfl;have hx10_4 : w11.cell? ⟨go10,(x4_1 : Int).toNat * 5 + 4,none⟩ = some (ve10_4):=hcc10 4 _ rfl;have hf10_0 : w11.frozen? ⟨go10,(x4_1 : Int).toNat * 5,none⟩ = false:=hfr10 0;have hf10_1 : w11.frozen? ⟨go10,(x4_1 : Int).toNat * 5 + 1,none⟩ = false:=hfr10 1;have hf10_2 : w11.frozen? ⟨go10,(x4_1 : Int).toNat * 5 + 2,none⟩ = false:=hfr10 2;have hf10_3 : w11.frozen? ⟨go10,(x4_1 : Int).toNat * 5 + 3,none⟩ = false:=hfr10 3;have hf10_4 : w11.frozen? ⟨go10,(x4_1 : Int).toNat * 5 + 4,none⟩ = false:=hfr10 4;clear hcl10 hcc10 hfr10 hM10;replace p10:=eq_true p10;replace q10:=eq_true q10;have n_:=Aside0.mk (Kd.R_mono (ok':=(fun k_ => some k_ ≠ (v332 : Value).ownBlock ∧ some k_ ≠ (v335 : Value).ownBlock)) HO_3.out (fun k_ hk => ⟨hk.1.2,hk.2⟩));clear HO_3;have HO_3:=n_;clear n_;have HX12:=Aside0.mk (show Kd.R k55 55 w11 w.heap.size (fun _ => True) (.slice (some ⟨go10,0,none⟩) x3_1.length co10) x3_1 from (Up.Rq (Kd.R_mono HO_3.out (fun _ hk => trivial))));obtain ⟨ce12,hcl12,hM12,hcc12,hfr12⟩:=Kd.R_elem HX12.out z55 (x4_1 : Int) (Up.od) (by have h_ : (x4_1 : Int) < ((x3_1.length : Int) : Int):=Up.od;first | exact h_ | (have e_:=(Kd.R_reads' HO_3.out).1;omega) | simpa using h_);obtain ⟨ve12_3,ve12_4,rfl,ge12_3,ge12_4⟩:=k55_openM hM12;have HP12:=Kd.R_seg HX12.out (x4_1 : Int) (Up.od) (by have h_ : (x4_1 : Int) < ((x3_1.length : Int) : Int):=Up.od;first | exact h_ | (have e_:=(Kd.R_reads' HO_3.out).1;omega) | simpa using h_) (seg:=[.int .i64 t328,.string t329,.int .i64 t330,v332,v335]) (j:=0) hcl12 hcc12 (show 5 ≤ 5 from by decide) (x':=(⟨t328,(⟨t329,t330,t331,t334⟩ : S27)⟩ : S55)) (k55_mkM _ _ _ (⟨t328,(⟨t329,t330,t331,t334⟩ : S27)⟩ : S55) (Kd.R_mono (Kd.R_apart' (HO333.out) (Kd.R_typed HO_3.out) (by decide)) (fun k_ hk => ⟨trivial,fun e_ => (hk.2) (by rw [e_];rfl)⟩)) (Kd.R_mono (Kd.R_apart' (HO336.out) (Kd.R_typed HO_3.out) (by decide)) (fun k_ hk => ⟨trivial,fun e_ => (hk.2) (by rw [e_];rfl)⟩))) (fun _ hk => hk);have hx12_0:=hcc12 0 _ rfl;(try simp only [show (k55).sz = 5 from rfl,Nat.mul_one,Nat.add_zero] at hx12_0);have hf12_0:=hfr12 0;(try simp only [show (k55).sz = 5 from rfl,Nat.mul_one,Nat.add_zero] at hf12_0);have hx12_1:=hcc12 1 _ rfl;(try simp only [show (k55).sz = 5 from rfl,Nat.mul_one,Nat.add_zero] at hx12_1);have hf12_1:=hfr12 1;(try simp only [show (k55).sz = 5 from rfl,Nat.mul_one,Nat.add_zero] at hf12_1);have hx12_2:=hcc12 2 _ rfl;(try simp only [show (k55).sz = 5 from rfl,Nat.mul_one,Nat.add_zero] at hx12_2);have hf12_2:=hfr12 2;(try simp only [show (k55).sz = 5 from rfl,Nat.mul_one,Nat.add_zero] at hf12_2);have hx12_3:=hcc12 3 _ rfl;(try simp only [show (k55).sz = 5 from rfl,Nat.mul_one,Nat.add_zero] at hx12_3);have hf12_3:=hfr12 3;(try simp only [show (k55).sz = 5 from rfl,Nat.mul_one,Nat.add_zero] at hf12_3);have hx12_4:=hcc12 4 _ rfl;(try simp only [show (k55).sz = 5 from rfl,Nat.mul_one,Nat.add_zero] at hx12_4);have hf12_4:=hfr12 4;(try simp only [show (k55).sz = 5 from rfl,Nat.mul_one,Nat.add_zero] at hf12_4);clear hcl12 hcc12 hfr12 hM12) | ((with_reducible refine gate_store (t:=55) (p:=21) rfl ?_);refine store_event (t:=55) (p:=21) (v:=?vo_w13) (w1:=(((((w11.setCell ⟨go10,(x4_1 : Int).toNat * 5,none⟩ (.int .i64 t328)).setCell ⟨go10,(x4_1 : Int).toNat * 5 + 1,none⟩ (.string t329)).setCell ⟨go10,(x4_1 : Int).toNat * 5 + 2,none⟩ (.int .i64 t330)).setCell ⟨go10,(x4_1 : Int).toNat * 5 + 3,none⟩ (v332)).setCell ⟨go10,(x4_1 : Int).toNat * 5 + 4,none⟩ (v335))) ?hg ?ho ?hn ?hr ?_;(case ho => rfl);(case hg => rfl);(case hn => rfl);(case hr => first | (go_simp;done) | (go_simp;rfl));intro w13 hw;have hg : w11.grownBy w13 (some go10):=(by rw [hw];exact HP12.2);have hp_ : Kd.R k55 55 w13 w.heap.size (fun _ => True) (.slice (some ⟨go10,0,none⟩) x3_1.length co10) y337:=(by rw [hw,Ny337.out];exact HP12.1);clear HP12;have n0_:=Aside0.mk (hp_);have n1_:=Aside0.mk ((by rw [hw];exact below_set (below_set (below_set (below_set (below_set (HB.out) GB10.out) GB10.out) GB10.out) GB10.out) GB10.out : Below w.heap.size w w13));clear HO_3 HB HO333 HO336;have HO_3:=n0_;have HB:=n1_;clear n0_ n1_ hg hw hp_))
        go_roundg k1
        case measure => have:=HK1.out;omega
        case rel => exact ⟨(y337),(wrap64 (x4_1 + 1)),(by first | rfl | (simp;done) | (simp [*];done)),H',⟨by have:=HK1.out;omega⟩,⟨Up.Rup HO_3⟩,⟨Up.Bup HB⟩⟩
       ·rw [if_neg c9] at H
        exact absurd H (by simp)
      ·rw [if_neg c7] at H
       exact absurd H (by simp)
     ·rw [if_neg c6] at H
      have c6b0 : decide (x4_1 < (l0.length : Int)) = false:=decide_eq_false c6
      clear c6
      obtain rfl:=Option.some.inj H
      go_wp2
      go_ret
      exact ⟨_,by first | rfl | (simp [errW_none,errW_some] <;> rfl) | (simp [*,errW_none,errW_some] <;> rfl),Up.Rup HO_3,Up.Bup HB⟩
  ·rw [if_neg c3] at H
   exact absurd H (by simp)
 ·rw [if_neg c2] at H
  exact absurd H (by simp)

-- told with loop.example/heirlooms/laws.eqValue

/-! ### laws_eqIntS: function 63 -/
def laws_eqIntS.l0 : Nat → List Int → List Int → Int → Option (Bool)
 | 0,_,_,_ => none
 | k + 1,x0,x1,x5 => if x5 < (x0.length : Int) then (if 0 ≤ x5 then (if x5 < (x1.length : Int) then (if (rd x0 x5) = (rd x1 x5) then (laws_eqIntS.l0 k x0 x1 (wrap64 (x5 + 1))) else (some false)) else (none)) else (none)) else (some true)
def laws_eqIntS.f (k : Nat) (l0 : List Int) (l1 : List Int) : Option (Bool):=if (l0.length : Int) = (l1.length : Int) then (laws_eqIntS.l0 k l0 l1 0) else (some false)
theorem laws_eqIntS.mono_l : ∀ k,(∀ y0 y1 y2,LeO (laws_eqIntS.l0 k y0 y1 y2) (laws_eqIntS.l0 (k + 1) y0 y1 y2))
 | 0 => fun _ _ _ r h => by simp [laws_eqIntS.l0] at h
 | k + 1 => by
  have ih0:=laws_eqIntS.mono_l k
  ·intro y0 y1 y2
   unfold laws_eqIntS.l0
   repeat' first
   | (with_reducible exact ih0 _ _ _)
   | (with_reducible exact LeO.refl _)
   | (with_reducible exact LeO.none _)
   | (with_reducible refine LeO.ite ?_ ?_)
   | (with_reducible refine LeO.bind ?_ (fun _ => ?_))
   | exact ih0 _ _ _
   | exact LeO.none _
   | refine LeO.ite ?_ ?_
   | refine LeO.bind ?_ (fun _ => ?_)
theorem laws_eqIntS.mono : ∀ a0 a1 k,LeO (laws_eqIntS.f k a0 a1) (laws_eqIntS.f (k + 1) a0 a1):=by
 intro a0 a1 k
 have ih0:=laws_eqIntS.mono_l k
 unfold laws_eqIntS.f
 repeat' first
   | (with_reducible exact ih0 _ _ _)
   | (with_reducible exact LeO.refl _)
   | (with_reducible exact LeO.none _)
   | (with_reducible refine LeO.ite ?_ ?_)
   | (with_reducible refine LeO.bind ?_ (fun _ => ?_))
   | exact ih0 _ _ _
   | exact LeO.none _
   | refine LeO.ite ?_ ?_
   | refine LeO.bind ?_ (fun _ => ?_)
set_option maxHeartbeats 8000000 in
set_option maxRecDepth 100000 in
theorem laws_eqIntS.calls (k : Nat) (A0 : Option Addr) (c0 : Nat) (l0 : List Int) (A1 : Option Addr) (c1 : Nat) (l1 : List Int) (r : Bool) (w : World) (hr0 : Kd.C (Kd.int .i64) w A0 l0.length l0) (hc0 : l0.length ≤ c0) (hr1 : Kd.C (Kd.int .i64) w A1 l1.length l1) (hc1 : l1.length ≤ c1) (h : laws_eqIntS.f k l0 l1 = some r) :
  Calls Try.prog 63 #[.slice A0 l0.length c0,.slice A1 l1.length c1] w fun e w' => e = .returned (.bool r) ∧ Drawn0 w w':=by
 have HR0:=Aside0.mk hr0
 have HC0:=Aside0.mk hc0
 clear hr0 hc0
 have HR1:=Aside0.mk hr1
 have HC1:=Aside0.mk hc1
 clear hr1 hc1
 have H : (if (l0.length : Int) = (l1.length : Int) then (laws_eqIntS.l0 k l0 l1 0) else (some false)) = some r:=h
 clear h
 by_cases c3 : (l0.length : Int) = (l1.length : Int)
 ·rw [if_pos c3] at H
  have c3b0 : ((l0.length : Int) == (l1.length : Int)) = true:=beq_iff_eq.mpr c3
  have c3b1 : ((l0.length : Int) != (l1.length : Int)) = false:=bne_eq_false_iff_eq.mpr c3
  have c3b2 : (l0.length == l1.length) = true:=by first | simpa using c3 | (simp at c3 ⊢;omega)
  clear c3
  have H':=Aside0.mk H
  clear H
  go_enter Try.func63,Try.ntmps63
  go_wp2
  repeat (go_quiet (fail);try go_wp2)
  go_loopg [5] k (fun kq v5 w' => ∃ (x5_1 : Int),v5 = .int .i64 x5_1 ∧ Aside0 (laws_eqIntS.l0 kq l0 l1 x5_1 = some r) ∧ Aside0 (kq ≤ k) ∧ Drawn0 w w')
  case atStart => exact ⟨(0),(by first | rfl | (simp;done) | (simp [*];done)),H',⟨Nat.le_refl _⟩,by repeat (first | exact Drawn0.refl _ | apply Drawn0.step)⟩
  case round =>
   clear H'
   try clear c1
   try clear p2
   try clear c3
   try clear c3b0
   try clear c3b1
   try clear c3b2
   obtain ⟨x5_1,rfl,HA,HK1,⟨m1,rfl⟩⟩:=hrel
   cases gk with
   | zero => exact absurd HA.out (by simp [laws_eqIntS.l0])
   | succ k1 =>
    have H:=HA.out
    clear HA
    simp only [laws_eqIntS.l0] at H
    by_cases c4 : x5_1 < (l0.length : Int)
    ·rw [if_pos c4] at H
     have c4b0 : decide (x5_1 < (l0.length : Int)) = true:=decide_eq_true c4
     clear c4
     by_cases c5 : 0 ≤ x5_1
     ·rw [if_pos c5] at H
      have c5b0 : decide (0 ≤ x5_1) = true:=decide_eq_true c5
      clear c5
      by_cases c6 : x5_1 < (l1.length : Int)
      ·rw [if_pos c6] at H
       have c6b0 : decide (x5_1 < (l1.length : Int)) = true:=decide_eq_true c6
       clear c6
       by_cases c7 : (rd l0 x5_1) = (rd l1 x5_1)
       ·rw [if_pos c7] at H
        have c7b0 : ((rd l0 x5_1) == (rd l1 x5_1)) = true:=beq_iff_eq.mpr c7
        have c7b1 : ((rd l0 x5_1) != (rd l1 x5_1)) = false:=bne_eq_false_iff_eq.mpr c7
        clear c7
        have H':=Aside0.mk H
        clear H
        have p341 : 0 ≤ (x5_1 : Int):=Up.od
        have q341 : x5_1 < (l0.length : Int):=Up.od
        obtain ⟨ad341,e341,hx341_0⟩:=Kd.at_int HR0.out x5_1 p341 q341
        cases e341
        replace p341:=eq_true p341
        replace q341:=eq_true q341
        have p342 : 0 ≤ (x5_1 : Int):=Up.od
        have q342 : x5_1 < (l1.length : Int):=Up.od
        obtain ⟨ad342,e342,hx342_0⟩:=Kd.at_int HR1.out x5_1 p342 q342
        cases e342
        replace p342:=eq_true p342
        replace q342:=eq_true q342
        go_wp2
        repeat (go_quiet (fail);try go_wp2)
        go_roundg k1
        case measure => have:=HK1.out;omega
        case rel => exact ⟨(wrap64 (x5_1 + 1)),(by first | rfl | (simp;done) | (simp [*];done)),H',⟨by have:=HK1.out;omega⟩,by repeat (first | exact Drawn0.refl _ | apply Drawn0.step)⟩
       ·rw [if_neg c7] at H
        have c7b0 : ((rd l0 x5_1) == (rd l1 x5_1)) = false:=beq_eq_false_iff_ne.mpr c7
        have c7b1 : ((rd l0 x5_1) != (rd l1 x5_1)) = true:=bne_iff_ne.mpr c7
        obtain rfl:=Option.some.inj H
        have p341 : 0 ≤ (x5_1 : Int):=Up.od
        have q341 : x5_1 < (l0.length : Int):=Up.od
        obtain ⟨ad341,e341,hx341_0⟩:=Kd.at_int HR0.out x5_1 p341 q341
        cases e341
        replace p341:=eq_true p341
        replace q341:=eq_true q341
        have p342 : 0 ≤ (x5_1 : Int):=Up.od
        have q342 : x5_1 < (l1.length : Int):=Up.od
        obtain ⟨ad342,e342,hx342_0⟩:=Kd.at_int HR1.out x5_1 p342 q342
        cases e342
        replace p342:=eq_true p342
        replace q342:=eq_true q342
        go_wp2
        repeat (go_quiet (fail);try go_wp2)
        go_ret
        exact Up.e2
      ·rw [if_neg c6] at H
       exact absurd H (by simp)
     ·rw [if_neg c5] at H
      exact absurd H (by simp)
    ·rw [if_neg c4] at H
     have c4b0 : decide (x5_1 < (l0.length : Int)) = false:=decide_eq_false c4
     clear c4
     obtain rfl:=Option.some.inj H
     go_wp2
     repeat (go_quiet (fail);try go_wp2)
     go_ret
     exact Up.e2
 ·rw [if_neg c3] at H
  have c3b0 : ((l0.length : Int) == (l1.length : Int)) = false:=beq_eq_false_iff_ne.mpr c3
  have c3b1 : ((l0.length : Int) != (l1.length : Int)) = true:=bne_iff_ne.mpr c3
  have c3b2 : (l0.length == l1.length) = false:=by first | simpa using c3 | (simp at c3 ⊢;omega)
  obtain rfl:=Option.some.inj H
  go_enter Try.func63,Try.ntmps63
  go_wp2
  repeat (go_quiet (fail);try go_wp2)
  go_ret
  exact Up.e2

/-! ### laws_eqValueS: function 62 -/
def laws_eqValueS.l0 : Nat → List (S27) → List (S27) → Int → Option (Bool)
 | 0,_,_,_ => none
 | k + 1,x0,x1,x5 => if x5 < (x0.length : Int) then (if 0 ≤ x5 then (if x5 < (x1.length : Int) then (((fun (a0_0 : ByteArray) (a0_1 : Int) (l0_2 : List (S27)) (l0_3 : List Int) (a1_0 : ByteArray) (a1_1 : Int) (l1_2 : List (S27)) (l1_3 : List Int) => if a0_0.toList = a1_0.toList then (if a0_1 = a1_1 then (((fun (l0 : List (S27)) (l1 : List (S27)) => if (l0.length : Int) = (l1.length : Int) then (laws_eqValueS.l0 k l0 l1 0) else (some false)) l0_2 l1_2).bind fun t345 => (if t345 = true then ((laws_eqIntS.f k l0_3 l1_3).bind fun t346 => (if t346 = true then (some true) else (some false))) else (some false))) else (some false)) else (some false)) ((rd_T27 x0 x5).f0) ((rd_T27 x0 x5).f1) ((rd_T27 x0 x5).f2) ((rd_T27 x0 x5).f3) ((rd_T27 x1 x5).f0) ((rd_T27 x1 x5).f1) ((rd_T27 x1 x5).f2) ((rd_T27 x1 x5).f3)).bind fun t340 => (if t340 = true then (laws_eqValueS.l0 k x0 x1 (wrap64 (x5 + 1))) else (some false))) else (none)) else (none)) else (some true)
def laws_eqValueS.f (k : Nat) (l0 : List (S27)) (l1 : List (S27)) : Option (Bool):=if (l0.length : Int) = (l1.length : Int) then (laws_eqValueS.l0 k l0 l1 0) else (some false)
def laws_eqValue.f (k : Nat) (a0_0 : ByteArray) (a0_1 : Int) (l0_2 : List (S27)) (l0_3 : List Int) (a1_0 : ByteArray) (a1_1 : Int) (l1_2 : List (S27)) (l1_3 : List Int) : Option (Bool):=if a0_0.toList = a1_0.toList then (if a0_1 = a1_1 then ((laws_eqValueS.f k l0_2 l1_2).bind fun t345 => (if t345 = true then ((laws_eqIntS.f k l0_3 l1_3).bind fun t346 => (if t346 = true then (some true) else (some false))) else (some false))) else (some false)) else (some false)
theorem laws_eqValueS.l0_eq (k : Nat) (x0 : List (S27)) (x1 : List (S27)) (x5 : Int) : laws_eqValueS.l0 (k + 1) x0 x1 x5 = if x5 < (x0.length : Int) then (if 0 ≤ x5 then (if x5 < (x1.length : Int) then ((laws_eqValue.f k ((rd_T27 x0 x5).f0) ((rd_T27 x0 x5).f1) ((rd_T27 x0 x5).f2) ((rd_T27 x0 x5).f3) ((rd_T27 x1 x5).f0) ((rd_T27 x1 x5).f1) ((rd_T27 x1 x5).f2) ((rd_T27 x1 x5).f3)).bind fun t340 => (if t340 = true then (laws_eqValueS.l0 k x0 x1 (wrap64 (x5 + 1))) else (some false))) else (none)) else (none)) else (some true):=rfl
theorem laws_eqValueS.mono_l : ∀ k,(∀ y0 y1 y2,LeO (laws_eqValueS.l0 k y0 y1 y2) (laws_eqValueS.l0 (k + 1) y0 y1 y2))
 | 0 => fun _ _ _ r h => by simp [laws_eqValueS.l0] at h
 | k + 1 => by
  have ih0:=laws_eqValueS.mono_l k
  ·intro y0 y1 y2
   unfold laws_eqValueS.l0
   dsimp only
   repeat' first
   | (with_reducible exact ih0 _ _ _)
   | (with_reducible exact laws_eqIntS.mono _ _ _)
   | exact laws_eqIntS.mono _ _ _
   | (with_reducible exact LeO.refl _)
   | (with_reducible exact LeO.none _)
   | (with_reducible refine LeO.ite ?_ ?_)
   | (with_reducible refine LeO.bind ?_ (fun _ => ?_))
   | exact ih0 _ _ _
   | exact LeO.none _
   | refine LeO.ite ?_ ?_
   | refine LeO.bind ?_ (fun _ => ?_)
theorem laws_eqValueS.mono : ∀ a0 a1 k,LeO (laws_eqValueS.f k a0 a1) (laws_eqValueS.f (k + 1) a0 a1):=by
 intro a0 a1 k
 have ih0:=laws_eqValueS.mono_l k
 unfold laws_eqValueS.f
 repeat' first
   | (with_reducible exact ih0 _ _ _)
   | (with_reducible exact laws_eqIntS.mono _ _ _)
   | exact laws_eqIntS.mono _ _ _
   | (with_reducible exact LeO.refl _)
   | (with_reducible exact LeO.none _)
   | (with_reducible refine LeO.ite ?_ ?_)
   | (with_reducible refine LeO.bind ?_ (fun _ => ?_))
   | exact ih0 _ _ _
   | exact LeO.none _
   | refine LeO.ite ?_ ?_
   | refine LeO.bind ?_ (fun _ => ?_)
def laws_eqValueS.T6 : Bool × List (List Nat × List Nat):=(true,[([],[]),([],[]),([0,1],[0,1]),([2],[2]),([],[]),([],[]),([4,5],[4,5]),([6],[6]),([3,7],[3,7]),([8],[8])])
def laws_eqValueS.B6 : List Nat:=[0,0,3,7,0,0,48,112,255,511]
theorem laws_eqValueS.tab6 : rtab .any (opsOf Try.f62 6) = laws_eqValueS.T6:=by kernel_rfl
theorem laws_eqValueS.bits6 : waitsOk laws_eqValueS.T6.2 laws_eqValueS.B6 = true:=by kernel_rfl
theorem laws_eqValue.mono : ∀ a0 a1 a2 a3 a4 a5 a6 a7 k,LeO (laws_eqValue.f k a0 a1 a2 a3 a4 a5 a6 a7) (laws_eqValue.f (k + 1) a0 a1 a2 a3 a4 a5 a6 a7):=by
 intro a0 a1 a2 a3 a4 a5 a6 a7 k
 unfold laws_eqValue.f
 repeat' first
   | (with_reducible exact laws_eqIntS.mono _ _ _)
   | (with_reducible exact laws_eqValueS.mono _ _ _)
   | (with_reducible exact LeO.refl _)
   | (with_reducible exact LeO.none _)
   | (with_reducible refine LeO.ite ?_ ?_)
   | (with_reducible refine LeO.bind ?_ (fun _ => ?_))
   | exact laws_eqIntS.mono _ _ _
   | exact laws_eqValueS.mono _ _ _
   | exact LeO.none _
   | refine LeO.ite ?_ ?_
   | refine LeO.bind ?_ (fun _ => ?_)
/-! ### of laws_eqValue: function 24 -/
set_option maxHeartbeats 8000000 in
set_option maxRecDepth 100000 in
theorem laws_eqValue.calls_of (k : Nat) (hS_ : ∀ (A0 : Option Addr) (c0 : Nat) (l0 : List (S27)) (A1 : Option Addr) (c1 : Nat) (l1 : List (S27)) (r : Bool) (w : World) (hr0 : Kd.C k27 w A0 l0.length l0) (hc0 : l0.length ≤ c0) (hr1 : Kd.C k27 w A1 l1.length l1) (hc1 : l1.length ≤ c1) (h : laws_eqValueS.f k l0 l1 = some r),Calls Try.prog 62 #[.slice A0 l0.length c0,.slice A1 l1.length c1] w fun e w' => e = .returned (.bool r) ∧ Below w.heap.size w w') (a0_0 : ByteArray) (a0_1 : Int) (A0_2 : Option Addr) (c0_2 : Nat) (l0_2 : List (S27)) (A0_3 : Option Addr) (c0_3 : Nat) (l0_3 : List Int) (a1_0 : ByteArray) (a1_1 : Int) (A1_2 : Option Addr) (c1_2 : Nat) (l1_2 : List (S27)) (A1_3 : Option Addr) (c1_3 : Nat) (l1_3 : List Int) (r : Bool) (w : World) (hr0_2 : Kd.C k27 w A0_2 l0_2.length l0_2) (hc0_2 : l0_2.length ≤ c0_2) (hr0_3 : Kd.C (Kd.int .i64) w A0_3 l0_3.length l0_3) (hc0_3 : l0_3.length ≤ c0_3) (hr1_2 : Kd.C k27 w A1_2 l1_2.length l1_2) (hc1_2 : l1_2.length ≤ c1_2) (hr1_3 : Kd.C (Kd.int .i64) w A1_3 l1_3.length l1_3) (hc1_3 : l1_3.length ≤ c1_3) (h : laws_eqValue.f k a0_0 a0_1 l0_2 l0_3 a1_0 a1_1 l1_2 l1_3 = some r) :
  Calls Try.prog 24 #[.agg #[.string a0_0,.int .i64 a0_1,.slice A0_2 l0_2.length c0_2,.slice A0_3 l0_3.length c0_3],.agg #[.string a1_0,.int .i64 a1_1,.slice A1_2 l1_2.length c1_2,.slice A1_3 l1_3.length c1_3]] w fun e w' => e = .returned (.bool r) ∧ Below w.heap.size w w':=by
 have hu27:=Try.underlying27
 have HR0_2:=Aside0.mk hr0_2
 have HC0_2:=Aside0.mk hc0_2
 clear hr0_2 hc0_2
 have HR0_3:=Aside0.mk hr0_3
 have HC0_3:=Aside0.mk hc0_3
 clear hr0_3 hc0_3
 have HR1_2:=Aside0.mk hr1_2
 have HC1_2:=Aside0.mk hc1_2
 clear hr1_2 hc1_2
 have HR1_3:=Aside0.mk hr1_3
 have HC1_3:=Aside0.mk hc1_3
 clear hr1_3 hc1_3
 have HB:=Aside0.mk (Below.refl w.heap.size w)
 have H : (if a0_0.toList = a1_0.toList then (if a0_1 = a1_1 then ((laws_eqValueS.f k l0_2 l1_2).bind fun t345 => (if t345 = true then ((laws_eqIntS.f k l0_3 l1_3).bind fun t346 => (if t346 = true then (some true) else (some false))) else (some false))) else (some false)) else (some false)) = some r:=h
 clear h
 by_cases c3 : a0_0.toList = a1_0.toList
 ·rw [if_pos c3] at H
  have c3b0 : (a0_0.toList == a1_0.toList) = true:=beq_iff_eq.mpr c3
  have c3b1 : (a0_0.toList != a1_0.toList) = false:=bne_eq_false_iff_eq.mpr c3
  clear c3
  by_cases c4 : a0_1 = a1_1
  ·rw [if_pos c4] at H
   have c4b0 : (a0_1 == a1_1) = true:=beq_iff_eq.mpr c4
   have c4b1 : (a0_1 != a1_1) = false:=bne_eq_false_iff_eq.mpr c4
   clear c4
   replace H:=Option.bind_eq_some_iff.mp H
   obtain ⟨t345,A50,H⟩:=H
   replace H : (if t345 = true then ((laws_eqIntS.f k l0_3 l1_3).bind fun t346 => (if t346 = true then (some true) else (some false))) else (some false)) = some r:=H
   have A5:=Aside0.mk A50
   clear A50
   by_cases c6 : t345 = true
   ·subst c6
    have H1 : ((laws_eqIntS.f k l0_3 l1_3).bind fun t346 => (if t346 = true then (some true) else (some false))) = some r:=by rw [if_pos rfl] at H;exact H
    clear H
    have H:=H1
    clear H1
    replace H:=Option.bind_eq_some_iff.mp H
    obtain ⟨t346,A70,H⟩:=H
    replace H : (if t346 = true then (some true) else (some false)) = some r:=H
    have A7:=Aside0.mk A70
    clear A70
    by_cases c8 : t346 = true
    ·subst c8
     have H1 : (some true) = some r:=by rw [if_pos rfl] at H;exact H
     clear H
     have H:=H1
     clear H1
     obtain rfl:=Option.some.inj H
     go_enter Try.func24,Try.ntmps24
     go_wp2_with (first | ((with_reducible refine gate_dst (N:=2) rfl ?_);refine Up.bx 2 27 #[.string a0_0,.int .i64 a0_1,.slice A0_2 l0_2.length c0_2,.slice A0_3 l0_3.length c0_3] ?_;intro gb343 hg w9 hbox hb;have n0_:=Up.BB HB hb;have n1_:=Aside0.mk (hbox);have n2_:=Up.gw hg HB;have n3_:=Up.gw hg HB;clear HB;have HB:=n0_;have BK343:=n1_;have GW343:=n2_;have GE343:=n3_;clear n0_ n1_ n2_ n3_ hb hbox hg) | ((with_reducible refine gate_dst (N:=3) rfl ?_);refine Up.bx 3 27 #[.string a1_0,.int .i64 a1_1,.slice A1_2 l1_2.length c1_2,.slice A1_3 l1_3.length c1_3] ?_;intro gb344 hg w10 hbox hb;have n0_:=Up.KB BK343 hb;have n1_:=Aside0.mk (below_step (Up.Bx HB) hb);have n2_:=Aside0.mk (hbox);have n3_:=Up.gw hg HB;have n4_:=Up.gw hg HB;have n5_:=Up.nl hg BK343;have n6_:=Up.ng hg BK343;clear BK343 HB;have BK343:=n0_;have HB:=n1_;have BK344:=n2_;have GW344:=n3_;have GE344:=n4_;have NB343_344:=n5_;have NB344_343:=n6_;clear n0_ n1_ n2_ n3_ n4_ n5_ n6_ hb hbox hg;have hnb11:=NB343_344.out;have hnc11:=NB344_343.out;have hcz12_0:=Up.c0 BK343;have hcz12_1:=Up.c1 BK343;have hcz12_2:=Up.c2 BK343;have hcz12_3:=Up.c3 BK343;have hfz12_0:=blk_frozen BK343.out 0;have hfz12_1:=blk_frozen BK343.out 1;have hfz12_2:=blk_frozen BK343.out 2;have hfz12_3:=blk_frozen BK343.out 3;have hcz13_0:=Up.c0 BK344;have hcz13_1:=Up.c1 BK344;have hcz13_2:=Up.c2 BK344;have hcz13_3:=Up.c3 BK344;have hfz13_0:=blk_frozen BK344.out 0;have hfz13_1:=blk_frozen BK344.out 1;have hfz13_2:=blk_frozen BK344.out 2;have hfz13_3:=blk_frozen BK344.out 3) | ((with_reducible refine gate_callee (f:=62) rfl ?_);refine Up.gl (some 19) Try.func62 #[.slice A0_2 l0_2.length c0_2,.slice A1_2 l1_2.length c1_2] ?_;(with_reducible refine (hS_ _ _ l0_2 _ _ l1_2 true _ ?side1 ?side2 ?side3 ?side4 A5.out).mono ?_);(case side1 => exact Up.Cx HR0_2 HB);(case side2 => exact HC0_2.out);(case side3 => exact Up.Cx HR1_2 HB);(case side4 => exact HC1_2.out);rintro e w14 ⟨rfl,hb⟩;refine ⟨_,rfl,?_⟩;have n0_:=Up.KB BK343 hb;have n1_:=Up.KB BK344 hb;have n2_:=Aside0.mk (below_step (Up.Bx HB) hb);clear BK343 BK344 HB;have BK343:=n0_;have BK344:=n1_;have HB:=n2_;clear n0_ n1_ n2_;(try clear hb);(try clear hb2);(try clear hk);(try clear hi);have hcz15_0:=Up.c0 BK343;have hcz15_1:=Up.c1 BK343;have hcz15_2:=Up.c2 BK343;have hcz15_3:=Up.c3 BK343;have hfz15_0:=blk_frozen BK343.out 0;have hfz15_1:=blk_frozen BK343.out 1;have hfz15_2:=blk_frozen BK343.out 2;have hfz15_3:=blk_frozen BK343.out 3;have hcz16_0:=Up.c0 BK344;have hcz16_1:=Up.c1 BK344;have hcz16_2:=Up.c2 BK344;have hcz16_3:=Up.c3 BK344;have hfz16_0:=blk_frozen BK344.out 0;have hfz16_1:=blk_frozen BK344.out 1;have hfz16_2:=blk_frozen BK344.out 2;have hfz16_3:=blk_frozen BK344.out 3) | ((with_reducible refine gate_callee (f:=63) rfl ?_);refine Up.gl (some 25) Try.func63 #[.slice A0_3 l0_3.length c0_3,.slice A1_3 l1_3.length c1_3] ?_;(with_reducible refine (laws_eqIntS.calls k _ _ l0_3 _ _ l1_3 true _ ?side1 ?side2 ?side3 ?side4 A7.out).mono ?_);(case side1 => exact Up.Cx HR0_3 HB);(case side2 => exact HC0_3.out);(case side3 => exact Up.Cx HR1_3 HB);(case side4 => exact HC1_3.out);rintro e w' ⟨rfl,⟨nd,rfl⟩⟩;refine ⟨_,rfl,?_⟩))
     go_ret
     exact Up.e1 (Up.Bx HB)
    ·replace c8:=Bool.eq_false_iff.mpr c8
     subst c8
     have H1 : (some false) = some r:=by rw [if_neg (show ¬ (false = true) by decide)] at H;exact H
     clear H
     have H:=H1
     clear H1
     obtain rfl:=Option.some.inj H
     go_enter Try.func24,Try.ntmps24
     go_wp2_with (first | ((with_reducible refine gate_dst (N:=2) rfl ?_);refine Up.bx 2 27 #[.string a0_0,.int .i64 a0_1,.slice A0_2 l0_2.length c0_2,.slice A0_3 l0_3.length c0_3] ?_;intro gb343 hg w17 hbox hb;have n0_:=Up.BB HB hb;have n1_:=Aside0.mk (hbox);have n2_:=Up.gw hg HB;have n3_:=Up.gw hg HB;clear HB;have HB:=n0_;have BK343:=n1_;have GW343:=n2_;have GE343:=n3_;clear n0_ n1_ n2_ n3_ hb hbox hg) | ((with_reducible refine gate_dst (N:=3) rfl ?_);refine Up.bx 3 27 #[.string a1_0,.int .i64 a1_1,.slice A1_2 l1_2.length c1_2,.slice A1_3 l1_3.length c1_3] ?_;intro gb344 hg w18 hbox hb;have n0_:=Up.KB BK343 hb;have n1_:=Aside0.mk (below_step (Up.Bx HB) hb);have n2_:=Aside0.mk (hbox);have n3_:=Up.gw hg HB;have n4_:=Up.gw hg HB;have n5_:=Up.nl hg BK343;have n6_:=Up.ng hg BK343;clear BK343 HB;have BK343:=n0_;have HB:=n1_;have BK344:=n2_;have GW344:=n3_;have GE344:=n4_;have NB343_344:=n5_;have NB344_343:=n6_;clear n0_ n1_ n2_ n3_ n4_ n5_ n6_ hb hbox hg;have hnb19:=NB343_344.out;have hnc19:=NB344_343.out;have hcz20_0:=Up.c0 BK343;have hcz20_1:=Up.c1 BK343;have hcz20_2:=Up.c2 BK343;have hcz20_3:=Up.c3 BK343;have hfz20_0:=blk_frozen BK343.out 0;have hfz20_1:=blk_frozen BK343.out 1;have hfz20_2:=blk_frozen BK343.out 2;have hfz20_3:=blk_frozen BK343.out 3;have hcz21_0:=Up.c0 BK344;have hcz21_1:=Up.c1 BK344;have hcz21_2:=Up.c2 BK344;have hcz21_3:=Up.c3 BK344;have hfz21_0:=blk_frozen BK344.out 0;have hfz21_1:=blk_frozen BK344.out 1;have hfz21_2:=blk_frozen BK344.out 2;have hfz21_3:=blk_frozen BK344.out 3) | ((with_reducible refine gate_callee (f:=62) rfl ?_);refine Up.gl (some 19) Try.func62 #[.slice A0_2 l0_2.length c0_2,.slice A1_2 l1_2.length c1_2] ?_;(with_reducible refine (hS_ _ _ l0_2 _ _ l1_2 true _ ?side1 ?side2 ?side3 ?side4 A5.out).mono ?_);(case side1 => exact Up.Cx HR0_2 HB);(case side2 => exact HC0_2.out);(case side3 => exact Up.Cx HR1_2 HB);(case side4 => exact HC1_2.out);rintro e w22 ⟨rfl,hb⟩;refine ⟨_,rfl,?_⟩;have n0_:=Up.KB BK343 hb;have n1_:=Up.KB BK344 hb;have n2_:=Aside0.mk (below_step (Up.Bx HB) hb);clear BK343 BK344 HB;have BK343:=n0_;have BK344:=n1_;have HB:=n2_;clear n0_ n1_ n2_;(try clear hb);(try clear hb2);(try clear hk);(try clear hi);have hcz23_0:=Up.c0 BK343;have hcz23_1:=Up.c1 BK343;have hcz23_2:=Up.c2 BK343;have hcz23_3:=Up.c3 BK343;have hfz23_0:=blk_frozen BK343.out 0;have hfz23_1:=blk_frozen BK343.out 1;have hfz23_2:=blk_frozen BK343.out 2;have hfz23_3:=blk_frozen BK343.out 3;have hcz24_0:=Up.c0 BK344;have hcz24_1:=Up.c1 BK344;have hcz24_2:=Up.c2 BK344;have hcz24_3:=Up.c3 BK344;have hfz24_0:=blk_frozen BK344.out 0;have hfz24_1:=blk_frozen BK344.out 1;have hfz24_2:=blk_frozen BK344.out 2;have hfz24_3:=blk_frozen BK344.out 3) | ((with_reducible refine gate_callee (f:=63) rfl ?_);refine Up.gl (some 25) Try.func63 #[.slice A0_3 l0_3.length c0_3,.slice A1_3 l1_3.length c1_3] ?_;(with_reducible refine (laws_eqIntS.calls k _ _ l0_3 _ _ l1_3 false _ ?side1 ?side2 ?side3 ?side4 A7.out).mono ?_);(case side1 => exact Up.Cx HR0_3 HB);(case side2 => exact HC0_3.out);(case side3 => exact Up.Cx HR1_3 HB);(case side4 => exact HC1_3.out);rintro e w' ⟨rfl,⟨nd,rfl⟩⟩;refine ⟨_,rfl,?_⟩))
     go_ret
     exact Up.e1 (Up.Bx HB)
   ·replace c6:=Bool.eq_false_iff.mpr c6
    subst c6
    have H1 : (some false) = some r:=by rw [if_neg (show ¬ (false = true) by decide)] at H;exact H
    clear H
    have H:=H1
    clear H1
    obtain rfl:=Option.some.inj H
    go_enter Try.func24,Try.ntmps24
    go_wp2_with (first | ((with_reducible refine gate_dst (N:=2) rfl ?_);refine Up.bx 2 27 #[.string a0_0,.int .i64 a0_1,.slice A0_2 l0_2.length c0_2,.slice A0_3 l0_3.length c0_3] ?_;intro gb343 hg w25 hbox hb;have n0_:=Up.BB HB hb;have n1_:=Aside0.mk (hbox);have n2_:=Up.gw hg HB;have n3_:=Up.gw hg HB;clear HB;have HB:=n0_;have BK343:=n1_;have GW343:=n2_;have GE343:=n3_;clear n0_ n1_ n2_ n3_ hb hbox hg) | ((with_reducible refine gate_dst (N:=3) rfl ?_);refine Up.bx 3 27 #[.string a1_0,.int .i64 a1_1,.slice A1_2 l1_2.length c1_2,.slice A1_3 l1_3.length c1_3] ?_;intro gb344 hg w26 hbox hb;have n0_:=Up.KB BK343 hb;have n1_:=Aside0.mk (below_step (Up.Bx HB) hb);have n2_:=Aside0.mk (hbox);have n3_:=Up.gw hg HB;have n4_:=Up.gw hg HB;have n5_:=Up.nl hg BK343;have n6_:=Up.ng hg BK343;clear BK343 HB;have BK343:=n0_;have HB:=n1_;have BK344:=n2_;have GW344:=n3_;have GE344:=n4_;have NB343_344:=n5_;have NB344_343:=n6_;clear n0_ n1_ n2_ n3_ n4_ n5_ n6_ hb hbox hg;have hnb27:=NB343_344.out;have hnc27:=NB344_343.out;have hcz28_0:=Up.c0 BK343;have hcz28_1:=Up.c1 BK343;have hcz28_2:=Up.c2 BK343;have hcz28_3:=Up.c3 BK343;have hfz28_0:=blk_frozen BK343.out 0;have hfz28_1:=blk_frozen BK343.out 1;have hfz28_2:=blk_frozen BK343.out 2;have hfz28_3:=blk_frozen BK343.out 3;have hcz29_0:=Up.c0 BK344;have hcz29_1:=Up.c1 BK344;have hcz29_2:=Up.c2 BK344;have hcz29_3:=Up.c3 BK344;have hfz29_0:=blk_frozen BK344.out 0;have hfz29_1:=blk_frozen BK344.out 1;have hfz29_2:=blk_frozen BK344.out 2;have hfz29_3:=blk_frozen BK344.out 3) | ((with_reducible refine gate_callee (f:=62) rfl ?_);refine Up.gl (some 19) Try.func62 #[.slice A0_2 l0_2.length c0_2,.slice A1_2 l1_2.length c1_2] ?_;(with_reducible refine (hS_ _ _ l0_2 _ _ l1_2 false _ ?side1 ?side2 ?side3 ?side4 A5.out).mono ?_);(case side1 => exact Up.Cx HR0_2 HB);(case side2 => exact HC0_2.out);(case side3 => exact Up.Cx HR1_2 HB);(case side4 => exact HC1_2.out);rintro e w30 ⟨rfl,hb⟩;refine ⟨_,rfl,?_⟩;have n0_:=Up.KB BK343 hb;have n1_:=Up.KB BK344 hb;have n2_:=Aside0.mk (below_step (Up.Bx HB) hb);clear BK343 BK344 HB;have BK343:=n0_;have BK344:=n1_;have HB:=n2_;clear n0_ n1_ n2_;(try clear hb);(try clear hb2);(try clear hk);(try clear hi)))
    go_ret
    exact Up.e1 (Up.Bx HB)
  ·rw [if_neg c4] at H
   have c4b0 : (a0_1 == a1_1) = false:=beq_eq_false_iff_ne.mpr c4
   have c4b1 : (a0_1 != a1_1) = true:=bne_iff_ne.mpr c4
   obtain rfl:=Option.some.inj H
   go_enter Try.func24,Try.ntmps24
   go_wp2_with (first | ((with_reducible refine gate_dst (N:=2) rfl ?_);refine Up.bx 2 27 #[.string a0_0,.int .i64 a0_1,.slice A0_2 l0_2.length c0_2,.slice A0_3 l0_3.length c0_3] ?_;intro gb343 hg w31 hbox hb;have n0_:=Up.BB HB hb;have n1_:=Aside0.mk (hbox);have n2_:=Up.gw hg HB;have n3_:=Up.gw hg HB;clear HB;have HB:=n0_;have BK343:=n1_;have GW343:=n2_;have GE343:=n3_;clear n0_ n1_ n2_ n3_ hb hbox hg) | ((with_reducible refine gate_dst (N:=3) rfl ?_);refine Up.bx 3 27 #[.string a1_0,.int .i64 a1_1,.slice A1_2 l1_2.length c1_2,.slice A1_3 l1_3.length c1_3] ?_;intro gb344 hg w32 hbox hb;have n0_:=Up.KB BK343 hb;have n1_:=Aside0.mk (below_step (Up.Bx HB) hb);have n2_:=Aside0.mk (hbox);have n3_:=Up.gw hg HB;have n4_:=Up.gw hg HB;have n5_:=Up.nl hg BK343;have n6_:=Up.ng hg BK343;clear BK343 HB;have BK343:=n0_;have HB:=n1_;have BK344:=n2_;have GW344:=n3_;have GE344:=n4_;have NB343_344:=n5_;have NB344_343:=n6_;clear n0_ n1_ n2_ n3_ n4_ n5_ n6_ hb hbox hg;have hnb33:=NB343_344.out;have hnc33:=NB344_343.out;have hcz34_0:=Up.c0 BK343;have hcz34_1:=Up.c1 BK343;have hcz34_2:=Up.c2 BK343;have hcz34_3:=Up.c3 BK343;have hfz34_0:=blk_frozen BK343.out 0;have hfz34_1:=blk_frozen BK343.out 1;have hfz34_2:=blk_frozen BK343.out 2;have hfz34_3:=blk_frozen BK343.out 3;have hcz35_0:=Up.c0 BK344;have hcz35_1:=Up.c1 BK344;have hcz35_2:=Up.c2 BK344;have hcz35_3:=Up.c3 BK344;have hfz35_0:=blk_frozen BK344.out 0;have hfz35_1:=blk_frozen BK344.out 1;have hfz35_2:=blk_frozen BK344.out 2;have hfz35_3:=blk_frozen BK344.out 3))
   go_ret
   exact Up.e1 (Up.Bx HB)
 ·rw [if_neg c3] at H
  have c3b0 : (a0_0.toList == a1_0.toList) = false:=beq_eq_false_iff_ne.mpr c3
  have c3b1 : (a0_0.toList != a1_0.toList) = true:=bne_iff_ne.mpr c3
  obtain rfl:=Option.some.inj H
  go_enter Try.func24,Try.ntmps24
  go_wp2_with (first | ((with_reducible refine gate_dst (N:=2) rfl ?_);refine Up.bx 2 27 #[.string a0_0,.int .i64 a0_1,.slice A0_2 l0_2.length c0_2,.slice A0_3 l0_3.length c0_3] ?_;intro gb343 hg w36 hbox hb;have n0_:=Up.BB HB hb;have n1_:=Aside0.mk (hbox);have n2_:=Up.gw hg HB;have n3_:=Up.gw hg HB;clear HB;have HB:=n0_;have BK343:=n1_;have GW343:=n2_;have GE343:=n3_;clear n0_ n1_ n2_ n3_ hb hbox hg) | ((with_reducible refine gate_dst (N:=3) rfl ?_);refine Up.bx 3 27 #[.string a1_0,.int .i64 a1_1,.slice A1_2 l1_2.length c1_2,.slice A1_3 l1_3.length c1_3] ?_;intro gb344 hg w37 hbox hb;have n0_:=Up.KB BK343 hb;have n1_:=Aside0.mk (below_step (Up.Bx HB) hb);have n2_:=Aside0.mk (hbox);have n3_:=Up.gw hg HB;have n4_:=Up.gw hg HB;have n5_:=Up.nl hg BK343;have n6_:=Up.ng hg BK343;clear BK343 HB;have BK343:=n0_;have HB:=n1_;have BK344:=n2_;have GW344:=n3_;have GE344:=n4_;have NB343_344:=n5_;have NB344_343:=n6_;clear n0_ n1_ n2_ n3_ n4_ n5_ n6_ hb hbox hg;have hnb38:=NB343_344.out;have hnc38:=NB344_343.out;have hcz39_0:=Up.c0 BK343;have hcz39_1:=Up.c1 BK343;have hcz39_2:=Up.c2 BK343;have hcz39_3:=Up.c3 BK343;have hfz39_0:=blk_frozen BK343.out 0;have hfz39_1:=blk_frozen BK343.out 1;have hfz39_2:=blk_frozen BK343.out 2;have hfz39_3:=blk_frozen BK343.out 3;have hcz40_0:=Up.c0 BK344;have hcz40_1:=Up.c1 BK344;have hcz40_2:=Up.c2 BK344;have hcz40_3:=Up.c3 BK344;have hfz40_0:=blk_frozen BK344.out 0;have hfz40_1:=blk_frozen BK344.out 1;have hfz40_2:=blk_frozen BK344.out 2;have hfz40_3:=blk_frozen BK344.out 3))
  go_ret
  exact Up.e1 (Up.Bx HB)
set_option maxHeartbeats 8000000 in
set_option maxRecDepth 100000 in
theorem laws_eqValueS.calls (k : Nat) : ∀ (A0 : Option Addr) (c0 : Nat) (l0 : List (S27)) (A1 : Option Addr) (c1 : Nat) (l1 : List (S27)) (r : Bool) (w : World) (hr0 : Kd.C k27 w A0 l0.length l0) (hc0 : l0.length ≤ c0) (hr1 : Kd.C k27 w A1 l1.length l1) (hc1 : l1.length ≤ c1) (h : laws_eqValueS.f k l0 l1 = some r),Calls Try.prog 62 #[.slice A0 l0.length c0,.slice A1 l1.length c1] w fun e w' => e = .returned (.bool r) ∧ Below w.heap.size w w':=by
 refine Nat.strongRecOn (motive:=fun k => ∀ (A0 : Option Addr) (c0 : Nat) (l0 : List (S27)) (A1 : Option Addr) (c1 : Nat) (l1 : List (S27)) (r : Bool) (w : World) (hr0 : Kd.C k27 w A0 l0.length l0) (hc0 : l0.length ≤ c0) (hr1 : Kd.C k27 w A1 l1.length l1) (hc1 : l1.length ≤ c1) (h : laws_eqValueS.f k l0 l1 = some r),Calls Try.prog 62 #[.slice A0 l0.length c0,.slice A1 l1.length c1] w fun e w' => e = .returned (.bool r) ∧ Below w.heap.size w w') k (fun k ihS_ => ?_)
 intro A0 c0 l0 A1 c1 l1 r w hr0 hc0 hr1 hc1 h
 have hu27:=Try.underlying27
 have HR0:=Aside0.mk hr0
 have HC0:=Aside0.mk hc0
 clear hr0 hc0
 have HR1:=Aside0.mk hr1
 have HC1:=Aside0.mk hc1
 clear hr1 hc1
 have HB:=Aside0.mk (Below.refl w.heap.size w)
 have H : (if (l0.length : Int) = (l1.length : Int) then (laws_eqValueS.l0 k l0 l1 0) else (some false)) = some r:=h
 clear h
 by_cases c3 : (l0.length : Int) = (l1.length : Int)
 ·rw [if_pos c3] at H
  have c3b0 : ((l0.length : Int) == (l1.length : Int)) = true:=beq_iff_eq.mpr c3
  have c3b1 : ((l0.length : Int) != (l1.length : Int)) = false:=bne_eq_false_iff_eq.mpr c3
  have c3b2 : (l0.length == l1.length) = true:=by first | simpa using c3 | (simp at c3 ⊢;omega)
  clear c3
  have H':=Aside0.mk H
  clear H
  go_enter Try.func62,Try.ntmps62
  go_wp2
  go_loopg [5] k (fun kq v5 w' => ∃ (x5_1 : Int),v5 = .int .i64 x5_1 ∧ Aside0 (laws_eqValueS.l0 kq l0 l1 x5_1 = some r) ∧ Aside0 (kq ≤ k) ∧ Aside0 (Below w.heap.size w w'))
  case atStart => exact ⟨(0),(by first | rfl | (simp;done) | (simp [*];done)),H',⟨Nat.le_refl _⟩,⟨Up.Bup HB⟩⟩
  case round =>
   clear H'
   try clear c1
   try clear p2
   try clear c3
   try clear c3b0
   try clear c3b1
   try clear c3b2
   obtain ⟨x5_1,rfl,HA,HK1,HB⟩:=hrel
   cases gk with
   | zero => exact absurd HA.out (by simp [laws_eqValueS.l0])
   | succ k1 =>
    have H:=HA.out
    clear HA
    simp only [laws_eqValueS.l0_eq] at H
    by_cases c4 : x5_1 < (l0.length : Int)
    ·rw [if_pos c4] at H
     have c4b0 : decide (x5_1 < (l0.length : Int)) = true:=decide_eq_true c4
     clear c4
     by_cases c5 : 0 ≤ x5_1
     ·rw [if_pos c5] at H
      have c5b0 : decide (0 ≤ x5_1) = true:=decide_eq_true c5
      clear c5
      by_cases c6 : x5_1 < (l1.length : Int)
      ·rw [if_pos c6] at H
       have c6b0 : decide (x5_1 < (l1.length : Int)) = true:=decide_eq_true c6
       clear c6
       replace H:=Option.bind_eq_some_iff.mp H
       obtain ⟨t340,A70,H⟩:=H
       replace H : (if t340 = true then (laws_eqValueS.l0 k1 l0 l1 (wrap64 (x5_1 + 1))) else (some false)) = some r:=H
       have A7:=Aside0.mk A70
       clear A70
       by_cases c8 : t340 = true
       ·subst c8
        have H1 : (laws_eqValueS.l0 k1 l0 l1 (wrap64 (x5_1 + 1))) = some r:=by rw [if_pos rfl] at H;exact H
        clear H
        have H:=H1
        clear H1
        have H':=Aside0.mk H
        clear H
        try go_wp2
        have n0_:=Aside0.mk (below_drew1 HB.out)
        clear HB
        have HB:=n0_
        clear n0_
        have p338 : 0 ≤ (x5_1 : Int):=Up.od
        have q338 : x5_1 < (l0.length : Int):=Up.od
        obtain ⟨ad338,A338_2,c338_2,A338_3,c338_3,e338,hx338_0,hx338_1,hx338_2,hx338_3,hl338_2,hi338_2,hl338_3,hi338_3⟩:=at_T27 HR0.out x5_1 p338 q338
        have hw338_3:=hx338_3
        have hw338_2:=hx338_2
        have hw338_1:=hx338_1
        have hw338_0:=hx338_0
        cases e338
        replace hx338_0:=Up.hc HB hx338_0
        replace hx338_1:=Up.hc HB hx338_1
        replace hx338_2:=Up.hc HB hx338_2
        replace hx338_3:=Up.hc HB hx338_3
        have HR338_2:=Aside0.mk hi338_2
        have HC338_2:=Aside0.mk hl338_2
        clear hi338_2 hl338_2
        have HR338_3:=Aside0.mk hi338_3
        have HC338_3:=Aside0.mk hl338_3
        clear hi338_3 hl338_3
        replace p338:=eq_true p338
        replace q338:=eq_true q338
        have p339 : 0 ≤ (x5_1 : Int):=Up.od
        have q339 : x5_1 < (l1.length : Int):=Up.od
        obtain ⟨ad339,A339_2,c339_2,A339_3,c339_3,e339,hx339_0,hx339_1,hx339_2,hx339_3,hl339_2,hi339_2,hl339_3,hi339_3⟩:=at_T27 HR1.out x5_1 p339 q339
        have hw339_3:=hx339_3
        have hw339_2:=hx339_2
        have hw339_1:=hx339_1
        have hw339_0:=hx339_0
        cases e339
        replace hx339_0:=Up.hc HB hx339_0
        replace hx339_1:=Up.hc HB hx339_1
        replace hx339_2:=Up.hc HB hx339_2
        replace hx339_3:=Up.hc HB hx339_3
        have HR339_2:=Aside0.mk hi339_2
        have HC339_2:=Aside0.mk hl339_2
        clear hi339_2 hl339_2
        have HR339_3:=Aside0.mk hi339_3
        have HC339_3:=Aside0.mk hl339_3
        clear hi339_3 hl339_3
        replace p339:=eq_true p339
        replace q339:=eq_true q339
        refine start_ (n:=10) (S:=fun w' => w'.cell? (ad338.add ((x5_1).toNat * 4)) = some (.string ((rd_T27 l0 x5_1).f0)) ∧ w'.cell? ⟨(ad338.add ((x5_1).toNat * 4)).block,(ad338.add ((x5_1).toNat * 4)).off + 1,none⟩ = some (.int .i64 ((rd_T27 l0 x5_1).f1)) ∧ w'.cell? ⟨(ad338.add ((x5_1).toNat * 4)).block,(ad338.add ((x5_1).toNat * 4)).off + 2,none⟩ = some (.slice A338_2 ((rd_T27 l0 x5_1).f2).length c338_2) ∧ w'.cell? ⟨(ad338.add ((x5_1).toNat * 4)).block,(ad338.add ((x5_1).toNat * 4)).off + 3,none⟩ = some (.slice A338_3 ((rd_T27 l0 x5_1).f3).length c338_3) ∧ w'.cell? (ad339.add ((x5_1).toNat * 4)) = some (.string ((rd_T27 l1 x5_1).f0)) ∧ w'.cell? ⟨(ad339.add ((x5_1).toNat * 4)).block,(ad339.add ((x5_1).toNat * 4)).off + 1,none⟩ = some (.int .i64 ((rd_T27 l1 x5_1).f1)) ∧ w'.cell? ⟨(ad339.add ((x5_1).toNat * 4)).block,(ad339.add ((x5_1).toNat * 4)).off + 2,none⟩ = some (.slice A339_2 ((rd_T27 l1 x5_1).f2).length c339_2) ∧ w'.cell? ⟨(ad339.add ((x5_1).toNat * 4)).block,(ad339.add ((x5_1).toNat * 4)).off + 3,none⟩ = some (.slice A339_3 ((rd_T27 l1 x5_1).f3).length c339_3)) (ds:=[]) #[false,false,false,false,false,false,false,false,false,false] (by kernel_rfl) rfl rfl ⟨(Up.hd HB hw338_0),(Up.hd HB hw338_1),(Up.hd HB hw338_2),(Up.hd HB hw338_3),(Up.hd HB hw339_0),(Up.hd HB hw339_1),(Up.hd HB hw339_2),(Up.hd HB hw339_3)⟩ (fun hHeld => ?_);refine with_tabW laws_eqValueS.tab6 laws_eqValueS.bits6 (fun HT_ HW_ => ?_)
        generalize wr.drew = w9 at HB HR338_2 HR338_3 HR339_2 HR339_3 hx338_0 hx338_1 hx338_2 hx338_3 hx339_0 hx339_1 hx339_2 hx339_3 hHeld ⊢
        refine Up.pu 0 (some 17) HT_ ?_
        refine Up.pu 1 (some 18) HT_ ?_
        refine Up.pu 2 (some 19) HT_ ?_
        refine Up.pu 4 (some 21) HT_ ?_
        refine Up.pu 5 (some 22) HT_ ?_
        refine Up.pu 6 (some 23) HT_ ?_
        refine Up.tk 3 (some 20) HT_ HW_ hHeld ?_ (hy:=by rintro w' ⟨s0,s1,s2,s3,s4,s5,s6,s7⟩;go_simp;with_reducible rfl)
        refine Up.tk 7 (some 24) HT_ HW_ hHeld ?_ (hy:=by rintro w' ⟨s0,s1,s2,s3,s4,s5,s6,s7⟩;go_simp;with_reducible rfl)
        refine Up.on 8 (some 25) HT_ (fun K hK => ?_)
        refine Up.go Try.func24 #[.agg #[.string ((rd_T27 l0 x5_1).f0),.int .i64 ((rd_T27 l0 x5_1).f1),.slice A338_2 ((rd_T27 l0 x5_1).f2).length c338_2,.slice A338_3 ((rd_T27 l0 x5_1).f3).length c338_3],.agg #[.string ((rd_T27 l1 x5_1).f0),.int .i64 ((rd_T27 l1 x5_1).f1),.slice A339_2 ((rd_T27 l1 x5_1).f2).length c339_2,.slice A339_3 ((rd_T27 l1 x5_1).f3).length c339_3]] ?_
        with_reducible refine (laws_eqValue.calls_of k1 (ihS_ k1 (by have h_:=HK1.out;omega)) ((rd_T27 l0 x5_1).f0) ((rd_T27 l0 x5_1).f1) _ _ ((rd_T27 l0 x5_1).f2) _ _ ((rd_T27 l0 x5_1).f3) ((rd_T27 l1 x5_1).f0) ((rd_T27 l1 x5_1).f1) _ _ ((rd_T27 l1 x5_1).f2) _ _ ((rd_T27 l1 x5_1).f3) true _ ?side1 ?side2 ?side3 ?side4 ?side5 ?side6 ?side7 ?side8 A7.out).mono ?_
        (case side1 => exact Up.Cx HR338_2 HB)
        (case side2 => exact HC338_2.out)
        (case side3 => exact Up.Cx HR338_3 HB)
        (case side4 => exact HC338_3.out)
        (case side5 => exact Up.Cx HR339_2 HB)
        (case side6 => exact HC339_2.out)
        (case side7 => exact Up.Cx HR339_3 HB)
        (case side8 => exact HC339_3.out)
        rintro e w10 ⟨rfl,hb⟩
        refine ⟨_,rfl,?_⟩
        have n0_:=Up.BB HB hb
        clear HB
        have HB:=n0_
        clear n0_
        (try clear hb)
        (try clear hb2)
        (try clear hk)
        (try clear hi)
        refine hK.out _ _ ⟨(Up.hd HB hw338_0),(Up.hd HB hw338_1),(Up.hd HB hw338_2),(Up.hd HB hw338_3),(Up.hd HB hw339_0),(Up.hd HB hw339_1),(Up.hd HB hw339_2),(Up.hd HB hw339_3)⟩ (fun hHeld => ?_)
        clear hK K
        refine Up.nm 25 ?_
        refine Up.pu 9 (some 26) HT_ ?_
        refine done_ (done_of HT_.out (by kernel_rfl)) ?_
        try go_wp2
        go_roundg k1
        case measure => have:=HK1.out;omega
        case rel => exact ⟨(wrap64 (x5_1 + 1)),(by first | rfl | (simp;done) | (simp [*];done)),H',⟨by have:=HK1.out;omega⟩,⟨Up.Bup HB⟩⟩
       ·replace c8:=Bool.eq_false_iff.mpr c8
        subst c8
        have H1 : (some false) = some r:=by rw [if_neg (show ¬ (false = true) by decide)] at H;exact H
        clear H
        have H:=H1
        clear H1
        obtain rfl:=Option.some.inj H
        try go_wp2
        have n0_:=Aside0.mk (below_drew1 HB.out)
        clear HB
        have HB:=n0_
        clear n0_
        have p338 : 0 ≤ (x5_1 : Int):=Up.od
        have q338 : x5_1 < (l0.length : Int):=Up.od
        obtain ⟨ad338,A338_2,c338_2,A338_3,c338_3,e338,hx338_0,hx338_1,hx338_2,hx338_3,hl338_2,hi338_2,hl338_3,hi338_3⟩:=at_T27 HR0.out x5_1 p338 q338
        have hw338_3:=hx338_3
        have hw338_2:=hx338_2
        have hw338_1:=hx338_1
        have hw338_0:=hx338_0
        cases e338
        replace hx338_0:=Up.hc HB hx338_0
        replace hx338_1:=Up.hc HB hx338_1
        replace hx338_2:=Up.hc HB hx338_2
        replace hx338_3:=Up.hc HB hx338_3
        have HR338_2:=Aside0.mk hi338_2
        have HC338_2:=Aside0.mk hl338_2
        clear hi338_2 hl338_2
        have HR338_3:=Aside0.mk hi338_3
        have HC338_3:=Aside0.mk hl338_3
        clear hi338_3 hl338_3
        replace p338:=eq_true p338
        replace q338:=eq_true q338
        have p339 : 0 ≤ (x5_1 : Int):=Up.od
        have q339 : x5_1 < (l1.length : Int):=Up.od
        obtain ⟨ad339,A339_2,c339_2,A339_3,c339_3,e339,hx339_0,hx339_1,hx339_2,hx339_3,hl339_2,hi339_2,hl339_3,hi339_3⟩:=at_T27 HR1.out x5_1 p339 q339
        have hw339_3:=hx339_3
        have hw339_2:=hx339_2
        have hw339_1:=hx339_1
        have hw339_0:=hx339_0
        cases e339
        replace hx339_0:=Up.hc HB hx339_0
        replace hx339_1:=Up.hc HB hx339_1
        replace hx339_2:=Up.hc HB hx339_2
        replace hx339_3:=Up.hc HB hx339_3
        have HR339_2:=Aside0.mk hi339_2
        have HC339_2:=Aside0.mk hl339_2
        clear hi339_2 hl339_2
        have HR339_3:=Aside0.mk hi339_3
        have HC339_3:=Aside0.mk hl339_3
        clear hi339_3 hl339_3
        replace p339:=eq_true p339
        replace q339:=eq_true q339
        refine start_ (n:=10) (S:=fun w' => w'.cell? (ad338.add ((x5_1).toNat * 4)) = some (.string ((rd_T27 l0 x5_1).f0)) ∧ w'.cell? ⟨(ad338.add ((x5_1).toNat * 4)).block,(ad338.add ((x5_1).toNat * 4)).off + 1,none⟩ = some (.int .i64 ((rd_T27 l0 x5_1).f1)) ∧ w'.cell? ⟨(ad338.add ((x5_1).toNat * 4)).block,(ad338.add ((x5_1).toNat * 4)).off + 2,none⟩ = some (.slice A338_2 ((rd_T27 l0 x5_1).f2).length c338_2) ∧ w'.cell? ⟨(ad338.add ((x5_1).toNat * 4)).block,(ad338.add ((x5_1).toNat * 4)).off + 3,none⟩ = some (.slice A338_3 ((rd_T27 l0 x5_1).f3).length c338_3) ∧ w'.cell? (ad339.add ((x5_1).toNat * 4)) = some (.string ((rd_T27 l1 x5_1).f0)) ∧ w'.cell? ⟨(ad339.add ((x5_1).toNat * 4)).block,(ad339.add ((x5_1).toNat * 4)).off + 1,none⟩ = some (.int .i64 ((rd_T27 l1 x5_1).f1)) ∧ w'.cell? ⟨(ad339.add ((x5_1).toNat * 4)).block,(ad339.add ((x5_1).toNat * 4)).off + 2,none⟩ = some (.slice A339_2 ((rd_T27 l1 x5_1).f2).length c339_2) ∧ w'.cell? ⟨(ad339.add ((x5_1).toNat * 4)).block,(ad339.add ((x5_1).toNat * 4)).off + 3,none⟩ = some (.slice A339_3 ((rd_T27 l1 x5_1).f3).length c339_3)) (ds:=[]) #[false,false,false,false,false,false,false,false,false,false] (by kernel_rfl) rfl rfl ⟨(Up.hd HB hw338_0),(Up.hd HB hw338_1),(Up.hd HB hw338_2),(Up.hd HB hw338_3),(Up.hd HB hw339_0),(Up.hd HB hw339_1),(Up.hd HB hw339_2),(Up.hd HB hw339_3)⟩ (fun hHeld => ?_);refine with_tabW laws_eqValueS.tab6 laws_eqValueS.bits6 (fun HT_ HW_ => ?_)
        generalize wr.drew = w11 at HB HR338_2 HR338_3 HR339_2 HR339_3 hx338_0 hx338_1 hx338_2 hx338_3 hx339_0 hx339_1 hx339_2 hx339_3 hHeld ⊢
        refine Up.pu 0 (some 17) HT_ ?_
        refine Up.pu 1 (some 18) HT_ ?_
        refine Up.pu 2 (some 19) HT_ ?_
        refine Up.pu 4 (some 21) HT_ ?_
        refine Up.pu 5 (some 22) HT_ ?_
        refine Up.pu 6 (some 23) HT_ ?_
        refine Up.tk 3 (some 20) HT_ HW_ hHeld ?_ (hy:=by rintro w' ⟨s0,s1,s2,s3,s4,s5,s6,s7⟩;go_simp;with_reducible rfl)
        refine Up.tk 7 (some 24) HT_ HW_ hHeld ?_ (hy:=by rintro w' ⟨s0,s1,s2,s3,s4,s5,s6,s7⟩;go_simp;with_reducible rfl)
        refine Up.on 8 (some 25) HT_ (fun K hK => ?_)
        refine Up.go Try.func24 #[.agg #[.string ((rd_T27 l0 x5_1).f0),.int .i64 ((rd_T27 l0 x5_1).f1),.slice A338_2 ((rd_T27 l0 x5_1).f2).length c338_2,.slice A338_3 ((rd_T27 l0 x5_1).f3).length c338_3],.agg #[.string ((rd_T27 l1 x5_1).f0),.int .i64 ((rd_T27 l1 x5_1).f1),.slice A339_2 ((rd_T27 l1 x5_1).f2).length c339_2,.slice A339_3 ((rd_T27 l1 x5_1).f3).length c339_3]] ?_
        with_reducible refine (laws_eqValue.calls_of k1 (ihS_ k1 (by have h_:=HK1.out;omega)) ((rd_T27 l0 x5_1).f0) ((rd_T27 l0 x5_1).f1) _ _ ((rd_T27 l0 x5_1).f2) _ _ ((rd_T27 l0 x5_1).f3) ((rd_T27 l1 x5_1).f0) ((rd_T27 l1 x5_1).f1) _ _ ((rd_T27 l1 x5_1).f2) _ _ ((rd_T27 l1 x5_1).f3) false _ ?side1 ?side2 ?side3 ?side4 ?side5 ?side6 ?side7 ?side8 A7.out).mono ?_
        (case side1 => exact Up.Cx HR338_2 HB)
        (case side2 => exact HC338_2.out)
        (case side3 => exact Up.Cx HR338_3 HB)
        (case side4 => exact HC338_3.out)
        (case side5 => exact Up.Cx HR339_2 HB)
        (case side6 => exact HC339_2.out)
        (case side7 => exact Up.Cx HR339_3 HB)
        (case side8 => exact HC339_3.out)
        rintro e w12 ⟨rfl,hb⟩
        refine ⟨_,rfl,?_⟩
        have n0_:=Up.BB HB hb
        clear HB
        have HB:=n0_
        clear n0_
        (try clear hb)
        (try clear hb2)
        (try clear hk)
        (try clear hi)
        refine hK.out _ _ ⟨(Up.hd HB hw338_0),(Up.hd HB hw338_1),(Up.hd HB hw338_2),(Up.hd HB hw338_3),(Up.hd HB hw339_0),(Up.hd HB hw339_1),(Up.hd HB hw339_2),(Up.hd HB hw339_3)⟩ (fun hHeld => ?_)
        clear hK K
        refine Up.nm 25 ?_
        refine Up.pu 9 (some 26) HT_ ?_
        refine done_ (done_of HT_.out (by kernel_rfl)) ?_
        try go_wp2
        go_ret
        exact Up.e1 (Up.Bup HB)
      ·rw [if_neg c6] at H
       exact absurd H (by simp)
     ·rw [if_neg c5] at H
      exact absurd H (by simp)
    ·rw [if_neg c4] at H
     have c4b0 : decide (x5_1 < (l0.length : Int)) = false:=decide_eq_false c4
     clear c4
     obtain rfl:=Option.some.inj H
     go_wp2
     go_ret
     exact Up.e1 (Up.Bup HB)
 ·rw [if_neg c3] at H
  have c3b0 : ((l0.length : Int) == (l1.length : Int)) = false:=beq_eq_false_iff_ne.mpr c3
  have c3b1 : ((l0.length : Int) != (l1.length : Int)) = true:=bne_iff_ne.mpr c3
  have c3b2 : (l0.length == l1.length) = false:=by first | simpa using c3 | (simp at c3 ⊢;omega)
  obtain rfl:=Option.some.inj H
  go_enter Try.func62,Try.ntmps62
  go_wp2
  go_ret
  exact Up.e1 (Up.Bup HB)
theorem laws_eqValue.calls (k : Nat) (a0_0 : ByteArray) (a0_1 : Int) (A0_2 : Option Addr) (c0_2 : Nat) (l0_2 : List (S27)) (A0_3 : Option Addr) (c0_3 : Nat) (l0_3 : List Int) (a1_0 : ByteArray) (a1_1 : Int) (A1_2 : Option Addr) (c1_2 : Nat) (l1_2 : List (S27)) (A1_3 : Option Addr) (c1_3 : Nat) (l1_3 : List Int) (r : Bool) (w : World) (hr0_2 : Kd.C k27 w A0_2 l0_2.length l0_2) (hc0_2 : l0_2.length ≤ c0_2) (hr0_3 : Kd.C (Kd.int .i64) w A0_3 l0_3.length l0_3) (hc0_3 : l0_3.length ≤ c0_3) (hr1_2 : Kd.C k27 w A1_2 l1_2.length l1_2) (hc1_2 : l1_2.length ≤ c1_2) (hr1_3 : Kd.C (Kd.int .i64) w A1_3 l1_3.length l1_3) (hc1_3 : l1_3.length ≤ c1_3) (h : laws_eqValue.f k a0_0 a0_1 l0_2 l0_3 a1_0 a1_1 l1_2 l1_3 = some r) :
  Calls Try.prog 24 #[.agg #[.string a0_0,.int .i64 a0_1,.slice A0_2 l0_2.length c0_2,.slice A0_3 l0_3.length c0_3],.agg #[.string a1_0,.int .i64 a1_1,.slice A1_2 l1_2.length c1_2,.slice A1_3 l1_3.length c1_3]] w fun e w' => e = .returned (.bool r) ∧ Below w.heap.size w w':=laws_eqValue.calls_of k (laws_eqValueS.calls k) a0_0 a0_1 A0_2 c0_2 l0_2 A0_3 c0_3 l0_3 a1_0 a1_1 A1_2 c1_2 l1_2 A1_3 c1_3 l1_3 r w hr0_2 hc0_2 hr0_3 hc0_3 hr1_2 hc1_2 hr1_3 hc1_3 h

/-! ### laws_eqKept: function 75 -/
def laws_eqKept.f (k : Nat) (a0_0 : Int) (a0_1 : ByteArray) (a0_2 : Int) (l0_3 : List (S27)) (l0_4 : List Int) (a1_0 : Int) (a1_1 : ByteArray) (a1_2 : Int) (l1_3 : List (S27)) (l1_4 : List Int) : Option (Bool):=if a0_0 = a1_0 then ((laws_eqValue.f k a0_1 a0_2 l0_3 l0_4 a1_1 a1_2 l1_3 l1_4).bind fun t349 => (if t349 = true then (some true) else (some false))) else (some false)
theorem laws_eqKept.mono : ∀ a0 a1 a2 a3 a4 a5 a6 a7 a8 a9 k,LeO (laws_eqKept.f k a0 a1 a2 a3 a4 a5 a6 a7 a8 a9) (laws_eqKept.f (k + 1) a0 a1 a2 a3 a4 a5 a6 a7 a8 a9):=by
 intro a0 a1 a2 a3 a4 a5 a6 a7 a8 a9 k
 unfold laws_eqKept.f
 repeat' first
   | (with_reducible exact laws_eqValue.mono _ _ _ _ _ _ _ _ _)
   | (with_reducible exact LeO.refl _)
   | (with_reducible exact LeO.none _)
   | (with_reducible refine LeO.ite ?_ ?_)
   | (with_reducible refine LeO.bind ?_ (fun _ => ?_))
   | exact laws_eqValue.mono _ _ _ _ _ _ _ _ _
   | exact LeO.none _
   | refine LeO.ite ?_ ?_
   | refine LeO.bind ?_ (fun _ => ?_)
set_option maxHeartbeats 8000000 in
set_option maxRecDepth 100000 in
theorem laws_eqKept.calls (k : Nat) (a0_0 : Int) (a0_1 : ByteArray) (a0_2 : Int) (A0_3 : Option Addr) (c0_3 : Nat) (l0_3 : List (S27)) (A0_4 : Option Addr) (c0_4 : Nat) (l0_4 : List Int) (a1_0 : Int) (a1_1 : ByteArray) (a1_2 : Int) (A1_3 : Option Addr) (c1_3 : Nat) (l1_3 : List (S27)) (A1_4 : Option Addr) (c1_4 : Nat) (l1_4 : List Int) (r : Bool) (w : World) (hr0_3 : Kd.C k27 w A0_3 l0_3.length l0_3) (hc0_3 : l0_3.length ≤ c0_3) (hr0_4 : Kd.C (Kd.int .i64) w A0_4 l0_4.length l0_4) (hc0_4 : l0_4.length ≤ c0_4) (hr1_3 : Kd.C k27 w A1_3 l1_3.length l1_3) (hc1_3 : l1_3.length ≤ c1_3) (hr1_4 : Kd.C (Kd.int .i64) w A1_4 l1_4.length l1_4) (hc1_4 : l1_4.length ≤ c1_4) (h : laws_eqKept.f k a0_0 a0_1 a0_2 l0_3 l0_4 a1_0 a1_1 a1_2 l1_3 l1_4 = some r) :
  Calls Try.prog 75 #[.agg #[.int .i64 a0_0,.string a0_1,.int .i64 a0_2,.slice A0_3 l0_3.length c0_3,.slice A0_4 l0_4.length c0_4],.agg #[.int .i64 a1_0,.string a1_1,.int .i64 a1_2,.slice A1_3 l1_3.length c1_3,.slice A1_4 l1_4.length c1_4]] w fun e w' => e = .returned (.bool r) ∧ Below w.heap.size w w':=by
 have hu55:=Try.underlying55
 have hu27:=Try.underlying27
 have HR0_3:=Aside0.mk hr0_3
 have HC0_3:=Aside0.mk hc0_3
 clear hr0_3 hc0_3
 have HR0_4:=Aside0.mk hr0_4
 have HC0_4:=Aside0.mk hc0_4
 clear hr0_4 hc0_4
 have HR1_3:=Aside0.mk hr1_3
 have HC1_3:=Aside0.mk hc1_3
 clear hr1_3 hc1_3
 have HR1_4:=Aside0.mk hr1_4
 have HC1_4:=Aside0.mk hc1_4
 clear hr1_4 hc1_4
 have HB:=Aside0.mk (Below.refl w.heap.size w)
 have H : (if a0_0 = a1_0 then ((laws_eqValue.f k a0_1 a0_2 l0_3 l0_4 a1_1 a1_2 l1_3 l1_4).bind fun t349 => (if t349 = true then (some true) else (some false))) else (some false)) = some r:=h
 clear h
 by_cases c3 : a0_0 = a1_0
 ·rw [if_pos c3] at H
  have c3b0 : (a0_0 == a1_0) = true:=beq_iff_eq.mpr c3
  have c3b1 : (a0_0 != a1_0) = false:=bne_eq_false_iff_eq.mpr c3
  clear c3
  replace H:=Option.bind_eq_some_iff.mp H
  obtain ⟨t349,A40,H⟩:=H
  replace H : (if t349 = true then (some true) else (some false)) = some r:=H
  have A4:=Aside0.mk A40
  clear A40
  by_cases c5 : t349 = true
  ·subst c5
   have H1 : (some true) = some r:=by rw [if_pos rfl] at H;exact H
   clear H
   have H:=H1
   clear H1
   obtain rfl:=Option.some.inj H
   go_enter Try.func75,Try.ntmps75
   go_wp2_with (first | ((with_reducible refine gate_dst (N:=2) rfl ?_);refine Up.bx 2 55 #[.int .i64 a0_0,.string a0_1,.int .i64 a0_2,.slice A0_3 l0_3.length c0_3,.slice A0_4 l0_4.length c0_4] ?_;intro gb347 hg w6 hbox hb;have n0_:=Up.BB HB hb;have n1_:=Aside0.mk (hbox);have n2_:=Up.gw hg HB;have n3_:=Up.gw hg HB;clear HB;have HB:=n0_;have BK347:=n1_;have GW347:=n2_;have GE347:=n3_;clear n0_ n1_ n2_ n3_ hb hbox hg) | ((with_reducible refine gate_dst (N:=3) rfl ?_);refine Up.bx 3 55 #[.int .i64 a1_0,.string a1_1,.int .i64 a1_2,.slice A1_3 l1_3.length c1_3,.slice A1_4 l1_4.length c1_4] ?_;intro gb348 hg w7 hbox hb;have n0_:=Up.KB BK347 hb;have n1_:=Aside0.mk (below_step (Up.Bx HB) hb);have n2_:=Aside0.mk (hbox);have n3_:=Up.gw hg HB;have n4_:=Up.gw hg HB;have n5_:=Up.nl hg BK347;have n6_:=Up.ng hg BK347;clear BK347 HB;have BK347:=n0_;have HB:=n1_;have BK348:=n2_;have GW348:=n3_;have GE348:=n4_;have NB347_348:=n5_;have NB348_347:=n6_;clear n0_ n1_ n2_ n3_ n4_ n5_ n6_ hb hbox hg;have hnb8:=NB347_348.out;have hnc8:=NB348_347.out;have hcz9_0:=Up.c0 BK347;have hcz9_1:=Up.c1 BK347;have hcz9_2:=Up.c2 BK347;have hcz9_3:=Up.c3 BK347;have hcz9_4:=Up.c4 BK347;have hfz9_0:=blk_frozen BK347.out 0;have hfz9_1:=blk_frozen BK347.out 1;have hfz9_2:=blk_frozen BK347.out 2;have hfz9_3:=blk_frozen BK347.out 3;have hfz9_4:=blk_frozen BK347.out 4;have hcz10_0:=Up.c0 BK348;have hcz10_1:=Up.c1 BK348;have hcz10_2:=Up.c2 BK348;have hcz10_3:=Up.c3 BK348;have hcz10_4:=Up.c4 BK348;have hfz10_0:=blk_frozen BK348.out 0;have hfz10_1:=blk_frozen BK348.out 1;have hfz10_2:=blk_frozen BK348.out 2;have hfz10_3:=blk_frozen BK348.out 3;have hfz10_4:=blk_frozen BK348.out 4) | ((with_reducible refine gate_callee (f:=24) rfl ?_);refine Up.gl (some 14) Try.func24 #[.agg #[.string a0_1,.int .i64 a0_2,.slice A0_3 l0_3.length c0_3,.slice A0_4 l0_4.length c0_4],.agg #[.string a1_1,.int .i64 a1_2,.slice A1_3 l1_3.length c1_3,.slice A1_4 l1_4.length c1_4]] ?_;(with_reducible refine (laws_eqValue.calls k a0_1 a0_2 _ _ l0_3 _ _ l0_4 a1_1 a1_2 _ _ l1_3 _ _ l1_4 true _ ?side1 ?side2 ?side3 ?side4 ?side5 ?side6 ?side7 ?side8 A4.out).mono ?_);(case side1 => exact Up.Cx HR0_3 HB);(case side2 => exact HC0_3.out);(case side3 => exact Up.Cx HR0_4 HB);(case side4 => exact HC0_4.out);(case side5 => exact Up.Cx HR1_3 HB);(case side6 => exact HC1_3.out);(case side7 => exact Up.Cx HR1_4 HB);(case side8 => exact HC1_4.out);rintro e w11 ⟨rfl,hb⟩;refine ⟨_,rfl,?_⟩;have n0_:=Up.KB BK347 hb;have n1_:=Up.KB BK348 hb;have n2_:=Aside0.mk (below_step (Up.Bx HB) hb);clear BK347 BK348 HB;have BK347:=n0_;have BK348:=n1_;have HB:=n2_;clear n0_ n1_ n2_;(try clear hb);(try clear hb2);(try clear hk);(try clear hi)))
   go_ret
   exact Up.e1 (Up.Bx HB)
  ·replace c5:=Bool.eq_false_iff.mpr c5
   subst c5
   have H1 : (some false) = some r:=by rw [if_neg (show ¬ (false = true) by decide)] at H;exact H
   clear H
   have H:=H1
   clear H1
   obtain rfl:=Option.some.inj H
   go_enter Try.func75,Try.ntmps75
   go_wp2_with (first | ((with_reducible refine gate_dst (N:=2) rfl ?_);refine Up.bx 2 55 #[.int .i64 a0_0,.string a0_1,.int .i64 a0_2,.slice A0_3 l0_3.length c0_3,.slice A0_4 l0_4.length c0_4] ?_;intro gb347 hg w12 hbox hb;have n0_:=Up.BB HB hb;have n1_:=Aside0.mk (hbox);have n2_:=Up.gw hg HB;have n3_:=Up.gw hg HB;clear HB;have HB:=n0_;have BK347:=n1_;have GW347:=n2_;have GE347:=n3_;clear n0_ n1_ n2_ n3_ hb hbox hg) | ((with_reducible refine gate_dst (N:=3) rfl ?_);refine Up.bx 3 55 #[.int .i64 a1_0,.string a1_1,.int .i64 a1_2,.slice A1_3 l1_3.length c1_3,.slice A1_4 l1_4.length c1_4] ?_;intro gb348 hg w13 hbox hb;have n0_:=Up.KB BK347 hb;have n1_:=Aside0.mk (below_step (Up.Bx HB) hb);have n2_:=Aside0.mk (hbox);have n3_:=Up.gw hg HB;have n4_:=Up.gw hg HB;have n5_:=Up.nl hg BK347;have n6_:=Up.ng hg BK347;clear BK347 HB;have BK347:=n0_;have HB:=n1_;have BK348:=n2_;have GW348:=n3_;have GE348:=n4_;have NB347_348:=n5_;have NB348_347:=n6_;clear n0_ n1_ n2_ n3_ n4_ n5_ n6_ hb hbox hg;have hnb14:=NB347_348.out;have hnc14:=NB348_347.out;have hcz15_0:=Up.c0 BK347;have hcz15_1:=Up.c1 BK347;have hcz15_2:=Up.c2 BK347;have hcz15_3:=Up.c3 BK347;have hcz15_4:=Up.c4 BK347;have hfz15_0:=blk_frozen BK347.out 0;have hfz15_1:=blk_frozen BK347.out 1;have hfz15_2:=blk_frozen BK347.out 2;have hfz15_3:=blk_frozen BK347.out 3;have hfz15_4:=blk_frozen BK347.out 4;have hcz16_0:=Up.c0 BK348;have hcz16_1:=Up.c1 BK348;have hcz16_2:=Up.c2 BK348;have hcz16_3:=Up.c3 BK348;have hcz16_4:=Up.c4 BK348;have hfz16_0:=blk_frozen BK348.out 0;have hfz16_1:=blk_frozen BK348.out 1;have hfz16_2:=blk_frozen BK348.out 2;have hfz16_3:=blk_frozen BK348.out 3;have hfz16_4:=blk_frozen BK348.out 4) | ((with_reducible refine gate_callee (f:=24) rfl ?_);refine Up.gl (some 14) Try.func24 #[.agg #[.string a0_1,.int .i64 a0_2,.slice A0_3 l0_3.length c0_3,.slice A0_4 l0_4.length c0_4],.agg #[.string a1_1,.int .i64 a1_2,.slice A1_3 l1_3.length c1_3,.slice A1_4 l1_4.length c1_4]] ?_;(with_reducible refine (laws_eqValue.calls k a0_1 a0_2 _ _ l0_3 _ _ l0_4 a1_1 a1_2 _ _ l1_3 _ _ l1_4 false _ ?side1 ?side2 ?side3 ?side4 ?side5 ?side6 ?side7 ?side8 A4.out).mono ?_);(case side1 => exact Up.Cx HR0_3 HB);(case side2 => exact HC0_3.out);(case side3 => exact Up.Cx HR0_4 HB);(case side4 => exact HC0_4.out);(case side5 => exact Up.Cx HR1_3 HB);(case side6 => exact HC1_3.out);(case side7 => exact Up.Cx HR1_4 HB);(case side8 => exact HC1_4.out);rintro e w17 ⟨rfl,hb⟩;refine ⟨_,rfl,?_⟩;have n0_:=Up.KB BK347 hb;have n1_:=Up.KB BK348 hb;have n2_:=Aside0.mk (below_step (Up.Bx HB) hb);clear BK347 BK348 HB;have BK347:=n0_;have BK348:=n1_;have HB:=n2_;clear n0_ n1_ n2_;(try clear hb);(try clear hb2);(try clear hk);(try clear hi)))
   go_ret
   exact Up.e1 (Up.Bx HB)
 ·rw [if_neg c3] at H
  have c3b0 : (a0_0 == a1_0) = false:=beq_eq_false_iff_ne.mpr c3
  have c3b1 : (a0_0 != a1_0) = true:=bne_iff_ne.mpr c3
  obtain rfl:=Option.some.inj H
  go_enter Try.func75,Try.ntmps75
  go_wp2_with (first | ((with_reducible refine gate_dst (N:=2) rfl ?_);refine Up.bx 2 55 #[.int .i64 a0_0,.string a0_1,.int .i64 a0_2,.slice A0_3 l0_3.length c0_3,.slice A0_4 l0_4.length c0_4] ?_;intro gb347 hg w18 hbox hb;have n0_:=Up.BB HB hb;have n1_:=Aside0.mk (hbox);have n2_:=Up.gw hg HB;have n3_:=Up.gw hg HB;clear HB;have HB:=n0_;have BK347:=n1_;have GW347:=n2_;have GE347:=n3_;clear n0_ n1_ n2_ n3_ hb hbox hg) | ((with_reducible refine gate_dst (N:=3) rfl ?_);refine Up.bx 3 55 #[.int .i64 a1_0,.string a1_1,.int .i64 a1_2,.slice A1_3 l1_3.length c1_3,.slice A1_4 l1_4.length c1_4] ?_;intro gb348 hg w19 hbox hb;have n0_:=Up.KB BK347 hb;have n1_:=Aside0.mk (below_step (Up.Bx HB) hb);have n2_:=Aside0.mk (hbox);have n3_:=Up.gw hg HB;have n4_:=Up.gw hg HB;have n5_:=Up.nl hg BK347;have n6_:=Up.ng hg BK347;clear BK347 HB;have BK347:=n0_;have HB:=n1_;have BK348:=n2_;have GW348:=n3_;have GE348:=n4_;have NB347_348:=n5_;have NB348_347:=n6_;clear n0_ n1_ n2_ n3_ n4_ n5_ n6_ hb hbox hg;have hnb20:=NB347_348.out;have hnc20:=NB348_347.out;have hcz21_0:=Up.c0 BK347;have hcz21_1:=Up.c1 BK347;have hcz21_2:=Up.c2 BK347;have hcz21_3:=Up.c3 BK347;have hcz21_4:=Up.c4 BK347;have hfz21_0:=blk_frozen BK347.out 0;have hfz21_1:=blk_frozen BK347.out 1;have hfz21_2:=blk_frozen BK347.out 2;have hfz21_3:=blk_frozen BK347.out 3;have hfz21_4:=blk_frozen BK347.out 4;have hcz22_0:=Up.c0 BK348;have hcz22_1:=Up.c1 BK348;have hcz22_2:=Up.c2 BK348;have hcz22_3:=Up.c3 BK348;have hcz22_4:=Up.c4 BK348;have hfz22_0:=blk_frozen BK348.out 0;have hfz22_1:=blk_frozen BK348.out 1;have hfz22_2:=blk_frozen BK348.out 2;have hfz22_3:=blk_frozen BK348.out 3;have hfz22_4:=blk_frozen BK348.out 4))
  go_ret
  exact Up.e1 (Up.Bx HB)

end Go.Proofs.Ytdgmlakgnbmbbaa.OFnExactVaultsOk
