/- The law FnExactModuleRead answers true, for every text: its functions are walked, and what they write is told cell by cell. -/
-- squeezed
import Derived.Test.YtmclgkljmlpfbaaGreatDoorOFnExactModuleReadx0
import Derived.Test.YtmclgkljmlpfbaaGreatDoorOFnExactModuleReadx1
import Derived.Test.YtmclgkljmlpfbaaGreatDoorOFnExactModuleReadx2
import Derived.Test.YtmclgkljmlpfbaaGreatDoorOFnExactModuleReadx3
import Derived.Test.YtmclgkljmlpfbaaGreatDoorOFnExactModuleReadx4
import Derived.Test.YtmclgkljmlpfbaaGreatDoorPureFnExactModuleRead
namespace Go.Proofs.YtmclgkljmlpfbaaGreatDoor.Hand
open Go.RowKit Go.Proofs.YtmclgkljmlpfbaaGreatDoorW.PrintWords Go.Proofs.YtmclgkljmlpfbaaGreatDoorW.PrintLast Go.Proofs.YtmclgkljmlpfbaaGreatDoorW.PrintMore Go.Proofs.YtmclgkljmlpfbaaGreatDoor Go.Proofs.YtmclgkljmlpfbaaGreatDoor.Pure Go.Proofs.YtmclgkljmlpfbaaGreatDoor.Base
set_option linter.unusedVariables false
set_option linter.unusedSimpArgs false
/-! Rows that are written in place: rows seen through a shorter room, rows inside rows, nothing shared between them. -/
def cutV : Value → Nat → Value
 | .slice A n _,c=>.slice A n c
 | v,_=>v
@[go_sem] theorem cutV_slice (A : Option Addr) (n c d : Nat) : cutV (.slice A n c) d = .slice A n d:=rfl
section
variable {α β : Type} {d : Kd α} {e g n c base : Nat} {ok ok' oki : Nat → Prop} {w w1 W : World} {v : Value} {xs : List α}
def sl {α : Type} (e : Nat) (d : Kd α) : Kd (List α) where
 sz:=1
 E:=e :: d.E
 K:=fun w xs cs=>∃ A c,cs = [.slice A xs.length c] ∧ xs.length ≤ c ∧ d.C w A xs.length xs
 M:=fun w base ok xs cs=>∃ v c,cs = [cutV v c] ∧ xs.length ≤ c ∧ Kd.S d e w base ok v xs
 K_len:=by
  rintro w x cs ⟨A,c,rfl,_⟩
  rfl
 K_one:=by
  rintro w x cs ⟨A,c,rfl,_⟩ u hu
  rw [List.mem_singleton.1 hu]
  rfl
 K_below:=by
  rintro w w1 x cs hb ⟨A,c,rfl,hl,hr⟩
  exact ⟨A,c,rfl,hl,Kd.C_below hr hb⟩
 K_of_M:=by
  rintro w base ok x cs ⟨v,c,rfl,hl,h⟩
  obtain ⟨A,c',rfl,_,hr⟩:=Kd.S_reads h
  exact ⟨A,c,rfl,hl,hr⟩
 M_mono:=by
  rintro w base ok ok' x cs hok ⟨v,c,rfl,hl,h⟩
  exact ⟨v,c,rfl,hl,Kd.S_mono h hok⟩
 M_bound:=by
  rintro w base ok x cs ⟨v,c,rfl,hl,h⟩
  exact ⟨v,c,rfl,hl,Kd.S_bound h⟩
 M_move:=by
  rintro w w1 base ok x cs hm ⟨v,c,rfl,hl,h⟩
  exact ⟨v,c,rfl,hl,Kd.S_move h hm⟩
 M_lower:=by
  rintro w base base' ok x cs hb ⟨v,c,rfl,hl,h⟩
  exact ⟨v,c,rfl,hl,Kd.S_lower h hb⟩
def pr {α β : Type} (a : Kd α) (b : Kd β) : Kd (α × β) where
 sz:=a.sz + b.sz
 E:=a.E ++ b.E
 K:=fun w x cs=>∃ c0 c1,cs = c0 ++ c1 ∧ a.K w x.1 c0 ∧ b.K w x.2 c1
 M:=fun w base ok x cs=>∃ c0 c1,cs = c0 ++ c1 ∧ ∃ p : Nat → Prop,a.M w base (fun k=>ok k ∧ p k) x.1 c0 ∧ b.M w base (fun k=>ok k ∧ ¬ p k) x.2 c1
 K_len:=by
  rintro w x cs ⟨c0,c1,rfl,h0,h1⟩
  rw [List.length_append,a.K_len h0,b.K_len h1]
 K_one:=by
  rintro w x cs ⟨c0,c1,rfl,h0,h1⟩ u hu
  rcases List.mem_append.1 hu with hu | hu
  ·exact a.K_one h0 u hu
  ·exact b.K_one h1 u hu
 K_below:=by
  rintro w w1 x cs hb ⟨c0,c1,rfl,h0,h1⟩
  exact ⟨c0,c1,rfl,a.K_below hb h0,b.K_below hb h1⟩
 K_of_M:=by
  rintro w base ok x cs ⟨c0,c1,rfl,p,h0,h1⟩
  exact ⟨c0,c1,rfl,a.K_of_M h0,b.K_of_M h1⟩
 M_mono:=by
  rintro w base ok ok' x cs hok ⟨c0,c1,rfl,p,h0,h1⟩
  exact ⟨c0,c1,rfl,p,a.M_mono (fun k hk=>⟨hok k hk.1,hk.2⟩) h0,b.M_mono (fun k hk=>⟨hok k hk.1,hk.2⟩) h1⟩
 M_bound:=by
  rintro w base ok x cs ⟨c0,c1,rfl,p,h0,h1⟩
  refine ⟨c0,c1,rfl,p,a.M_mono ?_ (a.M_bound h0),b.M_mono ?_ (b.M_bound h1)⟩
  ·rintro k ⟨⟨h2,hp⟩,h3,h4,q,hq,hc⟩
   exact ⟨⟨h2,h3,h4,q,List.mem_append_left _ hq,hc⟩,hp⟩
  ·rintro k ⟨⟨h2,hp⟩,h3,h4,q,hq,hc⟩
   exact ⟨⟨h2,h3,h4,q,List.mem_append_right _ hq,hc⟩,hp⟩
 M_move:=by
  rintro w w1 base ok x cs hm ⟨c0,c1,rfl,p,h0,h1⟩
  exact ⟨c0,c1,rfl,p,a.M_move (fun k hk=>hm k hk.1) h0,b.M_move (fun k hk=>hm k hk.1) h1⟩
 M_lower:=by
  rintro w base base' ok x cs hb ⟨c0,c1,rfl,p,h0,h1⟩
  exact ⟨c0,c1,rfl,p,a.M_lower hb h0,b.M_lower hb h1⟩
theorem S_flat (hE : d.E = []) (h : d.R e w base ok v xs) : Kd.S d e w base ok v xs:=by
 obtain ⟨h0,inner,ho,hr⟩:=h
 refine Kd.S_bare ⟨h0,inner,ho,hr.imp_ (fun p c hp=>d.M_mono (fun k hk=>?_) (d.M_bound hp))⟩
 obtain ⟨_,_,_,q,hq,_⟩:=hk
 rw [hE] at hq
 cases hq
end
/-! What is marked: the cells of a nested structure that hold numbers and texts, in order. -/
section
abbrev Slot:=Nat × Nat × Bool
inductive Ty where
 | nil | no | int (t : Ty) | str (t : Ty) | row (e t : Ty)
def Ty.sz : Ty → Nat
 | .nil=>0
 | .no=>0
 | .int t=>t.sz + 1
 | .str t=>t.sz + 1
 | .row _ t=>t.sz + 1
def RowOf (P : Nat → Nat → List Slot → Prop) (sz : Nat) (v : Value) (s : List Slot) : Prop :=
 (∃ c,v = .slice none 0 c ∧ s = []) ∨ ∃ g n c,v = .slice (some ⟨g,0,none⟩) n c ∧ n ≤ c ∧ n ≤ maxLen ∧ ∃ ss : List (List Slot),ss.length = n ∧ s = ss.flatten ∧ ∀ j t,ss[j]? = some t → P g (j * sz) t
def Cel (w : World) : Ty → Nat → Nat → List Slot → Prop
 | .nil,_,_,sl=>sl = []
 | .no,_,_,_=>False
 | .int t,g,o,sl=>(∃ i,w.cell? ⟨g,o,none⟩ = some (.int .i64 i)) ∧ w.frozen? ⟨g,o,none⟩ = false ∧ ∃ r,sl = (g,o,false) :: r ∧ Cel w t g (o + 1) r
 | .str t,g,o,sl=>(∃ s,w.cell? ⟨g,o,none⟩ = some (.string s)) ∧ w.frozen? ⟨g,o,none⟩ = false ∧ ∃ r,sl = (g,o,true) :: r ∧ Cel w t g (o + 1) r
 | .row e t,g,o,sl=>∃ v s r,w.cell? ⟨g,o,none⟩ = some v ∧ RowOf (Cel w e) e.sz v s ∧ sl = s ++ r ∧ Cel w t g (o + 1) r
theorem RowOf.imp {P Q : Nat → Nat → List Slot → Prop} {sz : Nat} {v : Value} {s : List Slot} (h : RowOf P sz v s) (hi : ∀ g o t,P g o t → Q g o t) : RowOf Q sz v s:=by
 rcases h with h | ⟨g,n,c,hv,h1,h2,ss,h3,h4,h5⟩
 ·exact .inl h
 ·exact .inr ⟨g,n,c,hv,h1,h2,ss,h3,h4,fun j t hj=>hi _ _ _ (h5 j t hj)⟩
theorem RowOf.slice {P : Nat → Nat → List Slot → Prop} {sz : Nat} {v : Value} {s : List Slot} (h : RowOf P sz v s) : ∃ A n c,v = .slice A n c:=by
 rcases h with ⟨c,h,_⟩ | ⟨g,n,c,hv,_⟩
 ·exact ⟨_,_,_,h⟩
 ·exact ⟨_,_,_,hv⟩
structure TP (w w' : World) : Prop where
 env : w'.os = w.os ∧ w'.tape = w.tape ∧ w'.output = w.output
 size : w.heap.size ≤ w'.heap.size
 sl : ∀ a A n c,w.cell? a = some (.slice A n c) → w'.cell? a = some (.slice A n c)
 str : ∀ a s,w.cell? a = some (.string s) → ∃ s',w'.cell? a = some (.string s')
 int : ∀ a i,w.cell? a = some (.int .i64 i) → ∃ i',w'.cell? a = some (.int .i64 i')
 fz : ∀ a,a.block < w.heap.size → w.frozen? a = false → w'.frozen? a = false
theorem TP.refl (w : World) : TP w w:=⟨⟨rfl,rfl,rfl⟩,Nat.le_refl _,fun _ _ _ _ h=>h,fun _ s h=>⟨s,h⟩,fun _ i h=>⟨i,h⟩,fun _ _ h=>h⟩
theorem TP.of_below {w w' : World} (h : Below w.heap.size w w') : TP w w' :=
 ⟨⟨h.os,h.tape,h.output⟩,h.size,fun a _ _ _ hc=>(h.cell (World.block_lt_of_cell? w a hc)).trans hc,fun a s hc=>⟨s,(h.cell (World.block_lt_of_cell? w a hc)).trans hc⟩,fun a i hc=>⟨i,(h.cell (World.block_lt_of_cell? w a hc)).trans hc⟩,
  fun a ha hf=>(h.frozen ha).trans hf⟩
theorem Cel.tp {w w' : World} (h : TP w w') : ∀ (t : Ty) (g o : Nat) (sl : List Slot),Cel w t g o sl → Cel w' t g o sl
 | .nil,_,_,_,hc=>hc
 | .no,_,_,_,hc=>hc
 | .int t,g,o,_,⟨⟨_,hc⟩,hf,r,hr,ht⟩=>⟨h.int _ _ hc,h.fz _ (World.block_lt_of_cell? w _ hc) hf,r,hr,Cel.tp h t g (o + 1) r ht⟩
 | .str t,g,o,_,⟨⟨_,hc⟩,hf,r,hr,ht⟩=>⟨h.str _ _ hc,h.fz _ (World.block_lt_of_cell? w _ hc) hf,r,hr,Cel.tp h t g (o + 1) r ht⟩
 | .row e t,g,o,_,⟨v,s,r,hc,hv,hr,ht⟩=>⟨v,s,r,by
   obtain ⟨A,n,c,rfl⟩:=hv.slice
   exact h.sl _ _ _ _ hc,hv.imp (Cel.tp h e),hr,Cel.tp h t g (o + 1) r ht⟩
theorem RowOf.tp {w w' : World} (h : TP w w') {e : Ty} {v : Value} {s : List Slot} (hr : RowOf (Cel w e) e.sz v s) : RowOf (Cel w' e) e.sz v s:=hr.imp (Cel.tp h e)
def mkv (t : Bool) (k : Nat) : Value:=if t then .string (mtx k) else .int .i64 (k : Int)
structure Marked (w w' : World) (sl : List Slot) (a : Nat) : Prop where
 tp : TP w w'
 far : ∀ b,b < w.heap.size → (∀ p ∈ sl,p.1 ≠ b) → w'.heap[b]? = w.heap[b]?
 off : ∀ b o,b < w.heap.size → (∀ p ∈ sl,¬ (p.1 = b ∧ p.2.1 = o)) → w'.cell? ⟨b,o,none⟩ = w.cell? ⟨b,o,none⟩
 at_ : (sl.map fun p=>(p.1,p.2.1)).Nodup → ∀ j p,sl[j]? = some p → w'.cell? ⟨p.1,p.2.1,none⟩ = some (mkv p.2.2 (a + j))
theorem Marked.nil {w w' : World} (h : Below w.heap.size w w') (a : Nat) : Marked w w' [] a :=
 ⟨TP.of_below h,fun b hb _=>h.block b hb,fun b o hb _=>h.cell (p:=⟨b,o,none⟩) hb,fun _ j p hj=>by simp at hj⟩
theorem TP.trans {w w1 w2 : World} (h : TP w w1) (k : TP w1 w2) : TP w w2 :=
 ⟨⟨k.env.1.trans h.env.1,k.env.2.1.trans h.env.2.1,k.env.2.2.trans h.env.2.2⟩,Nat.le_trans h.size k.size,fun a A n c hc=>k.sl _ _ _ _ (h.sl _ _ _ _ hc),fun a s hc=>by obtain ⟨s',hs⟩:=h.str _ _ hc;exact k.str _ _ hs,fun a i hc=>by obtain ⟨s',hs⟩:=h.int _ _ hc;exact k.int _ _ hs,
  fun a ha hf=>k.fz _ (Nat.lt_of_lt_of_le ha h.size) (h.fz _ ha hf)⟩
def likes (u v : Value) : Prop:=(∃ s s',u = .string s ∧ v = .string s') ∨ ∃ i i',u = .int .i64 i ∧ v = .int .i64 i'
theorem TP.set (w : World) (a : Addr) {u v : Value} (hc : w.cell? a = some u) (hl : likes u v) : TP w (w.setCell a v):=by
 have hs : (w.setCell a v).cell? a = some v:=World.cell?_setCell_same _ _ _ hc
 refine ⟨⟨rfl,rfl,rfl⟩,by simp,fun b A n c hb=>?_,fun b s hb=>?_,fun b i hb=>?_,fun b hb hf=>by simpa using hf⟩
 ·by_cases e : a = b
  ·subst e
   rw [hc] at hb
   rcases hl with ⟨s,s',rfl,_⟩ | ⟨i,i',rfl,_⟩<;>cases hb
  ·rw [World.cell?_setCell_other _ _ _ _ e];exact hb
 ·by_cases e : a = b
  ·subst e
   rw [hc] at hb
   rcases hl with ⟨s,s',rfl,rfl⟩ | ⟨i,i',rfl,_⟩
   ·exact ⟨_,hs⟩
   ·cases hb
  ·exact ⟨s,by rw [World.cell?_setCell_other _ _ _ _ e];exact hb⟩
 ·by_cases e : a = b
  ·subst e
   rw [hc] at hb
   rcases hl with ⟨s,s',rfl,rfl⟩ | ⟨i,i',rfl,rfl⟩
   ·cases hb
   ·exact ⟨_,hs⟩
  ·exact ⟨i,by rw [World.cell?_setCell_other _ _ _ _ e];exact hb⟩
theorem likes_mkv {t : Bool} {u : Value} (k : Nat) (h : (t = true ∧ ∃ s,u = .string s) ∨ (t = false ∧ ∃ i,u = .int .i64 i)) : likes u (mkv t k):=by
 rcases h with ⟨rfl,s,rfl⟩ | ⟨rfl,i,rfl⟩
 ·exact .inl ⟨_,_,rfl,rfl⟩
 ·exact .inr ⟨_,_,rfl,rfl⟩
theorem Marked.one (w : World) {g o : Nat} {t : Bool} {u : Value} (k : Nat) (hc : w.cell? ⟨g,o,none⟩ = some u) (h : (t = true ∧ ∃ s,u = .string s) ∨ (t = false ∧ ∃ i,u = .int .i64 i)) : Marked w (w.setCell ⟨g,o,none⟩ (mkv t k)) [(g,o,t)] k where
 tp:=TP.set w _ hc (likes_mkv k h)
 far:=fun b hb hn=>Below.heap_setCell w _ _ b (fun e=>hn _ (List.mem_singleton.2 rfl) e.symm)
 off:=fun b o' hb hn=>World.cell?_setCell_other _ _ _ _ (fun e=>by
  injection e with e1 e2
  exact hn _ (List.mem_singleton.2 rfl) ⟨e1,e2⟩)
 at_:=fun _ j p hj=>by
  cases j with
  | zero =>
   obtain rfl : (g,o,t) = p:=by simpa using hj
   exact World.cell?_setCell_same _ _ _ hc
  | succ j=>simp at hj
theorem Marked.then {w w1 w2 : World} {s1 s2 : List Slot} {a : Nat} (h : Marked w w1 s1 a) (k : Marked w1 w2 s2 (a + s1.length)) : Marked w w2 (s1 ++ s2) a where
 tp:=h.tp.trans k.tp
 far:=fun b hb hn=>(k.far b (Nat.lt_of_lt_of_le hb h.tp.size) (fun p hp=>hn p (List.mem_append_right _ hp))).trans (h.far b hb (fun p hp=>hn p (List.mem_append_left _ hp)))
 off:=fun b o hb hn=>(k.off b o (Nat.lt_of_lt_of_le hb h.tp.size) (fun p hp=>hn p (List.mem_append_right _ hp))).trans (h.off b o hb (fun p hp=>hn p (List.mem_append_left _ hp)))
 at_:=fun hnd j p hj=>by
  rw [List.map_append,List.nodup_append] at hnd
  obtain ⟨hn1,hn2,hne⟩:=hnd
  rcases Nat.lt_or_ge j s1.length with hlt | hge
  ·rw [List.getElem?_append_left hlt] at hj
   have hp:=List.mem_of_getElem? hj
   have h1:=h.at_ hn1 j p hj
   rw [k.off _ _ (World.block_lt_of_cell? w1 _ h1) (fun q hq e=>hne (p.1,p.2.1) (List.mem_map.2 ⟨p,hp,rfl⟩) (q.1,q.2.1) (List.mem_map.2 ⟨q,hq,rfl⟩) (by rw [e.1,e.2]))]
   exact h1
  ·rw [List.getElem?_append_right hge] at hj
   have:=k.at_ hn2 _ p hj
   rw [show a + s1.length + (j - s1.length) = a + j by omega] at this
   exact this
theorem Marked.below {w w1 w2 : World} {s : List Slot} {a : Nat} (h : Marked w w1 s a) (k : Below w1.heap.size w1 w2) : Marked w w2 s a:=by
 have:=Marked.then h (Marked.nil k (a + s.length))
 rwa [List.append_nil] at this
theorem Marked.more {w wr w2 : World} {s s2 : List Slot} {a K : Nat} (h : Marked w wr s a) (hK : K = a + s.length) (k : Marked wr w2 s2 K) : Marked w w2 (s ++ s2) a:=by
 subst hK
 exact Marked.then h k
theorem Marked.putI {w wr : World} {s : List Slot} {a K g o : Nat} {z : Int} (ki : Int) (h : Marked w wr s a) (hK : K = a + s.length) (hki : ki = (K : Int)) (hc : w.cell? ⟨g,o,none⟩ = some (.int .i64 z)) : Marked w (wr.setCell ⟨g,o,none⟩ (.int .i64 ki)) (s ++ [(g,o,false)]) a:=by
 subst hki
 obtain ⟨z',hz⟩:=h.tp.int _ _ hc
 exact Marked.more h hK (Marked.one _ (t:=false) _ hz (.inr ⟨rfl,_,rfl⟩))
theorem Marked.putS {w wr : World} {s : List Slot} {a K g o : Nat} {z : ByteArray} (h : Marked w wr s a) (hK : K = a + s.length) (hc : w.cell? ⟨g,o,none⟩ = some (.string z)) : Marked w (wr.setCell ⟨g,o,none⟩ (.string (mtx K))) (s ++ [(g,o,true)]) a:=by
 obtain ⟨z',hz⟩:=h.tp.str _ _ hc
 exact Marked.more h hK (Marked.one _ (t:=true) _ hz (.inl ⟨rfl,_,rfl⟩))
theorem TP.fz' {w w' : World} (h : TP w w') {a : Addr} {v : Value} (hc : w.cell? a = some v) (hf : w.frozen? a = false) : w'.frozen? a = false:=h.fz _ (World.block_lt_of_cell? w _ hc) hf
theorem Marked.below_of {B : Nat} {w0 w w' : World} {s : List Slot} {a : Nat} (h : Marked w w' s a) (hs : ∀ p ∈ s,B ≤ p.1) (hb : Below B w0 w) (hB : B ≤ w.heap.size) : Below B w0 w' :=
 ⟨h.tp.env.1.trans hb.os,h.tp.env.2.1.trans hb.tape,h.tp.env.2.2.trans hb.output,Nat.le_trans hb.size h.tp.size,fun k hk=>(h.far k (by omega) (fun p hp e=>by have:=hs p hp;omega)).trans (hb.block k hk)⟩
theorem Marked.kept {w w' : World} {s : List Slot} {a : Nat} (h : Marked w w' s a) : Kept w w' (fun k=>∃ p ∈ s,p.1 = k):=⟨h.tp.size,fun i hi hn=>h.far i hi (fun p hp e=>hn ⟨p,hp,e⟩)⟩
theorem Cel.mem {w : World} : ∀ (t : Ty) (g o : Nat) (sl : List Slot),Cel w t g o sl → ∀ p ∈ sl,∃ v,w.cell? ⟨p.1,p.2.1,none⟩ = some v
 | .nil,_,_,_,hc,p,hp=>by
  obtain rfl : _ = []:=hc
  cases hp
 | .no,_,_,_,hc,_,_=>hc.elim
 | .int t,g,o,_,⟨⟨_,hc⟩,hf,r,rfl,ht⟩,p,hp=>by
  rcases List.mem_cons.1 hp with rfl | hp
  ·exact ⟨_,hc⟩
  ·exact Cel.mem t _ _ r ht p hp
 | .str t,g,o,_,⟨⟨_,hc⟩,hf,r,rfl,ht⟩,p,hp=>by
  rcases List.mem_cons.1 hp with rfl | hp
  ·exact ⟨_,hc⟩
  ·exact Cel.mem t _ _ r ht p hp
 | .row e t,g,o,_,⟨v,s,r,hc,hv,rfl,ht⟩,p,hp=>by
  rcases List.mem_append.1 hp with hp | hp
  ·rcases hv with ⟨_,_,rfl⟩ | ⟨g',n,c,_,_,_,ss,_,rfl,h5⟩
   ·cases hp
   ·obtain ⟨l,hl,hpl⟩:=List.mem_flatten.1 hp
    obtain ⟨j,hj⟩:=List.getElem?_of_mem hl
    exact Cel.mem e _ _ l (h5 j l hj) p hpl
  ·exact Cel.mem t _ _ r ht p hp
theorem RowOf.mem {w : World} {e : Ty} {v : Value} {s : List Slot} (hr : RowOf (Cel w e) e.sz v s) (p : Slot) (hp : p ∈ s) : p.1 < w.heap.size:=by
 rcases hr with ⟨_,_,rfl⟩ | ⟨g',n,c,_,_,_,ss,_,rfl,h5⟩
 ·cases hp
 ·obtain ⟨l,hl,hpl⟩:=List.mem_flatten.1 hp
  obtain ⟨j,hj⟩:=List.getElem?_of_mem hl
  obtain ⟨v,hc⟩:=Cel.mem e _ _ l (h5 j l hj) p hpl
  exact World.block_lt_of_cell? w _ hc
theorem RowOf.all {P : Nat → Nat → List Slot → Prop} {sz : Nat} {v : Value} {s : List Slot} (h : RowOf P sz v s) : ∃ (A : Option Addr) (n c : Nat) (ss : List (List Slot)),v = .slice A n c ∧ n ≤ c ∧ n ≤ maxLen ∧ ss.length = n ∧ s = ss.flatten ∧ ∀ j t,ss[j]? = some t → ∃ g,A = some ⟨g,0,none⟩ ∧ P g (j * sz) t:=by
 rcases h with ⟨c,rfl,rfl⟩ | ⟨g,n,c,rfl,h1,h2,ss,h3,rfl,h5⟩
 ·exact ⟨none,0,c,[],rfl,Nat.zero_le _,Nat.zero_le _,rfl,rfl,fun j t hj=>by simp at hj⟩
 ·exact ⟨_,n,c,ss,rfl,h1,h2,h3,rfl,fun j t hj=>⟨g,rfl,h5 j t hj⟩⟩
theorem take_flat {α : Type} {ss : List (List α)} {i : Nat} {t : List α} (h : ss[i]? = some t) : (ss.take (i + 1)).flatten = (ss.take i).flatten ++ t:=by
 obtain ⟨hl,rfl⟩:=List.getElem?_eq_some_iff.1 h
 rw [List.take_succ_eq_append_getElem hl,List.flatten_append]
 simp
theorem flat_le {α : Type} (ss : List (List α)) (i : Nat) : (ss.take i).flatten.length ≤ ss.flatten.length:=by
 have:=List.take_append_drop i ss
 have h2 : ss.flatten.length = (ss.take i).flatten.length + (ss.drop i).flatten.length:=by
  rw [← List.length_append,← List.flatten_append,this]
 omega
end
theorem mText_any (k : Nat) {ki : Int} (hki : ki = (k : Int)) (h1 : 1 ≤ k) (h2 : k ≤ 9000000) (w : World) : Calls Tryz.prog 82 #[.int .i64 ki] w fun e w'=>e = .returned (.string (mtx k)) ∧ Below w.heap.size w w':=by
 subst hki
 obtain ⟨q,hq⟩:=markText_any k h1 (by omega)
 exact OFnExactModuleRead.laws_markText.calls q _ _ w hq
abbrev tyInt : Ty:=(.int .nil)
abbrev tyString : Ty:=(.str .nil)
abbrev tyIns : Ty:=(.str (.int (.int .nil)))
abbrev tyRecord : Ty:=(.int (.row tyString .nil))
abbrev tyFunc : Ty:=(.int (.row tyString (.row tyString (.row tyString (.row tyInt (.row tyIns .nil))))))
set_option maxHeartbeats 2000000 in
set_option maxRecDepth 100000 in
theorem markIntS_any (v : Value) (s : List Slot) (a : Nat) {ai : Int} (hai : ai = (a : Int)) (w : World) (hs : RowOf (Cel w tyInt) 1 v s) (h1 : 1 ≤ a) (hb : a + s.length ≤ 9000000) :
  Calls Tryz.prog 21 #[v,.int .i64 ai] w fun e w'=>e = .returned (.int .i64 ((a + s.length : Nat) : Int)) ∧ Marked w w' s a:=by
 subst hai
 obtain ⟨A,n,c,ss,rfl,hnc,hcm,hn,rfl,hel⟩:=hs.all
 have HEL:=Mk hel
 have HN:=Mk hn
 have HM:=Mk (show Marked w w (ss.take 0).flatten a from Marked.nil (Below.refl _ _) a)
 have hnm : n ≤ 9223372036854775807:=by unfold maxLen at hcm;omega
 clear hel hn hs hcm hnc
 go_enter Tryz.func21,Tryz.ntmps21
 go_wp2
 go_loopw [1,5] (fun v1 v5 wr=>∃ i K : Nat,i ≤ n ∧ v5 = .int .i64 i ∧ v1 = .int .i64 K ∧ 1 ≤ K ∧ K ≤ 9000000 ∧ Aside0 (K = a + (ss.take i).flatten.length) ∧ Aside0 (Marked w wr (ss.take i).flatten a)) (fun _ v5 _=>n - (intOf v5).toNat)
 case atStart=>exact ⟨0,a,Nat.zero_le _,rfl,rfl,h1,by omega,⟨by simp⟩,HM⟩
 case round =>
  clear HM
  obtain ⟨i,K0,hi,rfl,rfl,hK1,hK2,HK,HM⟩:=hrel
  by_cases hlt : i < n
  ·have hsl:=List.getElem?_eq_getElem (show i < ss.length by have:=HN.out;omega)
   obtain ⟨g,hA,hc⟩:=HEL.out i _ hsl
   subst hA
   generalize ss[i]'(by have:=HN.out;omega) = t at hsl hc
   have HS:=Mk hsl
   rw [Nat.mul_one] at hc
   obtain ⟨⟨z0,hx0⟩,hf0,r0,ht0,hrn⟩:=hc
   obtain rfl : r0 = []:=hrn
   have HT:=Mk (show t = [(g,i,false)] by rw [ht0];first | done | simp)
   clear ht0 hsl
   have HX0:=Mk (show w.cell? ⟨g,i,none⟩ = some (.int .i64 z0) from hx0)
   have HF0:=Mk (show w.frozen? ⟨g,i,none⟩ = false from hf0)
   clear hx0 hf0
   have hle : K0 + (1) ≤ 9000000:=by
    have h1:=take_flat HS.out
    have h2:=flat_le ss (i + 1)
    have h3:=HK.out
    rw [h1,HT.out] at h2
    (try simp only [List.length_append,List.length_cons,List.length_nil,Nat.zero_add] at h2)
    omega
   obtain ⟨y0_,hx0⟩:=HM.out.tp.int _ _ HX0.out
   have hf0:=HM.out.tp.fz' HX0.out HF0.out
   go_wp2
   go_roundw
   case rel =>
    replace HM:=Mk (Marked.putI (K:=K0) ((K0 : Int)) HM.out (by have:=HK.out;(try simp only [List.length_append,List.length_cons,List.length_nil] at this);(try simp only [List.length_append,List.length_cons,List.length_nil]);omega) (by omega) HX0.out)
    exact ⟨i + 1,K0 + 1,by omega,by go_num,by first | rfl | go_num,by omega,by omega,⟨by rw [take_flat HS.out,HT.out];have:=HK.out;(try simp only [List.length_append,List.length_cons,List.length_nil] at this);(try simp only [List.length_append,List.length_cons,List.length_nil]);omega⟩,⟨by rw [take_flat HS.out,HT.out];have:=HM.out;simpa only [List.append_assoc] using this⟩⟩
   case measure=>simp [intOf];omega
  ·have hin : i = ss.length:=by have:=HN.out;omega
   have HL:=Mk hin
   clear hin
   go_wp2
   go_ret
   have e:=HK.out
   subst e
   rw [HL.out,List.take_length] at HM ⊢
   exact ⟨rfl,HM.out⟩
set_option maxHeartbeats 2000000 in
set_option maxRecDepth 100000 in
theorem markStringS_any (v : Value) (s : List Slot) (a : Nat) {ai : Int} (hai : ai = (a : Int)) (w : World) (hs : RowOf (Cel w tyString) 1 v s) (h1 : 1 ≤ a) (hb : a + s.length ≤ 9000000) :
  Calls Tryz.prog 49 #[v,.int .i64 ai] w fun e w'=>e = .returned (.int .i64 ((a + s.length : Nat) : Int)) ∧ Marked w w' s a:=by
 subst hai
 obtain ⟨A,n,c,ss,rfl,hnc,hcm,hn,rfl,hel⟩:=hs.all
 have HEL:=Mk hel
 have HN:=Mk hn
 have HM:=Mk (show Marked w w (ss.take 0).flatten a from Marked.nil (Below.refl _ _) a)
 have hnm : n ≤ 9223372036854775807:=by unfold maxLen at hcm;omega
 clear hel hn hs hcm hnc
 go_enter Tryz.func49,Tryz.ntmps49
 go_wp2
 go_loopw [1,5] (fun v1 v5 wr=>∃ i K : Nat,i ≤ n ∧ v5 = .int .i64 i ∧ v1 = .int .i64 K ∧ 1 ≤ K ∧ K ≤ 9000000 ∧ Aside0 (K = a + (ss.take i).flatten.length) ∧ Aside0 (Marked w wr (ss.take i).flatten a)) (fun _ v5 _=>n - (intOf v5).toNat)
 case atStart=>exact ⟨0,a,Nat.zero_le _,rfl,rfl,h1,by omega,⟨by simp⟩,HM⟩
 case round =>
  clear HM
  obtain ⟨i,K0,hi,rfl,rfl,hK1,hK2,HK,HM⟩:=hrel
  by_cases hlt : i < n
  ·have hsl:=List.getElem?_eq_getElem (show i < ss.length by have:=HN.out;omega)
   obtain ⟨g,hA,hc⟩:=HEL.out i _ hsl
   subst hA
   generalize ss[i]'(by have:=HN.out;omega) = t at hsl hc
   have HS:=Mk hsl
   rw [Nat.mul_one] at hc
   obtain ⟨⟨z0,hx0⟩,hf0,r0,ht0,hrn⟩:=hc
   obtain rfl : r0 = []:=hrn
   have HT:=Mk (show t = [(g,i,true)] by rw [ht0];first | done | simp)
   clear ht0 hsl
   have HX0:=Mk (show w.cell? ⟨g,i,none⟩ = some (.string z0) from hx0)
   have HF0:=Mk (show w.frozen? ⟨g,i,none⟩ = false from hf0)
   clear hx0 hf0
   have hle : K0 + (1) ≤ 9000000:=by
    have h1:=take_flat HS.out
    have h2:=flat_le ss (i + 1)
    have h3:=HK.out
    rw [h1,HT.out] at h2
    (try simp only [List.length_append,List.length_cons,List.length_nil,Nat.zero_add] at h2)
    omega
   go_wp2_with fail
   refine (mText_any (K0) (by omega) (by omega) (by omega) _).mono ?_
   rintro e w1 ⟨rfl,hb⟩
   replace HM:=Mk (HM.out.below hb)
   clear hb
   obtain ⟨y0_,hx0⟩:=HM.out.tp.str _ _ HX0.out
   have hf0:=HM.out.tp.fz' HX0.out HF0.out
   go_wp2
   go_roundw
   case rel =>
    replace HM:=Mk (Marked.putS (K:=K0) HM.out (by have:=HK.out;(try simp only [List.length_append,List.length_cons,List.length_nil] at this);(try simp only [List.length_append,List.length_cons,List.length_nil]);omega) HX0.out)
    exact ⟨i + 1,K0 + 1,by omega,by go_num,by first | rfl | go_num,by omega,by omega,⟨by rw [take_flat HS.out,HT.out];have:=HK.out;(try simp only [List.length_append,List.length_cons,List.length_nil] at this);(try simp only [List.length_append,List.length_cons,List.length_nil]);omega⟩,⟨by rw [take_flat HS.out,HT.out];have:=HM.out;simpa only [List.append_assoc] using this⟩⟩
   case measure=>simp [intOf];omega
  ·have hin : i = ss.length:=by have:=HN.out;omega
   have HL:=Mk hin
   clear hin
   go_wp2
   go_ret
   have e:=HK.out
   subst e
   rw [HL.out,List.take_length] at HM ⊢
   exact ⟨rfl,HM.out⟩
set_option maxHeartbeats 2000000 in
set_option maxRecDepth 100000 in
theorem markInsS_any (v : Value) (s : List Slot) (a : Nat) {ai : Int} (hai : ai = (a : Int)) (w : World) (hs : RowOf (Cel w tyIns) 3 v s) (h1 : 1 ≤ a) (hb : a + s.length ≤ 9000000) :
  Calls Tryz.prog 50 #[v,.int .i64 ai] w fun e w'=>e = .returned (.int .i64 ((a + s.length : Nat) : Int)) ∧ Marked w w' s a:=by
 subst hai
 obtain ⟨A,n,c,ss,rfl,hnc,hcm,hn,rfl,hel⟩:=hs.all
 have HEL:=Mk hel
 have HN:=Mk hn
 have HM:=Mk (show Marked w w (ss.take 0).flatten a from Marked.nil (Below.refl _ _) a)
 have hnm : n ≤ 9223372036854775807:=by unfold maxLen at hcm;omega
 clear hel hn hs hcm hnc
 go_enter Tryz.func50,Tryz.ntmps50
 go_wp2
 go_loopw [1,5] (fun v1 v5 wr=>∃ i K : Nat,i ≤ n ∧ v5 = .int .i64 i ∧ v1 = .int .i64 K ∧ 1 ≤ K ∧ K ≤ 9000000 ∧ Aside0 (K = a + (ss.take i).flatten.length) ∧ Aside0 (Marked w wr (ss.take i).flatten a)) (fun _ v5 _=>n - (intOf v5).toNat)
 case atStart=>exact ⟨0,a,Nat.zero_le _,rfl,rfl,h1,by omega,⟨by simp⟩,HM⟩
 case round =>
  clear HM
  obtain ⟨i,K0,hi,rfl,rfl,hK1,hK2,HK,HM⟩:=hrel
  by_cases hlt : i < n
  ·have hsl:=List.getElem?_eq_getElem (show i < ss.length by have:=HN.out;omega)
   obtain ⟨g,hA,hc⟩:=HEL.out i _ hsl
   subst hA
   generalize ss[i]'(by have:=HN.out;omega) = t at hsl hc
   have HS:=Mk hsl
   obtain ⟨⟨z0,hx0⟩,hf0,r0,ht0,⟨z1,hx1⟩,hf1,r1,ht1,⟨z2,hx2⟩,hf2,r2,ht2,hrn⟩:=hc
   obtain rfl : r2 = []:=hrn
   subst ht2
   subst ht1
   have HT:=Mk (show t = [(g,i * 3,true)] ++ [(g,i * 3 + 1,false)] ++ [(g,i * 3 + 2,false)] by rw [ht0];first | done | simp)
   clear ht0 hsl
   have HX0:=Mk (show w.cell? ⟨g,i * 3,none⟩ = some (.string z0) from hx0)
   have HF0:=Mk (show w.frozen? ⟨g,i * 3,none⟩ = false from hf0)
   clear hx0 hf0
   have HX1:=Mk (show w.cell? ⟨g,i * 3 + 1,none⟩ = some (.int .i64 z1) from hx1)
   have HF1:=Mk (show w.frozen? ⟨g,i * 3 + 1,none⟩ = false from hf1)
   clear hx1 hf1
   have HX2:=Mk (show w.cell? ⟨g,i * 3 + 2,none⟩ = some (.int .i64 z2) from hx2)
   have HF2:=Mk (show w.frozen? ⟨g,i * 3 + 2,none⟩ = false from hf2)
   clear hx2 hf2
   have hle : K0 + (1 + 1 + 1) ≤ 9000000:=by
    have h1:=take_flat HS.out
    have h2:=flat_le ss (i + 1)
    have h3:=HK.out
    rw [h1,HT.out] at h2
    (try simp only [List.length_append,List.length_cons,List.length_nil,Nat.zero_add] at h2)
    omega
   go_wp2_with fail
   refine (mText_any (K0) (by omega) (by omega) (by omega) _).mono ?_
   rintro e w1 ⟨rfl,hb⟩
   replace HM:=Mk (HM.out.below hb)
   clear hb
   obtain ⟨y0_,hx0⟩:=HM.out.tp.str _ _ HX0.out
   have hf0:=HM.out.tp.fz' HX0.out HF0.out
   obtain ⟨y1_,hx1⟩:=HM.out.tp.int _ _ HX1.out
   have hf1:=HM.out.tp.fz' HX1.out HF1.out
   obtain ⟨y2_,hx2⟩:=HM.out.tp.int _ _ HX2.out
   have hf2:=HM.out.tp.fz' HX2.out HF2.out
   go_wp2
   go_roundw
   case rel =>
    replace HM:=Mk (Marked.putS (K:=K0) HM.out (by have:=HK.out;(try simp only [List.length_append,List.length_cons,List.length_nil] at this);(try simp only [List.length_append,List.length_cons,List.length_nil]);omega) HX0.out)
    replace HM:=Mk (Marked.putI (K:=K0 + 1) ((K0 : Int) + 1) HM.out (by have:=HK.out;(try simp only [List.length_append,List.length_cons,List.length_nil] at this);(try simp only [List.length_append,List.length_cons,List.length_nil]);omega) (by omega) HX1.out)
    replace HM:=Mk (Marked.putI (K:=K0 + 2) ((K0 : Int) + 1 + 1) HM.out (by have:=HK.out;(try simp only [List.length_append,List.length_cons,List.length_nil] at this);(try simp only [List.length_append,List.length_cons,List.length_nil]);omega) (by omega) HX2.out)
    exact ⟨i + 1,K0 + 3,by omega,by go_num,by first | rfl | go_num,by omega,by omega,⟨by rw [take_flat HS.out,HT.out];have:=HK.out;(try simp only [List.length_append,List.length_cons,List.length_nil] at this);(try simp only [List.length_append,List.length_cons,List.length_nil]);omega⟩,⟨by rw [take_flat HS.out,HT.out];have:=HM.out;simpa only [List.append_assoc] using this⟩⟩
   case measure=>simp [intOf];omega
  ·have hin : i = ss.length:=by have:=HN.out;omega
   have HL:=Mk hin
   clear hin
   go_wp2
   go_ret
   have e:=HK.out
   subst e
   rw [HL.out,List.take_length] at HM ⊢
   exact ⟨rfl,HM.out⟩
set_option maxHeartbeats 2000000 in
set_option maxRecDepth 100000 in
theorem markRecordS_any (v : Value) (s : List Slot) (a : Nat) {ai : Int} (hai : ai = (a : Int)) (w : World) (hs : RowOf (Cel w tyRecord) 2 v s) (h1 : 1 ≤ a) (hb : a + s.length ≤ 9000000) :
  Calls Tryz.prog 19 #[v,.int .i64 ai] w fun e w'=>e = .returned (.int .i64 ((a + s.length : Nat) : Int)) ∧ Marked w w' s a:=by
 subst hai
 obtain ⟨A,n,c,ss,rfl,hnc,hcm,hn,rfl,hel⟩:=hs.all
 have HEL:=Mk hel
 have HN:=Mk hn
 have HM:=Mk (show Marked w w (ss.take 0).flatten a from Marked.nil (Below.refl _ _) a)
 have hnm : n ≤ 9223372036854775807:=by unfold maxLen at hcm;omega
 clear hel hn hs hcm hnc
 go_enter Tryz.func19,Tryz.ntmps19
 go_wp2
 go_loopw [1,5] (fun v1 v5 wr=>∃ i K : Nat,i ≤ n ∧ v5 = .int .i64 i ∧ v1 = .int .i64 K ∧ 1 ≤ K ∧ K ≤ 9000000 ∧ Aside0 (K = a + (ss.take i).flatten.length) ∧ Aside0 (Marked w wr (ss.take i).flatten a)) (fun _ v5 _=>n - (intOf v5).toNat)
 case atStart=>exact ⟨0,a,Nat.zero_le _,rfl,rfl,h1,by omega,⟨by simp⟩,HM⟩
 case round =>
  clear HM
  obtain ⟨i,K0,hi,rfl,rfl,hK1,hK2,HK,HM⟩:=hrel
  by_cases hlt : i < n
  ·have hsl:=List.getElem?_eq_getElem (show i < ss.length by have:=HN.out;omega)
   obtain ⟨g,hA,hc⟩:=HEL.out i _ hsl
   subst hA
   generalize ss[i]'(by have:=HN.out;omega) = t at hsl hc
   have HS:=Mk hsl
   obtain ⟨⟨z0,hx0⟩,hf0,r0,ht0,v1,s1,r1,hx1,hv1,ht1,hrn⟩:=hc
   obtain rfl : r1 = []:=hrn
   subst ht1
   have HT:=Mk (show t = [(g,i * 2,false)] ++ s1 by rw [ht0];first | done | simp)
   clear ht0 hsl
   have HX0:=Mk (show w.cell? ⟨g,i * 2,none⟩ = some (.int .i64 z0) from hx0)
   have HF0:=Mk (show w.frozen? ⟨g,i * 2,none⟩ = false from hf0)
   clear hx0 hf0
   obtain ⟨A1,n1,c1,rfl⟩:=hv1.slice
   have HX1:=Mk (show w.cell? ⟨g,i * 2 + 1,none⟩ = some (.slice A1 n1 c1) from hx1)
   have HV1:=Mk hv1
   clear hx1 hv1
   have hle : K0 + (1 + s1.length) ≤ 9000000:=by
    have h1:=take_flat HS.out
    have h2:=flat_le ss (i + 1)
    have h3:=HK.out
    rw [h1,HT.out] at h2
    (try simp only [List.length_append,List.length_cons,List.length_nil,Nat.zero_add] at h2)
    omega
   obtain ⟨y0_,hx0⟩:=HM.out.tp.int _ _ HX0.out
   have hf0:=HM.out.tp.fz' HX0.out HF0.out
   have hx1:=HM.out.tp.sl _ _ _ _ HX1.out
   go_wp2_with fail
   replace HM:=Mk (Marked.putI (K:=K0) ((K0 : Int)) HM.out (by have:=HK.out;(try simp only [List.length_append,List.length_cons,List.length_nil] at this);(try simp only [List.length_append,List.length_cons,List.length_nil]);omega) (by omega) HX0.out)
   clear hx0 hf0 hx1
   refine (markStringS_any _ s1 (K0 + 1) (by omega) _ (RowOf.tp HM.out.tp HV1.out) (by omega) (by omega)).mono ?_
   rintro e w1 ⟨rfl,hm⟩
   replace HM:=Mk (Marked.more HM.out (K:=K0 + 1) (by have:=HK.out;(try simp only [List.length_append,List.length_cons,List.length_nil] at this);(try simp only [List.length_append,List.length_cons,List.length_nil]);omega) hm)
   obtain ⟨K1,hK1⟩ : ∃ K_ : Nat,K_ = K0 + 1 + s1.length:=⟨_,rfl⟩
   rw [← hK1]
   have HE1:=Mk hK1
   replace HK:=Mk (show K1 = a + ((ss.take i).flatten ++ [(g,i * 2,false)] ++ s1).length by have:=HK.out;(try simp only [List.length_append,List.length_cons,List.length_nil] at this);(try simp only [List.length_append,List.length_cons,List.length_nil]);omega)
   have lK1 : K1 ≤ 9000000:=by omega
   have mK1 : 1 ≤ K1:=by omega
   clear hK1 hm
   go_wp2
   go_roundw
   case rel =>
    exact ⟨i + 1,K1,by omega,by go_num,by first | rfl | go_num,by omega,by omega,⟨by rw [take_flat HS.out,HT.out];have:=HK.out;(try simp only [List.length_append,List.length_cons,List.length_nil] at this);(try simp only [List.length_append,List.length_cons,List.length_nil]);omega⟩,⟨by rw [take_flat HS.out,HT.out];have:=HM.out;simpa only [List.append_assoc] using this⟩⟩
   case measure=>simp [intOf];omega
  ·have hin : i = ss.length:=by have:=HN.out;omega
   have HL:=Mk hin
   clear hin
   go_wp2
   go_ret
   have e:=HK.out
   subst e
   rw [HL.out,List.take_length] at HM ⊢
   exact ⟨rfl,HM.out⟩
set_option maxHeartbeats 2000000 in
set_option maxRecDepth 100000 in
theorem markFuncS_any (v : Value) (s : List Slot) (a : Nat) {ai : Int} (hai : ai = (a : Int)) (w : World) (hs : RowOf (Cel w tyFunc) 6 v s) (h1 : 1 ≤ a) (hb : a + s.length ≤ 9000000) :
  Calls Tryz.prog 20 #[v,.int .i64 ai] w fun e w'=>e = .returned (.int .i64 ((a + s.length : Nat) : Int)) ∧ Marked w w' s a:=by
 subst hai
 obtain ⟨A,n,c,ss,rfl,hnc,hcm,hn,rfl,hel⟩:=hs.all
 have HEL:=Mk hel
 have HN:=Mk hn
 have HM:=Mk (show Marked w w (ss.take 0).flatten a from Marked.nil (Below.refl _ _) a)
 have hnm : n ≤ 9223372036854775807:=by unfold maxLen at hcm;omega
 clear hel hn hs hcm hnc
 go_enter Tryz.func20,Tryz.ntmps20
 go_wp2
 go_loopw [1,5] (fun v1 v5 wr=>∃ i K : Nat,i ≤ n ∧ v5 = .int .i64 i ∧ v1 = .int .i64 K ∧ 1 ≤ K ∧ K ≤ 9000000 ∧ Aside0 (K = a + (ss.take i).flatten.length) ∧ Aside0 (Marked w wr (ss.take i).flatten a)) (fun _ v5 _=>n - (intOf v5).toNat)
 case atStart=>exact ⟨0,a,Nat.zero_le _,rfl,rfl,h1,by omega,⟨by simp⟩,HM⟩
 case round =>
  clear HM
  obtain ⟨i,K0,hi,rfl,rfl,hK1,hK2,HK,HM⟩:=hrel
  by_cases hlt : i < n
  ·have hsl:=List.getElem?_eq_getElem (show i < ss.length by have:=HN.out;omega)
   obtain ⟨g,hA,hc⟩:=HEL.out i _ hsl
   subst hA
   generalize ss[i]'(by have:=HN.out;omega) = t at hsl hc
   have HS:=Mk hsl
   obtain ⟨⟨z0,hx0⟩,hf0,r0,ht0,v1,s1,r1,hx1,hv1,ht1,v2,s2,r2,hx2,hv2,ht2,v3,s3,r3,hx3,hv3,ht3,v4,s4,r4,hx4,hv4,ht4,v5,s5,r5,hx5,hv5,ht5,hrn⟩:=hc
   obtain rfl : r5 = []:=hrn
   subst ht5
   subst ht4
   subst ht3
   subst ht2
   subst ht1
   have HT:=Mk (show t = [(g,i * 6,false)] ++ s1 ++ s2 ++ s3 ++ s4 ++ s5 by rw [ht0];first | done | simp)
   clear ht0 hsl
   have HX0:=Mk (show w.cell? ⟨g,i * 6,none⟩ = some (.int .i64 z0) from hx0)
   have HF0:=Mk (show w.frozen? ⟨g,i * 6,none⟩ = false from hf0)
   clear hx0 hf0
   obtain ⟨A1,n1,c1,rfl⟩:=hv1.slice
   have HX1:=Mk (show w.cell? ⟨g,i * 6 + 1,none⟩ = some (.slice A1 n1 c1) from hx1)
   have HV1:=Mk hv1
   clear hx1 hv1
   obtain ⟨A2,n2,c2,rfl⟩:=hv2.slice
   have HX2:=Mk (show w.cell? ⟨g,i * 6 + 2,none⟩ = some (.slice A2 n2 c2) from hx2)
   have HV2:=Mk hv2
   clear hx2 hv2
   obtain ⟨A3,n3,c3,rfl⟩:=hv3.slice
   have HX3:=Mk (show w.cell? ⟨g,i * 6 + 3,none⟩ = some (.slice A3 n3 c3) from hx3)
   have HV3:=Mk hv3
   clear hx3 hv3
   obtain ⟨A4,n4,c4,rfl⟩:=hv4.slice
   have HX4:=Mk (show w.cell? ⟨g,i * 6 + 4,none⟩ = some (.slice A4 n4 c4) from hx4)
   have HV4:=Mk hv4
   clear hx4 hv4
   obtain ⟨A5,n5,c5,rfl⟩:=hv5.slice
   have HX5:=Mk (show w.cell? ⟨g,i * 6 + 5,none⟩ = some (.slice A5 n5 c5) from hx5)
   have HV5:=Mk hv5
   clear hx5 hv5
   have hle : K0 + (1 + s1.length + s2.length + s3.length + s4.length + s5.length) ≤ 9000000:=by
    have h1:=take_flat HS.out
    have h2:=flat_le ss (i + 1)
    have h3:=HK.out
    rw [h1,HT.out] at h2
    (try simp only [List.length_append,List.length_cons,List.length_nil,Nat.zero_add] at h2)
    omega
   obtain ⟨y0_,hx0⟩:=HM.out.tp.int _ _ HX0.out
   have hf0:=HM.out.tp.fz' HX0.out HF0.out
   have hx1:=HM.out.tp.sl _ _ _ _ HX1.out
   go_wp2_with fail
   replace HM:=Mk (Marked.putI (K:=K0) ((K0 : Int)) HM.out (by have:=HK.out;(try simp only [List.length_append,List.length_cons,List.length_nil] at this);(try simp only [List.length_append,List.length_cons,List.length_nil]);omega) (by omega) HX0.out)
   clear hx0 hf0 hx1
   refine (markStringS_any _ s1 (K0 + 1) (by omega) _ (RowOf.tp HM.out.tp HV1.out) (by omega) (by omega)).mono ?_
   rintro e w1 ⟨rfl,hm⟩
   replace HM:=Mk (Marked.more HM.out (K:=K0 + 1) (by have:=HK.out;(try simp only [List.length_append,List.length_cons,List.length_nil] at this);(try simp only [List.length_append,List.length_cons,List.length_nil]);omega) hm)
   obtain ⟨K1,hK1⟩ : ∃ K_ : Nat,K_ = K0 + 1 + s1.length:=⟨_,rfl⟩
   rw [← hK1]
   have HE1:=Mk hK1
   replace HK:=Mk (show K1 = a + ((ss.take i).flatten ++ [(g,i * 6,false)] ++ s1).length by have:=HK.out;(try simp only [List.length_append,List.length_cons,List.length_nil] at this);(try simp only [List.length_append,List.length_cons,List.length_nil]);omega)
   have lK1 : K1 ≤ 9000000:=by omega
   have mK1 : 1 ≤ K1:=by omega
   clear hK1 hm
   replace hle : K1 + (s2.length + s3.length + s4.length + s5.length) ≤ 9000000:=by have:=HE1.out;omega
   have hx2:=HM.out.tp.sl _ _ _ _ HX2.out
   go_wp2_with fail
   clear hx2
   refine (markStringS_any _ s2 (K1) (by omega) _ (RowOf.tp HM.out.tp HV2.out) (by omega) (by omega)).mono ?_
   rintro e w2 ⟨rfl,hm⟩
   replace HM:=Mk (Marked.more HM.out (K:=K1) (by have:=HK.out;(try simp only [List.length_append,List.length_cons,List.length_nil] at this);(try simp only [List.length_append,List.length_cons,List.length_nil]);omega) hm)
   obtain ⟨K2,hK2⟩ : ∃ K_ : Nat,K_ = K1 + s2.length:=⟨_,rfl⟩
   rw [← hK2]
   have HE2:=Mk hK2
   replace HK:=Mk (show K2 = a + ((ss.take i).flatten ++ [(g,i * 6,false)] ++ s1 ++ s2).length by have:=HK.out;(try simp only [List.length_append,List.length_cons,List.length_nil] at this);(try simp only [List.length_append,List.length_cons,List.length_nil]);omega)
   have lK2 : K2 ≤ 9000000:=by omega
   have mK2 : 1 ≤ K2:=by omega
   clear hK2 hm
   replace hle : K2 + (s3.length + s4.length + s5.length) ≤ 9000000:=by have:=HE2.out;omega
   have hx3:=HM.out.tp.sl _ _ _ _ HX3.out
   go_wp2_with fail
   clear hx3
   refine (markStringS_any _ s3 (K2) (by omega) _ (RowOf.tp HM.out.tp HV3.out) (by omega) (by omega)).mono ?_
   rintro e w3 ⟨rfl,hm⟩
   replace HM:=Mk (Marked.more HM.out (K:=K2) (by have:=HK.out;(try simp only [List.length_append,List.length_cons,List.length_nil] at this);(try simp only [List.length_append,List.length_cons,List.length_nil]);omega) hm)
   obtain ⟨K3,hK3⟩ : ∃ K_ : Nat,K_ = K2 + s3.length:=⟨_,rfl⟩
   rw [← hK3]
   have HE3:=Mk hK3
   replace HK:=Mk (show K3 = a + ((ss.take i).flatten ++ [(g,i * 6,false)] ++ s1 ++ s2 ++ s3).length by have:=HK.out;(try simp only [List.length_append,List.length_cons,List.length_nil] at this);(try simp only [List.length_append,List.length_cons,List.length_nil]);omega)
   have lK3 : K3 ≤ 9000000:=by omega
   have mK3 : 1 ≤ K3:=by omega
   clear hK3 hm
   replace hle : K3 + (s4.length + s5.length) ≤ 9000000:=by have:=HE3.out;omega
   have hx4:=HM.out.tp.sl _ _ _ _ HX4.out
   go_wp2_with fail
   clear hx4
   refine (markIntS_any _ s4 (K3) (by omega) _ (RowOf.tp HM.out.tp HV4.out) (by omega) (by omega)).mono ?_
   rintro e w4 ⟨rfl,hm⟩
   replace HM:=Mk (Marked.more HM.out (K:=K3) (by have:=HK.out;(try simp only [List.length_append,List.length_cons,List.length_nil] at this);(try simp only [List.length_append,List.length_cons,List.length_nil]);omega) hm)
   obtain ⟨K4,hK4⟩ : ∃ K_ : Nat,K_ = K3 + s4.length:=⟨_,rfl⟩
   rw [← hK4]
   have HE4:=Mk hK4
   replace HK:=Mk (show K4 = a + ((ss.take i).flatten ++ [(g,i * 6,false)] ++ s1 ++ s2 ++ s3 ++ s4).length by have:=HK.out;(try simp only [List.length_append,List.length_cons,List.length_nil] at this);(try simp only [List.length_append,List.length_cons,List.length_nil]);omega)
   have lK4 : K4 ≤ 9000000:=by omega
   have mK4 : 1 ≤ K4:=by omega
   clear hK4 hm
   replace hle : K4 + (s5.length) ≤ 9000000:=by have:=HE4.out;omega
   have hx5:=HM.out.tp.sl _ _ _ _ HX5.out
   go_wp2_with fail
   clear hx5
   refine (markInsS_any _ s5 (K4) (by omega) _ (RowOf.tp HM.out.tp HV5.out) (by omega) (by omega)).mono ?_
   rintro e w5 ⟨rfl,hm⟩
   replace HM:=Mk (Marked.more HM.out (K:=K4) (by have:=HK.out;(try simp only [List.length_append,List.length_cons,List.length_nil] at this);(try simp only [List.length_append,List.length_cons,List.length_nil]);omega) hm)
   obtain ⟨K5,hK5⟩ : ∃ K_ : Nat,K_ = K4 + s5.length:=⟨_,rfl⟩
   rw [← hK5]
   have HE5:=Mk hK5
   replace HK:=Mk (show K5 = a + ((ss.take i).flatten ++ [(g,i * 6,false)] ++ s1 ++ s2 ++ s3 ++ s4 ++ s5).length by have:=HK.out;(try simp only [List.length_append,List.length_cons,List.length_nil] at this);(try simp only [List.length_append,List.length_cons,List.length_nil]);omega)
   have lK5 : K5 ≤ 9000000:=by omega
   have mK5 : 1 ≤ K5:=by omega
   clear hK5 hm
   go_wp2
   go_roundw
   case rel =>
    exact ⟨i + 1,K5,by omega,by go_num,by first | rfl | go_num,by omega,by omega,⟨by rw [take_flat HS.out,HT.out];have:=HK.out;(try simp only [List.length_append,List.length_cons,List.length_nil] at this);(try simp only [List.length_append,List.length_cons,List.length_nil]);omega⟩,⟨by rw [take_flat HS.out,HT.out];have:=HM.out;simpa only [List.append_assoc] using this⟩⟩
   case measure=>simp [intOf];omega
  ·have hin : i = ss.length:=by have:=HN.out;omega
   have HL:=Mk hin
   clear hin
   go_wp2
   go_ret
   have e:=HK.out
   subst e
   rw [HL.out,List.take_length] at HM ⊢
   exact ⟨rfl,HM.out⟩
section
def key (p : Slot) : Nat × Nat:=(p.1,p.2.1)
structure Fits (D : Prop) {α : Type} (d : Kd α) (t : Ty) (cnt : α → Nat) : Prop where
 sz : d.sz = t.sz
 go : ∀ (w : World) (base : Nat) (ok : Nat → Prop) (x : α) (cs : List Value) (g o : Nat),d.M w base ok x cs → (∀ j u,cs[j]? = some u → w.cell? ⟨g,o + j,none⟩ = some u ∧ w.frozen? ⟨g,o + j,none⟩ = false) →
  ∃ sl,Cel w t g o sl ∧ (∀ p ∈ sl,(p.1 = g ∧ o ≤ p.2.1 ∧ p.2.1 < o + t.sz) ∨ (ok p.1 ∧ base ≤ p.1)) ∧ (D → ¬ ok g → (sl.map key).Nodup) ∧ sl.length = cnt x
theorem Fits.iso {D : Prop} {α β : Type} {d : Kd α} {t : Ty} {cnt : α → Nat} (h : Fits D d t cnt) (f : β → α) : Fits D (Kd.iso d f) t (fun x=>cnt (f x)):=⟨h.sz,fun w base ok x cs g o hM hc=>h.go w base ok (f x) cs g o hM hc⟩
theorem fits_int {D : Prop} : Fits D (Kd.int .i64) (.int .nil) (fun _=>1):=⟨rfl,fun w base ok x cs g o hM hc=>by
 obtain rfl : cs = [.int .i64 x]:=hM
 obtain ⟨h1,h2⟩:=hc 0 _ rfl
 refine ⟨[(g,o,false)],⟨⟨_,h1⟩,h2,[],rfl,rfl⟩,fun p hp=>.inl ?_,fun _ _=>by simp,rfl⟩
 obtain rfl:=List.mem_singleton.1 hp
 exact ⟨rfl,Nat.le_refl _,Nat.lt_succ_self _⟩⟩
theorem fits_str {D : Prop} : Fits D Kd.string (.str .nil) (fun _=>1):=⟨rfl,fun w base ok x cs g o hM hc=>by
 obtain rfl : cs = [.string x]:=hM
 obtain ⟨h1,h2⟩:=hc 0 _ rfl
 refine ⟨[(g,o,true)],⟨⟨_,h1⟩,h2,[],rfl,rfl⟩,fun p hp=>.inl ?_,fun _ _=>by simp,rfl⟩
 obtain rfl:=List.mem_singleton.1 hp
 exact ⟨rfl,Nat.le_refl _,Nat.lt_succ_self _⟩⟩
theorem fits_cons {D : Prop} {base : Nat} {ok : Nat → Prop} {t : Ty} {g o : Nat} {b : Bool} {r : List Slot} (hin : ∀ p ∈ r,(p.1 = g ∧ o + 1 ≤ p.2.1 ∧ p.2.1 < o + 1 + t.sz) ∨ (ok p.1 ∧ base ≤ p.1)) (hnd : D → ¬ ok g → (r.map key).Nodup) :
  (∀ p ∈ (g,o,b) :: r,(p.1 = g ∧ o ≤ p.2.1 ∧ p.2.1 < o + (t.sz + 1)) ∨ (ok p.1 ∧ base ≤ p.1)) ∧ (D → ¬ ok g → (((g,o,b) :: r).map key).Nodup):=by
 refine ⟨fun p hp=>?_,fun hD hg=>?_⟩
 ·rcases List.mem_cons.1 hp with rfl | hp
  ·exact .inl ⟨rfl,Nat.le_refl _,by show o < _;omega⟩
  ·rcases hin p hp with ⟨h1,h2,h3⟩ | h
   ·exact .inl ⟨h1,by omega,by omega⟩
   ·exact .inr h
 ·rw [List.map_cons,List.nodup_cons]
  refine ⟨fun hm=>?_,hnd hD hg⟩
  obtain ⟨p,hp,he⟩:=List.mem_map.1 hm
  have e1 : p.1 = g:=(Prod.mk.inj he).1
  have e2 : p.2.1 = o:=(Prod.mk.inj he).2
  rcases hin p hp with ⟨_,h2,_⟩ | h
  ·omega
  ·exact hg (e1 ▸ h.1)
theorem tail_cells {w : World} {g o : Nat} {c : Value} {cs : List Value} (hc : ∀ j u,(c :: cs)[j]? = some u → w.cell? ⟨g,o + j,none⟩ = some u ∧ w.frozen? ⟨g,o + j,none⟩ = false) :
  ∀ j u,cs[j]? = some u → w.cell? ⟨g,o + 1 + j,none⟩ = some u ∧ w.frozen? ⟨g,o + 1 + j,none⟩ = false:=fun j u hu=>by
 have:=hc (j + 1) u (by simpa using hu)
 rwa [show o + (j + 1) = o + 1 + j by omega] at this
theorem fits_int_pr {α : Type} {b : Kd α} {t : Ty} {cnt : α → Nat} (h : Fits True b t cnt) : Fits True (pr (Kd.int .i64) b) (.int t) (fun x=>1 + cnt x.2):=⟨by show 1 + b.sz = t.sz + 1;rw [h.sz,Nat.add_comm],fun w base ok x cs g o hM hc=>by
 obtain ⟨c0,c1,rfl,p,h0,h1⟩:=hM
 obtain rfl : c0 = [.int .i64 x.1]:=h0
 obtain ⟨r,hr,hin,hnd,hct⟩:=h.go w base _ x.2 c1 g (o + 1) h1 (tail_cells hc)
 obtain ⟨hA,hB⟩:=fits_cons (b:=false) (D:=True) (ok:=ok) (fun p hp=>(hin p hp).imp id (fun h=>⟨h.1.1,h.2⟩)) (fun hD hg=>hnd hD (fun hk=>hg hk.1))
 exact ⟨_,⟨⟨_,(hc 0 _ rfl).1⟩,(hc 0 _ rfl).2,r,rfl,hr⟩,hA,hB,by rw [List.length_cons,hct,Nat.add_comm]⟩⟩
theorem choose_list {α : Type} {P : Nat → α → Prop} : ∀ n,(∀ j,j < n → ∃ t,P j t) → ∃ ss : List α,ss.length = n ∧ ∀ j t,ss[j]? = some t → P j t
 | 0,_=>⟨[],rfl,fun j t h=>by simp at h⟩
 | n + 1,h=>by
  obtain ⟨ss,hl,hs⟩:=choose_list n (fun j hj=>h j (by omega))
  obtain ⟨t,ht⟩:=h n (Nat.lt_succ_self n)
  refine ⟨ss ++ [t],by simp [hl],fun j u hu=>?_⟩
  rcases Nat.lt_or_ge j n with hj | hj
  ·rw [List.getElem?_append_left (by omega)] at hu
   exact hs j u hu
  ·rw [List.getElem?_append_right (by omega),hl] at hu
   rcases Nat.eq_zero_or_pos (j - n) with h0 | h0
   ·rw [h0] at hu
    obtain rfl : t = u:=by simpa using hu
    rwa [show j = n by omega]
   ·rw [List.getElem?_eq_none (by simp;omega)] at hu;cases hu
theorem nodup_flat {ss : List (List Slot)} (h1 : ∀ l ∈ ss,(l.map key).Nodup) (h2 : ∀ (i j : Nat) (s t : List Slot),i < j → ss[i]? = some s → ss[j]? = some t → ∀ p ∈ s,∀ q ∈ t,key p ≠ key q) : (ss.flatten.map key).Nodup:=by
 rw [List.map_flatten,List.nodup_iff_pairwise_ne,List.pairwise_flatten]
 refine ⟨fun l hl=>?_,?_⟩
 ·obtain ⟨m,hm,rfl⟩:=List.mem_map.1 hl
  exact List.nodup_iff_pairwise_ne.1 (h1 m hm)
 ·rw [List.pairwise_map,List.pairwise_iff_getElem]
  intro i j hi hj hij x hx y hy
  obtain ⟨p,hp,rfl⟩:=List.mem_map.1 hx
  obtain ⟨q,hq,rfl⟩:=List.mem_map.1 hy
  exact h2 i j _ _ hij (List.getElem?_eq_getElem hi) (List.getElem?_eq_getElem hj) p hp q hq
theorem sum_flat {α : Type} {cnt : α → Nat} : ∀ (xs : List α) (ss : List (List Slot)),ss.length = xs.length → (∀ (j : Nat) (s : List Slot) (x : α),ss[j]? = some s → xs[j]? = some x → s.length = cnt x) → ss.flatten.length = (xs.map cnt).sum
 | [],ss,h,_=>by
  obtain rfl:=List.eq_nil_of_length_eq_zero h
  rfl
 | x :: xs,[],h,_=>by simp at h
 | x :: xs,s :: ss,h,hs=>by
  rw [List.flatten_cons,List.length_append,List.map_cons,List.sum_cons,sum_flat xs ss (by simpa using h) (fun j s x h1 h2=>hs (j + 1) s x (by simpa using h1) (by simpa using h2)),hs 0 s x rfl rfl]
theorem S_slots {α : Type} {d : Kd α} {t : Ty} {cnt : α → Nat} (hF : Fits True d t cnt) {e base : Nat} {ok : Nat → Prop} {w : World} {v : Value} {xs : List α} (h : Kd.S d e w base ok v xs) (c : Nat) (hc : xs.length ≤ c) :
  ∃ s,RowOf (Cel w t) t.sz (cutV v c) s ∧ (∀ p ∈ s,ok p.1 ∧ base ≤ p.1) ∧ (s.map key).Nodup ∧ s.length = (xs.map cnt).sum:=by
 obtain ⟨A,c0,rfl,hc0,hC⟩:=Kd.S_reads h
 rcases A with _ | ad
 ·have h0 : xs.length = 0:=by
   rcases Nat.eq_zero_or_pos xs.length with h0 | h0
   ·exact h0
   ·obtain ⟨ad,he,_⟩:=hC.2.2 h0
    cases he
  exact ⟨[],.inl ⟨c,by rw [h0];rfl,rfl⟩,(fun p hp=>by cases hp),by simp,by rw [List.eq_nil_of_length_eq_zero h0];rfl⟩
 ·obtain ⟨g,rfl⟩:=Kd.R_head (Kd.S_R h)
  have hbase : ok g ∧ base ≤ g:=⟨(Kd.S_R h).1 g rfl,Kd.R_base (Kd.S_R h) g rfl⟩
  obtain ⟨f,hR⟩:=h
  have hzl : xs.zipIdx.length = xs.length:=List.length_zipIdx
  obtain ⟨ss,hl,hs⟩:=choose_list (P:=fun j s=>Cel w t g (j * t.sz) s ∧ (∀ p ∈ s,(p.1 = g ∧ j * t.sz ≤ p.2.1 ∧ p.2.1 < j * t.sz + t.sz) ∨ (((ok p.1 ∧ p.1 ≠ g) ∧ f p.1 = j) ∧ base ≤ p.1)) ∧ (s.map key).Nodup ∧ ∀ x,xs[j]? = some x → s.length = cnt x) xs.length (fun j hj=>by
   obtain ⟨cs,hcl,hM,hcc,hfr⟩:=Kd.R_elem hR (xs[j]'hj,j) (j : Int) (by omega) (by omega)
   rw [Int.toNat_natCast] at hcc hM hfr
   have hz : xs.zipIdx.getD j (xs[j]'hj,j) = (xs[j]'hj,j):=by
    rw [List.getD_eq_getElem?_getD,Kd.zip_at (List.getElem?_eq_getElem hj)];rfl
   rw [hz] at hM
   have hsz : (Kd.tag f d).sz = t.sz:=hF.sz
   rw [hsz] at hcc hfr
   obtain ⟨s,hs,hin,hnd,hct⟩:=hF.go w base _ _ cs g (j * t.sz) hM (fun i u hu=>⟨hcc i u hu,hfr i⟩)
   exact ⟨s,hs,fun p hp=>(hin p hp).imp id (fun h=>h),hnd trivial (fun hk=>hk.1.2 rfl),fun x hx=>by
    obtain ⟨_,rfl⟩:=List.getElem?_eq_some_iff.1 hx
    exact hct⟩)
  refine ⟨ss.flatten,.inr ⟨g,xs.length,c,rfl,hc,hC.2.1,ss,hl,rfl,fun j s hj=>(hs j s hj).1⟩,fun p hp=>?_,nodup_flat (fun l hl=>?_) ?_,sum_flat xs ss hl (fun j s x h1 h2=>(hs j s h1).2.2.2 x h2)⟩
  ·obtain ⟨l,hl,hpl⟩:=List.mem_flatten.1 hp
   obtain ⟨j,hj⟩:=List.getElem?_of_mem hl
   exact ((hs j l hj).2.1 p hpl).elim (fun h=>h.1 ▸ hbase) (fun h=>⟨h.1.1.1,h.2⟩)
  ·obtain ⟨j,hj⟩:=List.getElem?_of_mem hl
   exact (hs j l hj).2.2.1
  ·intro i j s u hij hi hj p hp q hq he
   have e1 : p.1 = q.1:=(Prod.mk.inj he).1
   have e2 : p.2.1 = q.2.1:=(Prod.mk.inj he).2
   have hm : i * t.sz + t.sz ≤ j * t.sz:=by rw [← Nat.succ_mul];exact Nat.mul_le_mul_right _ hij
   rcases (hs i s hi).2.1 p hp with ⟨a1,a2,a3⟩ | ⟨⟨⟨a1,a2⟩,a3⟩,a4⟩<;>rcases (hs j u hj).2.1 q hq with ⟨b1,b2,b3⟩ | ⟨⟨⟨b1,b2⟩,b3⟩,b4⟩
   ·omega
   ·exact b2 (e1 ▸ a1)
   ·exact a2 (e1 ▸ b1)
   ·rw [e1,b3] at a3;omega
theorem fits_row {α : Type} {d : Kd α} {e : Nat} {te : Ty} {cnt : α → Nat} (h : Fits True d te cnt) : Fits True (sl e d) (.row te .nil) (fun xs=>(xs.map cnt).sum):=⟨rfl,fun w base ok x cs g o hM hc=>by
 obtain ⟨v,c,rfl,hl,hS⟩:=hM
 obtain ⟨s,hr,hin,hnd,hct⟩:=S_slots h hS c hl
 exact ⟨s ++ [],⟨_,s,[],(hc 0 _ rfl).1,hr,rfl,rfl⟩,fun p hp=>.inr (hin p (by simpa using hp)),(fun _ _=>by simpa using hnd),by simpa using hct⟩⟩
theorem fits_row_pr {α β : Type} {d : Kd α} {b : Kd β} {e : Nat} {te t : Ty} {cnt : α → Nat} {cn2 : β → Nat} (h : Fits True d te cnt) (hb : Fits True b t cn2) : Fits True (pr (sl e d) b) (.row te t) (fun x=>(x.1.map cnt).sum + cn2 x.2):=⟨by show 1 + b.sz = t.sz + 1;rw [hb.sz,Nat.add_comm],fun w base ok x cs g o hM hc=>by
 obtain ⟨c0,c1,rfl,p,h0,h1⟩:=hM
 obtain ⟨v,c,rfl,hl,hS⟩:=h0
 obtain ⟨s,hr,hin,hnd,hct⟩:=S_slots h hS c hl
 obtain ⟨r,hr2,hin2,hnd2,hct2⟩:=hb.go w base _ x.2 c1 g (o + 1) h1 (tail_cells hc)
 refine ⟨s ++ r,⟨_,s,r,(hc 0 _ rfl).1,hr,rfl,hr2⟩,fun q hq=>?_,fun hD hg=>?_,by rw [List.length_append,hct,hct2]⟩
 ·rcases List.mem_append.1 hq with hq | hq
  ·exact .inr ⟨(hin q hq).1.1,(hin q hq).2⟩
  ·rcases hin2 q hq with ⟨a1,a2,a3⟩ | a
   ·exact .inl ⟨a1,by omega,by show q.2.1 < o + (t.sz + 1);omega⟩
   ·exact .inr ⟨a.1.1,a.2⟩
 ·rw [List.map_append,List.nodup_append]
  refine ⟨hnd,hnd2 hD (fun hk=>hg hk.1),fun a ha b hb he=>?_⟩
  obtain ⟨q,hq,rfl⟩:=List.mem_map.1 ha
  obtain ⟨q',hq',rfl⟩:=List.mem_map.1 hb
  have e1 : q.1 = q'.1:=(Prod.mk.inj he).1
  have a1:=(hin q hq).1
  rcases hin2 q' hq' with ⟨b1,_,_⟩ | b1
  ·rw [e1,b1] at a1;exact hg a1.1
  ·rw [e1] at a1;exact b1.1.2 a1.2⟩
end
section
def Held (w : World) (s : List Slot) (a : Nat) : Prop:=∀ j p,s[j]? = some p → w.cell? ⟨p.1,p.2.1,none⟩ = some (mkv p.2.2 (a + j))
theorem Held.below {w w' : World} {s : List Slot} {a : Nat} (h : Held w s a) (hb : Below w.heap.size w w') : Held w' s a:=fun j p hj=>by
 have:=h j p hj
 exact (hb.cell (World.block_lt_of_cell? w _ this)).trans this
theorem Held.left {w : World} {s1 s2 : List Slot} {a : Nat} (h : Held w (s1 ++ s2) a) : Held w s1 a:=fun j p hj=>h j p (by
 rw [List.getElem?_append_left (List.getElem?_eq_some_iff.1 hj).1];exact hj)
theorem Held.right {w : World} {s1 s2 : List Slot} {a : Nat} (h : Held w (s1 ++ s2) a) : Held w s2 (a + s1.length):=fun j p hj=>by
 have:=h (s1.length + j) p (by rw [List.getElem?_append_right (Nat.le_add_right _ _),Nat.add_sub_cancel_left];exact hj)
 rwa [← Nat.add_assoc] at this
theorem Held.one {w : World} {g o : Nat} {t : Bool} {a : Nat} (h : Held w [(g,o,t)] a) : w.cell? ⟨g,o,none⟩ = some (mkv t a):=h 0 _ rfl
theorem Held.flat {w : World} {ss : List (List Slot)} {a i : Nat} {t : List Slot} (h : Held w ss.flatten a) (hi : ss[i]? = some t) : Held w t (a + (ss.take i).flatten.length):=by
 obtain ⟨hl,rfl⟩:=List.getElem?_eq_some_iff.1 hi
 have e : ss.flatten = (ss.take i).flatten ++ (ss[i] ++ (ss.drop (i + 1)).flatten):=by
  have e2 : ss.flatten = (ss.take i ++ ss.drop i).flatten:=by rw [List.take_append_drop]
  rw [e2,List.flatten_append,List.drop_eq_getElem_cons hl,List.flatten_cons]
 rw [e] at h
 exact h.right.left
theorem Marked.held {w w' : World} {s : List Slot} {a : Nat} (h : Marked w w' s a) (hn : (s.map key).Nodup) : Held w' s a:=h.at_ hn
end
set_option maxHeartbeats 2000000 in
set_option maxRecDepth 100000 in
theorem heldIntS_any (v : Value) (s : List Slot) (a : Nat) {ai : Int} (hai : ai = (a : Int)) (w : World) (hs : RowOf (Cel w tyInt) 1 v s) (h1 : 1 ≤ a) (hb : a + s.length ≤ 9000000) (hh : Held w s a) :
  Calls Tryz.prog 24 #[v,.int .i64 ai] w fun e w'=>e = .returned (.int .i64 ((a + s.length : Nat) : Int)) ∧ Below w.heap.size w w':=by
 subst hai
 obtain ⟨A,n,c,ss,rfl,hnc,hcm,hn,rfl,hel⟩:=hs.all
 have HEL:=Mk hel
 have HN:=Mk hn
 have HH:=Mk hh
 have HB:=Mk (Below.refl w.heap.size w)
 have hnm : n ≤ 9223372036854775807:=by unfold maxLen at hcm;omega
 clear hel hn hs hcm hnc hh
 go_enter Tryz.func24,Tryz.ntmps24
 go_wp2
 go_loopw [1,5] (fun v1 v5 wr=>∃ i K : Nat,i ≤ n ∧ v5 = .int .i64 i ∧ v1 = .int .i64 K ∧ 1 ≤ K ∧ K ≤ 9000000 ∧ Aside0 (K = a + (ss.take i).flatten.length) ∧ Aside0 (Below w.heap.size w wr)) (fun _ v5 _=>n - (intOf v5).toNat)
 case atStart=>exact ⟨0,a,Nat.zero_le _,rfl,rfl,h1,by omega,⟨by simp⟩,HB⟩
 case round =>
  clear HB
  obtain ⟨i,K0,hi,rfl,rfl,hK1,hK2,HK,HB⟩:=hrel
  by_cases hlt : i < n
  ·have hsl:=List.getElem?_eq_getElem (show i < ss.length by have:=HN.out;omega)
   obtain ⟨g,hA,hc⟩:=HEL.out i _ hsl
   subst hA
   generalize ss[i]'(by have:=HN.out;omega) = t at hsl hc
   have HS:=Mk hsl
   have hq:=HH.out.flat hsl
   rw [Nat.mul_one] at hc
   obtain ⟨_,_,r0,ht0,hrn⟩:=hc
   obtain rfl : r0 = []:=hrn
   have HT:=Mk (show t = [(g,i,false)] by rw [ht0];first | done | simp)
   clear ht0 hsl
   rw [HT.out,← HK.out] at hq
   have hx0 : w.cell? ⟨g,i,none⟩ = some (.int .i64 (K0 : Int)):=hq.one
   have HX0:=Mk hx0
   clear hx0
   have hle : K0 + (1) ≤ 9000000:=by
    have h1:=take_flat HS.out
    have h2:=flat_le ss (i + 1)
    have h3:=HK.out
    rw [h1,HT.out] at h2
    (try simp only [List.length_append,List.length_cons,List.length_nil,Nat.zero_add] at h2)
    omega
   clear hq
   have hx0 : _ = some (Value.int .i64 ((K0 : Int))):=(HB.out.cell (World.block_lt_of_cell? w _ HX0.out)).trans (HX0.out.trans (by rw [show ((K0 : Nat) : Int) = (K0 : Int) by omega]))
   go_wp2
   go_roundw
   case rel=>exact ⟨i + 1,K0 + 1,by omega,by go_num,by first | rfl | go_num,by omega,by omega,⟨by rw [take_flat HS.out,HT.out];have:=HK.out;(try simp only [List.length_append,List.length_cons,List.length_nil] at this);(try simp only [List.length_append,List.length_cons,List.length_nil]);omega⟩,HB⟩
   case measure=>simp [intOf];omega
  ·have hin : i = ss.length:=by have:=HN.out;omega
   have HL:=Mk hin
   clear hin
   go_wp2
   go_ret
   have e:=HK.out
   subst e
   rw [HL.out,List.take_length]
   exact ⟨rfl,HB.out⟩
set_option maxHeartbeats 2000000 in
set_option maxRecDepth 100000 in
theorem heldStringS_any (v : Value) (s : List Slot) (a : Nat) {ai : Int} (hai : ai = (a : Int)) (w : World) (hs : RowOf (Cel w tyString) 1 v s) (h1 : 1 ≤ a) (hb : a + s.length ≤ 9000000) (hh : Held w s a) :
  Calls Tryz.prog 51 #[v,.int .i64 ai] w fun e w'=>e = .returned (.int .i64 ((a + s.length : Nat) : Int)) ∧ Below w.heap.size w w':=by
 subst hai
 obtain ⟨A,n,c,ss,rfl,hnc,hcm,hn,rfl,hel⟩:=hs.all
 have HEL:=Mk hel
 have HN:=Mk hn
 have HH:=Mk hh
 have HB:=Mk (Below.refl w.heap.size w)
 have hnm : n ≤ 9223372036854775807:=by unfold maxLen at hcm;omega
 clear hel hn hs hcm hnc hh
 go_enter Tryz.func51,Tryz.ntmps51
 go_wp2
 go_loopw [1,5] (fun v1 v5 wr=>∃ i K : Nat,i ≤ n ∧ v5 = .int .i64 i ∧ v1 = .int .i64 K ∧ 1 ≤ K ∧ K ≤ 9000000 ∧ Aside0 (K = a + (ss.take i).flatten.length) ∧ Aside0 (Below w.heap.size w wr)) (fun _ v5 _=>n - (intOf v5).toNat)
 case atStart=>exact ⟨0,a,Nat.zero_le _,rfl,rfl,h1,by omega,⟨by simp⟩,HB⟩
 case round =>
  clear HB
  obtain ⟨i,K0,hi,rfl,rfl,hK1,hK2,HK,HB⟩:=hrel
  by_cases hlt : i < n
  ·have hsl:=List.getElem?_eq_getElem (show i < ss.length by have:=HN.out;omega)
   obtain ⟨g,hA,hc⟩:=HEL.out i _ hsl
   subst hA
   generalize ss[i]'(by have:=HN.out;omega) = t at hsl hc
   have HS:=Mk hsl
   have hq:=HH.out.flat hsl
   rw [Nat.mul_one] at hc
   obtain ⟨_,_,r0,ht0,hrn⟩:=hc
   obtain rfl : r0 = []:=hrn
   have HT:=Mk (show t = [(g,i,true)] by rw [ht0];first | done | simp)
   clear ht0 hsl
   rw [HT.out,← HK.out] at hq
   have hx0 : w.cell? ⟨g,i,none⟩ = some (.string (mtx K0)):=hq.one
   have HX0:=Mk hx0
   clear hx0
   have hle : K0 + (1) ≤ 9000000:=by
    have h1:=take_flat HS.out
    have h2:=flat_le ss (i + 1)
    have h3:=HK.out
    rw [h1,HT.out] at h2
    (try simp only [List.length_append,List.length_cons,List.length_nil,Nat.zero_add] at h2)
    omega
   clear hq
   go_wp2_with fail
   have hx0:=(HB.out.cell (World.block_lt_of_cell? w _ HX0.out)).trans HX0.out
   replace HB:=Mk (below_drew1 HB.out)
   refine start_ (n:=7) (S:=fun w'=>w'.cell? ⟨g,i,none⟩ = some (Value.string (mtx (K0)))) (ds:=[]) #[false,false,false,false,false,false,false] (by kernel_rfl) rfl rfl hx0 (fun hHeld=>?_)
   clear hx0
   generalize wr.drew = wd at HB hHeld ⊢
   refine U.pn 0 (some 12) ?_
   refine U.pn 1 (some 13) ?_
   refine U.pn 2 (some 14) ?_
   refine U.pn 4 (some 16) ?_
   refine take_ (i:=3) (N:=some 15) (v:=?_) (a':=?_) #[true,true,true,true,true,false,false] rfl rfl (by kernel_rfl) (fun _ _ _ h=>h) (Or.inl ⟨by rfl,?_⟩) hHeld ?_ ?_
   rotate_left
   ·intro w' s0
    go_simp
    with_reducible rfl
   rotate_left
   ·simp only [Act.put,List.setIfInBounds_toArray,List.set_cons_zero,List.set_cons_succ,i64_w,i32_w]
    rfl
   refine one_ (i:=5) (N:=some 17) #[true,true,true,true,true,true,false] rfl rfl (by kernel_rfl) (by decide) (fun K hK=>?_)
   refine U.go Tryz.func82 #[.int .i64 ((K0 : Int))] ?_
   refine (mText_any (K0) (by omega) (by omega) (by omega) _).mono ?_
   rintro e w8 ⟨rfl,hb⟩
   refine ⟨_,rfl,?_⟩
   replace HB:=Mk (below_step HB.out hb)
   clear hb
   refine hK.out _ _ ((HB.out.cell (World.block_lt_of_cell? w _ HX0.out)).trans HX0.out) (fun hHeld=>?_)
   clear hK K
   refine U.nm 17 ?_
   refine U.pn 6 (some 18) ?_
   refine done_ (by kernel_rfl) ?_
   go_wp2
   go_roundw
   case rel=>exact ⟨i + 1,K0 + 1,by omega,by go_num,by first | rfl | go_num,by omega,by omega,⟨by rw [take_flat HS.out,HT.out];have:=HK.out;(try simp only [List.length_append,List.length_cons,List.length_nil] at this);(try simp only [List.length_append,List.length_cons,List.length_nil]);omega⟩,HB⟩
   case measure=>simp [intOf];omega
  ·have hin : i = ss.length:=by have:=HN.out;omega
   have HL:=Mk hin
   clear hin
   go_wp2
   go_ret
   have e:=HK.out
   subst e
   rw [HL.out,List.take_length]
   exact ⟨rfl,HB.out⟩
set_option maxHeartbeats 2000000 in
set_option maxRecDepth 100000 in
theorem heldInsS_any (v : Value) (s : List Slot) (a : Nat) {ai : Int} (hai : ai = (a : Int)) (w : World) (hs : RowOf (Cel w tyIns) 3 v s) (h1 : 1 ≤ a) (hb : a + s.length ≤ 9000000) (hh : Held w s a) :
  Calls Tryz.prog 52 #[v,.int .i64 ai] w fun e w'=>e = .returned (.int .i64 ((a + s.length : Nat) : Int)) ∧ Below w.heap.size w w':=by
 subst hai
 obtain ⟨A,n,c,ss,rfl,hnc,hcm,hn,rfl,hel⟩:=hs.all
 have HEL:=Mk hel
 have HN:=Mk hn
 have HH:=Mk hh
 have HB:=Mk (Below.refl w.heap.size w)
 have hnm : n ≤ 9223372036854775807:=by unfold maxLen at hcm;omega
 clear hel hn hs hcm hnc hh
 go_enter Tryz.func52,Tryz.ntmps52
 go_wp2
 go_loopw [1,5] (fun v1 v5 wr=>∃ i K : Nat,i ≤ n ∧ v5 = .int .i64 i ∧ v1 = .int .i64 K ∧ 1 ≤ K ∧ K ≤ 9000000 ∧ Aside0 (K = a + (ss.take i).flatten.length) ∧ Aside0 (Below w.heap.size w wr)) (fun _ v5 _=>n - (intOf v5).toNat)
 case atStart=>exact ⟨0,a,Nat.zero_le _,rfl,rfl,h1,by omega,⟨by simp⟩,HB⟩
 case round =>
  clear HB
  obtain ⟨i,K0,hi,rfl,rfl,hK1,hK2,HK,HB⟩:=hrel
  by_cases hlt : i < n
  ·have hsl:=List.getElem?_eq_getElem (show i < ss.length by have:=HN.out;omega)
   obtain ⟨g,hA,hc⟩:=HEL.out i _ hsl
   subst hA
   generalize ss[i]'(by have:=HN.out;omega) = t at hsl hc
   have HS:=Mk hsl
   have hq:=HH.out.flat hsl
   obtain ⟨_,_,r0,ht0,_,_,r1,ht1,_,_,r2,ht2,hrn⟩:=hc
   obtain rfl : r2 = []:=hrn
   subst ht2
   subst ht1
   have HT:=Mk (show t = [(g,i * 3,true)] ++ [(g,i * 3 + 1,false)] ++ [(g,i * 3 + 2,false)] by rw [ht0];first | done | simp)
   clear ht0 hsl
   rw [HT.out,← HK.out] at hq
   have hx2 : w.cell? ⟨g,i * 3 + 2,none⟩ = some (.int .i64 ((K0 + 1 + 1 : Nat) : Int)):=by have:=hq.right.one;simpa only [mkv,List.length_append,List.length_cons,List.length_nil,Nat.zero_add,Nat.add_assoc,if_true,Bool.false_eq_true,if_false] using this
   replace hq:=hq.left
   have hx1 : w.cell? ⟨g,i * 3 + 1,none⟩ = some (.int .i64 ((K0 + 1 : Nat) : Int)):=by have:=hq.right.one;simpa only [mkv,List.length_append,List.length_cons,List.length_nil,Nat.zero_add,Nat.add_assoc,if_true,Bool.false_eq_true,if_false] using this
   replace hq:=hq.left
   have hx0 : w.cell? ⟨g,i * 3,none⟩ = some (.string (mtx K0)):=hq.one
   have HX0:=Mk hx0
   clear hx0
   have HX1:=Mk hx1
   clear hx1
   have HX2:=Mk hx2
   clear hx2
   have hle : K0 + (1 + 1 + 1) ≤ 9000000:=by
    have h1:=take_flat HS.out
    have h2:=flat_le ss (i + 1)
    have h3:=HK.out
    rw [h1,HT.out] at h2
    (try simp only [List.length_append,List.length_cons,List.length_nil,Nat.zero_add] at h2)
    omega
   clear hq
   go_wp2_with fail
   have hx0:=(HB.out.cell (World.block_lt_of_cell? w _ HX0.out)).trans HX0.out
   replace HB:=Mk (below_drew1 HB.out)
   refine start_ (n:=8) (S:=fun w'=>w'.cell? ⟨g,i * 3,none⟩ = some (Value.string (mtx (K0)))) (ds:=[]) #[false,false,false,false,false,false,false,false] (by kernel_rfl) rfl rfl hx0 (fun hHeld=>?_)
   clear hx0
   generalize wr.drew = wd at HB hHeld ⊢
   refine U.pn 0 (some 12) ?_
   refine U.pn 1 (some 13) ?_
   refine U.pn 2 (some 14) ?_
   refine U.pn 3 (some 15) ?_
   refine U.pn 5 (some 17) ?_
   refine take_ (i:=4) (N:=some 16) (v:=?_) (a':=?_) #[true,true,true,true,true,true,false,false] rfl rfl (by kernel_rfl) (fun _ _ _ h=>h) (Or.inl ⟨by rfl,?_⟩) hHeld ?_ ?_
   rotate_left
   ·intro w' s0
    go_simp
    with_reducible rfl
   rotate_left
   ·simp only [Act.put,List.setIfInBounds_toArray,List.set_cons_zero,List.set_cons_succ,i64_w,i32_w]
    rfl
   refine one_ (i:=6) (N:=some 18) #[true,true,true,true,true,true,true,false] rfl rfl (by kernel_rfl) (by decide) (fun K hK=>?_)
   refine U.go Tryz.func82 #[.int .i64 ((K0 : Int))] ?_
   refine (mText_any (K0) (by omega) (by omega) (by omega) _).mono ?_
   rintro e w8 ⟨rfl,hb⟩
   refine ⟨_,rfl,?_⟩
   replace HB:=Mk (below_step HB.out hb)
   clear hb
   refine hK.out _ _ ((HB.out.cell (World.block_lt_of_cell? w _ HX0.out)).trans HX0.out) (fun hHeld=>?_)
   clear hK K
   refine U.nm 18 ?_
   refine U.pn 7 (some 19) ?_
   refine done_ (by kernel_rfl) ?_
   have hx1 : _ = some (Value.int .i64 ((K0 : Int) + 1)):=(HB.out.cell (World.block_lt_of_cell? w _ HX1.out)).trans (HX1.out.trans (by rw [show ((K0 + 1 : Nat) : Int) = (K0 : Int) + 1 by omega]))
   have hx2 : _ = some (Value.int .i64 ((K0 : Int) + 1 + 1)):=(HB.out.cell (World.block_lt_of_cell? w _ HX2.out)).trans (HX2.out.trans (by rw [show ((K0 + 1 + 1 : Nat) : Int) = (K0 : Int) + 1 + 1 by omega]))
   go_wp2
   go_roundw
   case rel=>exact ⟨i + 1,K0 + 3,by omega,by go_num,by first | rfl | go_num,by omega,by omega,⟨by rw [take_flat HS.out,HT.out];have:=HK.out;(try simp only [List.length_append,List.length_cons,List.length_nil] at this);(try simp only [List.length_append,List.length_cons,List.length_nil]);omega⟩,HB⟩
   case measure=>simp [intOf];omega
  ·have hin : i = ss.length:=by have:=HN.out;omega
   have HL:=Mk hin
   clear hin
   go_wp2
   go_ret
   have e:=HK.out
   subst e
   rw [HL.out,List.take_length]
   exact ⟨rfl,HB.out⟩
set_option maxHeartbeats 2000000 in
set_option maxRecDepth 100000 in
theorem heldRecordS_any (v : Value) (s : List Slot) (a : Nat) {ai : Int} (hai : ai = (a : Int)) (w : World) (hs : RowOf (Cel w tyRecord) 2 v s) (h1 : 1 ≤ a) (hb : a + s.length ≤ 9000000) (hh : Held w s a) :
  Calls Tryz.prog 22 #[v,.int .i64 ai] w fun e w'=>e = .returned (.int .i64 ((a + s.length : Nat) : Int)) ∧ Below w.heap.size w w':=by
 subst hai
 obtain ⟨A,n,c,ss,rfl,hnc,hcm,hn,rfl,hel⟩:=hs.all
 have HEL:=Mk hel
 have HN:=Mk hn
 have HH:=Mk hh
 have HB:=Mk (Below.refl w.heap.size w)
 have hnm : n ≤ 9223372036854775807:=by unfold maxLen at hcm;omega
 clear hel hn hs hcm hnc hh
 go_enter Tryz.func22,Tryz.ntmps22
 go_wp2
 go_loopw [1,5] (fun v1 v5 wr=>∃ i K : Nat,i ≤ n ∧ v5 = .int .i64 i ∧ v1 = .int .i64 K ∧ 1 ≤ K ∧ K ≤ 9000000 ∧ Aside0 (K = a + (ss.take i).flatten.length) ∧ Aside0 (Below w.heap.size w wr)) (fun _ v5 _=>n - (intOf v5).toNat)
 case atStart=>exact ⟨0,a,Nat.zero_le _,rfl,rfl,h1,by omega,⟨by simp⟩,HB⟩
 case round =>
  clear HB
  obtain ⟨i,K0,hi,rfl,rfl,hK1,hK2,HK,HB⟩:=hrel
  by_cases hlt : i < n
  ·have hsl:=List.getElem?_eq_getElem (show i < ss.length by have:=HN.out;omega)
   obtain ⟨g,hA,hc⟩:=HEL.out i _ hsl
   subst hA
   generalize ss[i]'(by have:=HN.out;omega) = t at hsl hc
   have HS:=Mk hsl
   have hq:=HH.out.flat hsl
   obtain ⟨_,_,r0,ht0,v1,s1,r1,hx1,hv1,ht1,hrn⟩:=hc
   obtain rfl : r1 = []:=hrn
   subst ht1
   have HT:=Mk (show t = [(g,i * 2,false)] ++ s1 by rw [ht0];first | done | simp)
   clear ht0 hsl
   rw [HT.out,← HK.out] at hq
   have HH1:=Mk (show Held w s1 (K0 + 1) from by have:=hq.right;simpa only [List.length_append,List.length_cons,List.length_nil,Nat.zero_add,Nat.add_assoc] using this)
   replace hq:=hq.left
   have hx0 : w.cell? ⟨g,i * 2,none⟩ = some (.int .i64 (K0 : Int)):=hq.one
   have HX0:=Mk hx0
   clear hx0
   obtain ⟨A1,n1,c1,rfl⟩:=hv1.slice
   have HX1:=Mk (show w.cell? ⟨g,i * 2 + 1,none⟩ = some (.slice A1 n1 c1) from hx1)
   have HV1:=Mk hv1
   clear hx1 hv1
   have hle : K0 + (1 + s1.length) ≤ 9000000:=by
    have h1:=take_flat HS.out
    have h2:=flat_le ss (i + 1)
    have h3:=HK.out
    rw [h1,HT.out] at h2
    (try simp only [List.length_append,List.length_cons,List.length_nil,Nat.zero_add] at h2)
    omega
   clear hq
   have hx0 : _ = some (Value.int .i64 ((K0 : Int))):=(HB.out.cell (World.block_lt_of_cell? w _ HX0.out)).trans (HX0.out.trans (by rw [show ((K0 : Nat) : Int) = (K0 : Int) by omega]))
   have hx1 : _ = some (Value.slice A1 n1 c1):=(HB.out.cell (World.block_lt_of_cell? w _ HX1.out)).trans HX1.out
   go_wp2_with fail
   clear hx0 hx1
   refine (heldStringS_any _ s1 (K0 + 1) (by omega) _ (RowOf.tp (TP.of_below HB.out) HV1.out) (by omega) (by omega) (by have:=HH1.out.below HB.out;exact this)).mono ?_
   rintro e w1 ⟨rfl,hb⟩
   replace HB:=Mk (below_step HB.out hb)
   obtain ⟨K1,hK1⟩ : ∃ K_ : Nat,K_ = K0 + 1 + s1.length:=⟨_,rfl⟩
   rw [← hK1]
   have HE:=Mk (show K1 = K0 + 1 + s1.length by omega)
   have lK1 : K1 ≤ 9000000:=by omega
   have mK1 : 1 ≤ K1:=by omega
   clear hK1 hb
   go_wp2
   go_roundw
   case rel=>exact ⟨i + 1,K1,by omega,by go_num,by first | rfl | go_num,by omega,by omega,⟨by rw [take_flat HS.out,HT.out];have:=HK.out;have h2:=HE.out;(try simp only [List.length_append,List.length_cons,List.length_nil] at this);(try simp only [List.length_append,List.length_cons,List.length_nil]);omega⟩,HB⟩
   case measure=>simp [intOf];omega
  ·have hin : i = ss.length:=by have:=HN.out;omega
   have HL:=Mk hin
   clear hin
   go_wp2
   go_ret
   have e:=HK.out
   subst e
   rw [HL.out,List.take_length]
   exact ⟨rfl,HB.out⟩
set_option maxHeartbeats 2000000 in
set_option maxRecDepth 100000 in
theorem heldFuncS_any (v : Value) (s : List Slot) (a : Nat) {ai : Int} (hai : ai = (a : Int)) (w : World) (hs : RowOf (Cel w tyFunc) 6 v s) (h1 : 1 ≤ a) (hb : a + s.length ≤ 9000000) (hh : Held w s a) :
  Calls Tryz.prog 23 #[v,.int .i64 ai] w fun e w'=>e = .returned (.int .i64 ((a + s.length : Nat) : Int)) ∧ Below w.heap.size w w':=by
 subst hai
 obtain ⟨A,n,c,ss,rfl,hnc,hcm,hn,rfl,hel⟩:=hs.all
 have HEL:=Mk hel
 have HN:=Mk hn
 have HH:=Mk hh
 have HB:=Mk (Below.refl w.heap.size w)
 have hnm : n ≤ 9223372036854775807:=by unfold maxLen at hcm;omega
 clear hel hn hs hcm hnc hh
 go_enter Tryz.func23,Tryz.ntmps23
 go_wp2
 go_loopw [1,5] (fun v1 v5 wr=>∃ i K : Nat,i ≤ n ∧ v5 = .int .i64 i ∧ v1 = .int .i64 K ∧ 1 ≤ K ∧ K ≤ 9000000 ∧ Aside0 (K = a + (ss.take i).flatten.length) ∧ Aside0 (Below w.heap.size w wr)) (fun _ v5 _=>n - (intOf v5).toNat)
 case atStart=>exact ⟨0,a,Nat.zero_le _,rfl,rfl,h1,by omega,⟨by simp⟩,HB⟩
 case round =>
  clear HB
  obtain ⟨i,K0,hi,rfl,rfl,hK1,hK2,HK,HB⟩:=hrel
  by_cases hlt : i < n
  ·have hsl:=List.getElem?_eq_getElem (show i < ss.length by have:=HN.out;omega)
   obtain ⟨g,hA,hc⟩:=HEL.out i _ hsl
   subst hA
   generalize ss[i]'(by have:=HN.out;omega) = t at hsl hc
   have HS:=Mk hsl
   have hq:=HH.out.flat hsl
   obtain ⟨_,_,r0,ht0,v1,s1,r1,hx1,hv1,ht1,v2,s2,r2,hx2,hv2,ht2,v3,s3,r3,hx3,hv3,ht3,v4,s4,r4,hx4,hv4,ht4,v5,s5,r5,hx5,hv5,ht5,hrn⟩:=hc
   obtain rfl : r5 = []:=hrn
   subst ht5
   subst ht4
   subst ht3
   subst ht2
   subst ht1
   have HT:=Mk (show t = [(g,i * 6,false)] ++ s1 ++ s2 ++ s3 ++ s4 ++ s5 by rw [ht0];first | done | simp)
   clear ht0 hsl
   rw [HT.out,← HK.out] at hq
   have HH5:=Mk (show Held w s5 (K0 + 1 + s1.length + s2.length + s3.length + s4.length) from by have:=hq.right;simpa only [List.length_append,List.length_cons,List.length_nil,Nat.zero_add,Nat.add_assoc] using this)
   replace hq:=hq.left
   have HH4:=Mk (show Held w s4 (K0 + 1 + s1.length + s2.length + s3.length) from by have:=hq.right;simpa only [List.length_append,List.length_cons,List.length_nil,Nat.zero_add,Nat.add_assoc] using this)
   replace hq:=hq.left
   have HH3:=Mk (show Held w s3 (K0 + 1 + s1.length + s2.length) from by have:=hq.right;simpa only [List.length_append,List.length_cons,List.length_nil,Nat.zero_add,Nat.add_assoc] using this)
   replace hq:=hq.left
   have HH2:=Mk (show Held w s2 (K0 + 1 + s1.length) from by have:=hq.right;simpa only [List.length_append,List.length_cons,List.length_nil,Nat.zero_add,Nat.add_assoc] using this)
   replace hq:=hq.left
   have HH1:=Mk (show Held w s1 (K0 + 1) from by have:=hq.right;simpa only [List.length_append,List.length_cons,List.length_nil,Nat.zero_add,Nat.add_assoc] using this)
   replace hq:=hq.left
   have hx0 : w.cell? ⟨g,i * 6,none⟩ = some (.int .i64 (K0 : Int)):=hq.one
   have HX0:=Mk hx0
   clear hx0
   obtain ⟨A1,n1,c1,rfl⟩:=hv1.slice
   have HX1:=Mk (show w.cell? ⟨g,i * 6 + 1,none⟩ = some (.slice A1 n1 c1) from hx1)
   have HV1:=Mk hv1
   clear hx1 hv1
   obtain ⟨A2,n2,c2,rfl⟩:=hv2.slice
   have HX2:=Mk (show w.cell? ⟨g,i * 6 + 2,none⟩ = some (.slice A2 n2 c2) from hx2)
   have HV2:=Mk hv2
   clear hx2 hv2
   obtain ⟨A3,n3,c3,rfl⟩:=hv3.slice
   have HX3:=Mk (show w.cell? ⟨g,i * 6 + 3,none⟩ = some (.slice A3 n3 c3) from hx3)
   have HV3:=Mk hv3
   clear hx3 hv3
   obtain ⟨A4,n4,c4,rfl⟩:=hv4.slice
   have HX4:=Mk (show w.cell? ⟨g,i * 6 + 4,none⟩ = some (.slice A4 n4 c4) from hx4)
   have HV4:=Mk hv4
   clear hx4 hv4
   obtain ⟨A5,n5,c5,rfl⟩:=hv5.slice
   have HX5:=Mk (show w.cell? ⟨g,i * 6 + 5,none⟩ = some (.slice A5 n5 c5) from hx5)
   have HV5:=Mk hv5
   clear hx5 hv5
   have hle : K0 + (1 + s1.length + s2.length + s3.length + s4.length + s5.length) ≤ 9000000:=by
    have h1:=take_flat HS.out
    have h2:=flat_le ss (i + 1)
    have h3:=HK.out
    rw [h1,HT.out] at h2
    (try simp only [List.length_append,List.length_cons,List.length_nil,Nat.zero_add] at h2)
    omega
   clear hq
   have hx0 : _ = some (Value.int .i64 ((K0 : Int))):=(HB.out.cell (World.block_lt_of_cell? w _ HX0.out)).trans (HX0.out.trans (by rw [show ((K0 : Nat) : Int) = (K0 : Int) by omega]))
   have hx1 : _ = some (Value.slice A1 n1 c1):=(HB.out.cell (World.block_lt_of_cell? w _ HX1.out)).trans HX1.out
   go_wp2_with fail
   clear hx0 hx1
   refine (heldStringS_any _ s1 (K0 + 1) (by omega) _ (RowOf.tp (TP.of_below HB.out) HV1.out) (by omega) (by omega) (by have:=HH1.out.below HB.out;exact this)).mono ?_
   rintro e w1 ⟨rfl,hb⟩
   replace HB:=Mk (below_step HB.out hb)
   obtain ⟨K1,hK1⟩ : ∃ K_ : Nat,K_ = K0 + 1 + s1.length:=⟨_,rfl⟩
   rw [← hK1]
   have HE:=Mk (show K1 = K0 + 1 + s1.length by omega)
   have lK1 : K1 ≤ 9000000:=by omega
   have mK1 : 1 ≤ K1:=by omega
   replace hle : K1 + (s2.length + s3.length + s4.length + s5.length) ≤ 9000000:=by omega
   clear hK1 hb
   have hx2 : _ = some (Value.slice A2 n2 c2):=(HB.out.cell (World.block_lt_of_cell? w _ HX2.out)).trans HX2.out
   go_wp2_with fail
   clear hx2
   refine (heldStringS_any _ s2 (K1) (by omega) _ (RowOf.tp (TP.of_below HB.out) HV2.out) (by omega) (by omega) (by have:=HH2.out.below HB.out;rw [show K1 = K0 + 1 + s1.length by have:=HE.out;omega];exact this)).mono ?_
   rintro e w2 ⟨rfl,hb⟩
   replace HB:=Mk (below_step HB.out hb)
   obtain ⟨K2,hK2⟩ : ∃ K_ : Nat,K_ = K1 + s2.length:=⟨_,rfl⟩
   rw [← hK2]
   replace HE:=Mk (show K2 = K0 + 1 + s1.length + s2.length by have:=HE.out;omega)
   have lK2 : K2 ≤ 9000000:=by omega
   have mK2 : 1 ≤ K2:=by omega
   replace hle : K2 + (s3.length + s4.length + s5.length) ≤ 9000000:=by omega
   clear hK2 hb
   have hx3 : _ = some (Value.slice A3 n3 c3):=(HB.out.cell (World.block_lt_of_cell? w _ HX3.out)).trans HX3.out
   go_wp2_with fail
   clear hx3
   refine (heldStringS_any _ s3 (K2) (by omega) _ (RowOf.tp (TP.of_below HB.out) HV3.out) (by omega) (by omega) (by have:=HH3.out.below HB.out;rw [show K2 = K0 + 1 + s1.length + s2.length by have:=HE.out;omega];exact this)).mono ?_
   rintro e w3 ⟨rfl,hb⟩
   replace HB:=Mk (below_step HB.out hb)
   obtain ⟨K3,hK3⟩ : ∃ K_ : Nat,K_ = K2 + s3.length:=⟨_,rfl⟩
   rw [← hK3]
   replace HE:=Mk (show K3 = K0 + 1 + s1.length + s2.length + s3.length by have:=HE.out;omega)
   have lK3 : K3 ≤ 9000000:=by omega
   have mK3 : 1 ≤ K3:=by omega
   replace hle : K3 + (s4.length + s5.length) ≤ 9000000:=by omega
   clear hK3 hb
   have hx4 : _ = some (Value.slice A4 n4 c4):=(HB.out.cell (World.block_lt_of_cell? w _ HX4.out)).trans HX4.out
   go_wp2_with fail
   clear hx4
   refine (heldIntS_any _ s4 (K3) (by omega) _ (RowOf.tp (TP.of_below HB.out) HV4.out) (by omega) (by omega) (by have:=HH4.out.below HB.out;rw [show K3 = K0 + 1 + s1.length + s2.length + s3.length by have:=HE.out;omega];exact this)).mono ?_
   rintro e w4 ⟨rfl,hb⟩
   replace HB:=Mk (below_step HB.out hb)
   obtain ⟨K4,hK4⟩ : ∃ K_ : Nat,K_ = K3 + s4.length:=⟨_,rfl⟩
   rw [← hK4]
   replace HE:=Mk (show K4 = K0 + 1 + s1.length + s2.length + s3.length + s4.length by have:=HE.out;omega)
   have lK4 : K4 ≤ 9000000:=by omega
   have mK4 : 1 ≤ K4:=by omega
   replace hle : K4 + (s5.length) ≤ 9000000:=by omega
   clear hK4 hb
   have hx5 : _ = some (Value.slice A5 n5 c5):=(HB.out.cell (World.block_lt_of_cell? w _ HX5.out)).trans HX5.out
   go_wp2_with fail
   clear hx5
   refine (heldInsS_any _ s5 (K4) (by omega) _ (RowOf.tp (TP.of_below HB.out) HV5.out) (by omega) (by omega) (by have:=HH5.out.below HB.out;rw [show K4 = K0 + 1 + s1.length + s2.length + s3.length + s4.length by have:=HE.out;omega];exact this)).mono ?_
   rintro e w5 ⟨rfl,hb⟩
   replace HB:=Mk (below_step HB.out hb)
   obtain ⟨K5,hK5⟩ : ∃ K_ : Nat,K_ = K4 + s5.length:=⟨_,rfl⟩
   rw [← hK5]
   replace HE:=Mk (show K5 = K0 + 1 + s1.length + s2.length + s3.length + s4.length + s5.length by have:=HE.out;omega)
   have lK5 : K5 ≤ 9000000:=by omega
   have mK5 : 1 ≤ K5:=by omega
   clear hK5 hb
   go_wp2
   go_roundw
   case rel=>exact ⟨i + 1,K5,by omega,by go_num,by first | rfl | go_num,by omega,by omega,⟨by rw [take_flat HS.out,HT.out];have:=HK.out;have h2:=HE.out;(try simp only [List.length_append,List.length_cons,List.length_nil] at this);(try simp only [List.length_append,List.length_cons,List.length_nil]);omega⟩,HB⟩
   case measure=>simp [intOf];omega
  ·have hin : i = ss.length:=by have:=HN.out;omega
   have HL:=Mk hin
   clear hin
   go_wp2
   go_ret
   have e:=HK.out
   subst e
   rw [HL.out,List.take_length]
   exact ⟨rfl,HB.out⟩
theorem clip_str (A0 : Option Addr) (n c0 : Nat) (w : World) (hc : n ≤ c0) (hm : n ≤ 9223372036854775807) :
  Calls Tryz.prog 95 #[.slice A0 n c0] w fun e w'=>e = .returned (.slice A0 n n) ∧ Below w.heap.size w w':=by
 obtain ⟨i0,hi0,_,hsz,_⟩:=info_parts OFnExactModuleRead.info9
 have hcut : ∀ W : World,(Instr.slice 32 (.slice A0 n c0) none (some (.int .i64 (n : Int))) (some (.int .i64 (n : Int)))).run Tryz.prog W = .ok (.slice A0 n n) W:=by
  intro W
  have ht:=Tryz.underlying32
  have hel : Tryz.prog.elem 32 = 9:=by simp [Program.elem,ht]
  have hu : Tryz.prog.underlying 32 = some (.slice (Tryz.prog.elem 32)):=by rw [hel];exact ht
  have ha : (A0.map fun x=>x.add 0) = A0:=by cases A0<;>simp [Addr.add]
  rw [run_slice_hm W 32 A0 n c0 hu .i64 .i64 n n (by omega) (by omega) (by omega),hel]
  simp [sizeOf,typeInfo,hi0,sliced,Result.andThen,ha]
 clear hc
 go_enter Tryz.func95,Tryz.ntmps95
 go_wp2
 go_ret
 exact ⟨rfl,Below.refl _ _⟩
theorem clip_int (A0 : Option Addr) (n c0 : Nat) (w : World) (hc : n ≤ c0) (hm : n ≤ 9223372036854775807) :
  Calls Tryz.prog 78 #[.slice A0 n c0] w fun e w'=>e = .returned (.slice A0 n n) ∧ Below w.heap.size w w':=by
 obtain ⟨i0,hi0,_,hsz,_⟩:=info_parts OFnExactModuleRead.info3
 have hcut : ∀ W : World,(Instr.slice 24 (.slice A0 n c0) none (some (.int .i64 (n : Int))) (some (.int .i64 (n : Int)))).run Tryz.prog W = .ok (.slice A0 n n) W:=by
  intro W
  have ht:=Tryz.underlying24
  have hel : Tryz.prog.elem 24 = 3:=by simp [Program.elem,ht]
  have hu : Tryz.prog.underlying 24 = some (.slice (Tryz.prog.elem 24)):=by rw [hel];exact ht
  have ha : (A0.map fun x=>x.add 0) = A0:=by cases A0<;>simp [Addr.add]
  rw [run_slice_hm W 24 A0 n c0 hu .i64 .i64 n n (by omega) (by omega) (by omega),hel]
  simp [sizeOf,typeInfo,hi0,sliced,Result.andThen,ha]
 clear hc
 go_enter Tryz.func78,Tryz.ntmps78
 go_wp2
 go_ret
 exact ⟨rfl,Below.refl _ _⟩
theorem clip_ins (A0 : Option Addr) (n c0 : Nat) (w : World) (hc : n ≤ c0) (hm : n ≤ 9223372036854775807) :
  Calls Tryz.prog 79 #[.slice A0 n c0] w fun e w'=>e = .returned (.slice A0 n n) ∧ Below w.heap.size w w':=by
 obtain ⟨i0,hi0,_,hsz,_⟩:=info_parts OFnExactModuleRead.info59
 have hcut : ∀ W : World,(Instr.slice 53 (.slice A0 n c0) none (some (.int .i64 (n : Int))) (some (.int .i64 (n : Int)))).run Tryz.prog W = .ok (.slice A0 n n) W:=by
  intro W
  have ht:=Tryz.underlying53
  have hel : Tryz.prog.elem 53 = 59:=by simp [Program.elem,ht]
  have hu : Tryz.prog.underlying 53 = some (.slice (Tryz.prog.elem 53)):=by rw [hel];exact ht
  have ha : (A0.map fun x=>x.add 0) = A0:=by cases A0<;>simp [Addr.add]
  rw [run_slice_hm W 53 A0 n c0 hu .i64 .i64 n n (by omega) (by omega) (by omega),hel]
  simp [sizeOf,typeInfo,hi0,sliced,Result.andThen,ha]
 clear hc
 go_enter Tryz.func79,Tryz.ntmps79
 go_wp2
 go_ret
 exact ⟨rfl,Below.refl _ _⟩
theorem clip_rec (A0 : Option Addr) (n c0 : Nat) (w : World) (hc : n ≤ c0) (hm : n ≤ 9223372036854775807) :
  Calls Tryz.prog 77 #[.slice A0 n c0] w fun e w'=>e = .returned (.slice A0 n n) ∧ Below w.heap.size w w':=by
 obtain ⟨i0,hi0,_,hsz,_⟩:=info_parts OFnExactModuleRead.info50
 have hcut : ∀ W : World,(Instr.slice 22 (.slice A0 n c0) none (some (.int .i64 (n : Int))) (some (.int .i64 (n : Int)))).run Tryz.prog W = .ok (.slice A0 n n) W:=by
  intro W
  have ht:=Tryz.underlying22
  have hel : Tryz.prog.elem 22 = 50:=by simp [Program.elem,ht]
  have hu : Tryz.prog.underlying 22 = some (.slice (Tryz.prog.elem 22)):=by rw [hel];exact ht
  have ha : (A0.map fun x=>x.add 0) = A0:=by cases A0<;>simp [Addr.add]
  rw [run_slice_hm W 22 A0 n c0 hu .i64 .i64 n n (by omega) (by omega) (by omega),hel]
  simp [sizeOf,typeInfo,hi0,sliced,Result.andThen,ha]
 clear hc
 go_enter Tryz.func77,Tryz.ntmps77
 go_wp2
 go_ret
 exact ⟨rfl,Below.refl _ _⟩
theorem clip_func (A0 : Option Addr) (n c0 : Nat) (w : World) (hc : n ≤ c0) (hm : n ≤ 9223372036854775807) :
  Calls Tryz.prog 46 #[.slice A0 n c0] w fun e w'=>e = .returned (.slice A0 n n) ∧ Below w.heap.size w w':=by
 obtain ⟨i0,hi0,_,hsz,_⟩:=info_parts OFnExactModuleRead.info55
 have hcut : ∀ W : World,(Instr.slice 23 (.slice A0 n c0) none (some (.int .i64 (n : Int))) (some (.int .i64 (n : Int)))).run Tryz.prog W = .ok (.slice A0 n n) W:=by
  intro W
  have ht:=Tryz.underlying23
  have hel : Tryz.prog.elem 23 = 55:=by simp [Program.elem,ht]
  have hu : Tryz.prog.underlying 23 = some (.slice (Tryz.prog.elem 23)):=by rw [hel];exact ht
  have ha : (A0.map fun x=>x.add 0) = A0:=by cases A0<;>simp [Addr.add]
  rw [run_slice_hm W 23 A0 n c0 hu .i64 .i64 n n (by omega) (by omega) (by omega),hel]
  simp [sizeOf,typeInfo,hi0,sliced,Result.andThen,ha]
 clear hc
 go_enter Tryz.func46,Tryz.ntmps46
 go_wp2
 go_ret
 exact ⟨rfl,Below.refl _ _⟩
set_option maxHeartbeats 2000000 in
set_option maxRecDepth 100000 in
theorem copyTexts_own (A0 : Option Addr) (c0 : Nat) (l0 : List ByteArray) (w : World) (hr0 : Kd.C Kd.string w A0 l0.length l0) (hc0 : l0.length ≤ c0) (hl : l0.length < 4398046511104) :
  Calls Tryz.prog 76 #[.slice A0 l0.length c0] w fun e w'=>∃ A c,e = .returned (.slice A l0.length l0.length) ∧ Kd.S Kd.string 9 w' w.heap.size (fun k=>w.heap.size ≤ k) (.slice A l0.length c) l0 ∧ Below w.heap.size w w':=by
 have HR0:=Mk hr0
 have HB:=Mk (Below.refl w.heap.size w)
 have HL:=Mk hl
 clear hr0 hl
 go_enter Tryz.func76,Tryz.ntmps76
 go_wp2_with (first
  | ((with_reducible refine gate_dst (N:=3) rfl ?_);refine Kd.R_lit Kd.string _ 9 ?hg (N:=3) ?hd (xs:=([] : List ByteArray)) (inner:=[]) (ok:=fun _=>True) (okp:=fun _=>True) ?hr ?hp (fun _ hk=>hk) trivial (Below.refl _ _) (Nat.le_refl _) (by simp) ?_;(case hd=>rfl);(case hg=>rfl);(case hr=>first | (go_simp;done) | (go_simp;rfl));(case hp=>exact (Reps.none _ _));intro v3 w4 ho hb hg_ hnew_;clear hg_ hnew_;have HO:=Mk ho;replace HB:=Mk hb;clear hb ho)
  | ((with_reducible refine gate_builtin (b:=.append) (xs:=#[.tmp 3,.tmp 4]) rfl ?_);at_builtin;refine Kd.R_append_rows Kd.string (w0:=w) w.heap.size rfl (.tmp 3) (.tmp 4) 32 9 (.string ⟨#[]⟩) 16 rfl Tryz.underlying32 OFnExactModuleRead.info9 rfl (by decide) (by omega) v3 ([] : List ByteArray) l0 _ _ _ (fun k=>w.heap.size ≤ k) (fun _=>False) rfl rfl ?aO ?aR (fun _ _ h=>h) (fun _ h=>h.elim) ?aF ?aB ?aS ?aL ?_
     ; (case aR=>exact Kd.C_below HR0.out HB.out);(case aB=>exact HB.out);(case aF=>exact (fun k_ hk=>(Nat.le_trans HB.out.size hk)));(case aO=>exact Kd.R_mono (Kd.R_bound HO.out) (fun _ hk=>hk.2.1));(case aS=>exact HB.out.size);(case aL=>(have:=HL.out;simp;omega));intro v5 w6 ho hb hg hat;replace HB:=Mk hb;replace HO:=Mk ho;clear ho hb hg hat;obtain ⟨A5,c5,e5⟩:=Kd.R_slice HO.out;rw [List.nil_append] at e5 HO;subst e5)
  | (go_at_call 95;refine (clip_str A5 l0.length c5 _ (Kd.R_reads' HO.out).2.1 (by have:=HL.out;omega)).mono ?_;rintro e w7 ⟨rfl,hb⟩;replace HO:=Mk (Kd.R_below HO.out hb);replace HB:=Mk (below_step HB.out hb);clear hb))
 go_ret
 exact ⟨A5,c5,rfl,S_flat rfl HO.out,HB.out⟩
set_option maxHeartbeats 2000000 in
set_option maxRecDepth 100000 in
theorem copyInts_own (A0 : Option Addr) (c0 : Nat) (l0 : List Int) (w : World) (hr0 : Kd.C (Kd.int .i64) w A0 l0.length l0) (hc0 : l0.length ≤ c0) (hl : l0.length < 4398046511104) :
  Calls Tryz.prog 44 #[.slice A0 l0.length c0] w fun e w'=>∃ A c,e = .returned (.slice A l0.length l0.length) ∧ Kd.S (Kd.int .i64) 3 w' w.heap.size (fun k=>w.heap.size ≤ k) (.slice A l0.length c) l0 ∧ Below w.heap.size w w':=by
 have HR0:=Mk hr0
 have HB:=Mk (Below.refl w.heap.size w)
 have HL:=Mk hl
 clear hr0 hl
 go_enter Tryz.func44,Tryz.ntmps44
 go_wp2_with (first
  | ((with_reducible refine gate_dst (N:=3) rfl ?_);refine Kd.R_lit (Kd.int .i64) _ 3 ?hg (N:=3) ?hd (xs:=([] : List Int)) (inner:=[]) (ok:=fun _=>True) (okp:=fun _=>True) ?hr ?hp (fun _ hk=>hk) trivial (Below.refl _ _) (Nat.le_refl _) (by simp) ?_;(case hd=>rfl);(case hg=>rfl);(case hr=>first | (go_simp;done) | (go_simp;rfl));(case hp=>exact (Reps.none _ _));intro v3 w4 ho hb hg_ hnew_;clear hg_ hnew_;have HO:=Mk ho;replace HB:=Mk hb;clear hb ho)
  | ((with_reducible refine gate_builtin (b:=.append) (xs:=#[.tmp 3,.tmp 4]) rfl ?_);at_builtin;refine Kd.R_append_rows (Kd.int .i64) (w0:=w) w.heap.size rfl (.tmp 3) (.tmp 4) 24 3 (.int .i64 0) 8 rfl Tryz.underlying24 OFnExactModuleRead.info3 rfl (by decide) (by omega) v3 ([] : List Int) l0 _ _ _ (fun k=>w.heap.size ≤ k) (fun _=>False) rfl rfl ?aO ?aR (fun _ _ h=>h) (fun _ h=>h.elim) ?aF ?aB ?aS ?aL ?_
     ; (case aR=>exact Kd.C_below HR0.out HB.out);(case aB=>exact HB.out);(case aF=>exact (fun k_ hk=>(Nat.le_trans HB.out.size hk)));(case aO=>exact Kd.R_mono (Kd.R_bound HO.out) (fun _ hk=>hk.2.1));(case aS=>exact HB.out.size);(case aL=>(have:=HL.out;simp;omega));intro v5 w6 ho hb hg hat;replace HB:=Mk hb;replace HO:=Mk ho;clear ho hb hg hat;obtain ⟨A5,c5,e5⟩:=Kd.R_slice HO.out;rw [List.nil_append] at e5 HO;subst e5)
  | (go_at_call 78;refine (clip_int A5 l0.length c5 _ (Kd.R_reads' HO.out).2.1 (by have:=HL.out;omega)).mono ?_;rintro e w7 ⟨rfl,hb⟩;replace HO:=Mk (Kd.R_below HO.out hb);replace HB:=Mk (below_step HB.out hb);clear hb))
 go_ret
 exact ⟨A5,c5,rfl,S_flat rfl HO.out,HB.out⟩
set_option maxHeartbeats 2000000 in
set_option maxRecDepth 100000 in
theorem markModule_any  (v0 : Value) (s0 : List Slot) (v1 : Value) (s1 : List Slot) (v2 : Value) (s2 : List Slot) (a : Nat) {ai : Int} (hai : ai = (a : Int)) (w : World) (hs0 : RowOf (Cel w tyRecord) 2 v0 s0) (hs1 : RowOf (Cel w tyFunc) 6 v1 s1) (hs2 : RowOf (Cel w tyInt) 1 v2 s2) (h1 : 1 ≤ a) (hb : a + (s0 ++ s1 ++ s2).length ≤ 9000000) :
  Calls Tryz.prog 7 #[.agg #[v0,v1,v2],.int .i64 ai] w fun e w'=>e = .returned (.int .i64 ((a + (s0 ++ s1 ++ s2).length : Nat) : Int)) ∧ Marked w w' (s0 ++ s1 ++ s2) a:=by
 subst hai
 have hu_:=Tryz.underlying26
 (try simp only [List.length_append] at hb)
 have hle : a + (s0.length + s1.length + s2.length) ≤ 9000000:=by omega
 clear hb
 have HI0:=Mk (fun p hp=>RowOf.mem hs0 p hp)
 obtain ⟨A0,m0,c0,e0⟩:=hs0.slice
 subst e0
 have HV0:=Mk hs0
 clear hs0
 have HI1:=Mk (fun p hp=>RowOf.mem hs1 p hp)
 obtain ⟨A1,m1,c1,e1⟩:=hs1.slice
 subst e1
 have HV1:=Mk hs1
 clear hs1
 have HI2:=Mk (fun p hp=>RowOf.mem hs2 p hp)
 obtain ⟨A2,m2,c2,e2⟩:=hs2.slice
 subst e2
 have HV2:=Mk hs2
 clear hs2
 go_enter Tryz.func7,Tryz.ntmps7
 go_wp2_with fail
 obtain ⟨g,hg⟩ : ∃ g,g = w.heap.size:=⟨_,rfl⟩
 obtain ⟨wb,hwb⟩ : ∃ W,W = w.alloc (.cells #[.slice A0 m0 c0,.slice A1 m1 c1,.slice A2 m2 c2] 26):=⟨_,rfl⟩
 rw [← hwb]
 try rw [← hg]
 have BK:=Mk (show wb.heap[g]? = some (.cells #[.slice A0 m0 c0,.slice A1 m1 c1,.slice A2 m2 c2] 26 (0,0)) by rw [hwb,hg];exact heap_alloc_new w _)
 have HB:=Mk (show Below w.heap.size w wb by rw [hwb];exact below_alloc (Below.refl _ _) _)
 have GW:=Mk (show w.heap.size ≤ g by rw [hg];exact Nat.le_refl _)
 have HM:=Mk (Marked.nil HB.out a)
 have HK:=Mk (show a = a + ([] : List Slot).length by simp)
 clear HB
 clear hwb hg
 refine (markRecordS_any _ s0 a (by omega) _ (RowOf.tp HM.out.tp HV0.out) (by omega) (by omega)).mono ?_
 rintro e w1 ⟨rfl,hm⟩
 replace BK:=Mk ((hm.far g (blk_lt BK.out) (fun p hp e=>by have h1:=HI0.out p hp;have h2:=GW.out;omega)).trans BK.out)
 replace HM:=Mk (Marked.more HM.out (K:=a) HK.out hm)
 obtain ⟨K1,hK1⟩ : ∃ K_ : Nat,K_ = a + s0.length:=⟨_,rfl⟩
 rw [← hK1]
 have HE:=Mk (show K1 = a + s0.length by omega)
 replace HK:=Mk (show K1 = a + ([] ++ s0).length by rw [HE.out];simp only [List.length_append,List.length_nil];omega)
 have mK1 : 1 ≤ K1:=by omega
 have lK1 : K1 ≤ 9000000:=by omega
 replace hle : K1 + (s1.length + s2.length) ≤ 9000000:=by omega
 clear hK1 hm
 have hx1:=blk_cell BK.out 1
 replace hx1 : _ = some (Value.slice A1 m1 c1):=hx1.trans rfl
 go_wp2_with fail
 clear hx1
 refine (markFuncS_any _ s1 K1 (by omega) _ (RowOf.tp HM.out.tp HV1.out) (by omega) (by omega)).mono ?_
 rintro e w2 ⟨rfl,hm⟩
 replace BK:=Mk ((hm.far g (blk_lt BK.out) (fun p hp e=>by have h1:=HI1.out p hp;have h2:=GW.out;omega)).trans BK.out)
 replace HM:=Mk (Marked.more HM.out (K:=K1) HK.out hm)
 obtain ⟨K2,hK2⟩ : ∃ K_ : Nat,K_ = K1 + s1.length:=⟨_,rfl⟩
 rw [← hK2]
 replace HE:=Mk (show K2 = a + s0.length + s1.length by have:=HE.out;omega)
 replace HK:=Mk (show K2 = a + ([] ++ s0 ++ s1).length by rw [HE.out];simp only [List.length_append,List.length_nil];omega)
 have mK2 : 1 ≤ K2:=by omega
 have lK2 : K2 ≤ 9000000:=by omega
 replace hle : K2 + (s2.length) ≤ 9000000:=by omega
 clear hK2 hm
 have hx2:=blk_cell BK.out 2
 replace hx2 : _ = some (Value.slice A2 m2 c2):=hx2.trans rfl
 go_wp2_with fail
 clear hx2
 refine (markIntS_any _ s2 K2 (by omega) _ (RowOf.tp HM.out.tp HV2.out) (by omega) (by omega)).mono ?_
 rintro e w3 ⟨rfl,hm⟩
 replace BK:=Mk ((hm.far g (blk_lt BK.out) (fun p hp e=>by have h1:=HI2.out p hp;have h2:=GW.out;omega)).trans BK.out)
 replace HM:=Mk (Marked.more HM.out (K:=K2) HK.out hm)
 obtain ⟨K3,hK3⟩ : ∃ K_ : Nat,K_ = K2 + s2.length:=⟨_,rfl⟩
 rw [← hK3]
 replace HE:=Mk (show K3 = a + s0.length + s1.length + s2.length by have:=HE.out;omega)
 replace HK:=Mk (show K3 = a + ([] ++ s0 ++ s1 ++ s2).length by rw [HE.out];simp only [List.length_append,List.length_nil];omega)
 have mK3 : 1 ≤ K3:=by omega
 have lK3 : K3 ≤ 9000000:=by omega
 clear hK3 hm
 go_wp2
 go_ret
 refine ⟨by rw [show a + (s0 ++ s1 ++ s2).length = K3 by rw [HE.out];simp only [List.length_append,Nat.add_assoc]];rfl,?_⟩
 exact by have:=HM.out;simpa only [List.nil_append] using this
set_option maxHeartbeats 2000000 in
set_option maxRecDepth 100000 in
theorem heldModule_any  (v0 : Value) (s0 : List Slot) (v1 : Value) (s1 : List Slot) (v2 : Value) (s2 : List Slot) (a : Nat) {ai : Int} (hai : ai = (a : Int)) (w : World) (hs0 : RowOf (Cel w tyRecord) 2 v0 s0) (hs1 : RowOf (Cel w tyFunc) 6 v1 s1) (hs2 : RowOf (Cel w tyInt) 1 v2 s2) (h1 : 1 ≤ a) (hb : a + (s0 ++ s1 ++ s2).length ≤ 9000000) (hh : Held w (s0 ++ s1 ++ s2) a) :
  Calls Tryz.prog 8 #[.agg #[v0,v1,v2],.int .i64 ai] w fun e w'=>e = .returned (.int .i64 ((a + (s0 ++ s1 ++ s2).length : Nat) : Int)) ∧ Below w.heap.size w w':=by
 subst hai
 have hu_:=Tryz.underlying26
 (try simp only [List.length_append] at hb)
 have hle : a + (s0.length + s1.length + s2.length) ≤ 9000000:=by omega
 clear hb
 have HI0:=Mk (fun p hp=>RowOf.mem hs0 p hp)
 obtain ⟨A0,m0,c0,e0⟩:=hs0.slice
 subst e0
 have HV0:=Mk hs0
 clear hs0
 have HI1:=Mk (fun p hp=>RowOf.mem hs1 p hp)
 obtain ⟨A1,m1,c1,e1⟩:=hs1.slice
 subst e1
 have HV1:=Mk hs1
 clear hs1
 have HI2:=Mk (fun p hp=>RowOf.mem hs2 p hp)
 obtain ⟨A2,m2,c2,e2⟩:=hs2.slice
 subst e2
 have HV2:=Mk hs2
 clear hs2
 have hq:=hh
 have HH2:=Mk (show Held w s2 (a + s0.length + s1.length) from by have:=hq.right;simpa only [List.length_append,Nat.add_assoc] using this)
 replace hq:=hq.left
 have HH1:=Mk (show Held w s1 (a + s0.length) from by have:=hq.right;simpa only [List.length_append,Nat.add_assoc] using this)
 replace hq:=hq.left
 have HH0:=Mk (show Held w s0 (a) from by have:=hq;simpa only [List.length_append,Nat.add_assoc] using this)
 clear hq hh
 go_enter Tryz.func8,Tryz.ntmps8
 go_wp2_with fail
 obtain ⟨g,hg⟩ : ∃ g,g = w.heap.size:=⟨_,rfl⟩
 obtain ⟨wb,hwb⟩ : ∃ W,W = w.alloc (.cells #[.slice A0 m0 c0,.slice A1 m1 c1,.slice A2 m2 c2] 26):=⟨_,rfl⟩
 rw [← hwb]
 try rw [← hg]
 have BK:=Mk (show wb.heap[g]? = some (.cells #[.slice A0 m0 c0,.slice A1 m1 c1,.slice A2 m2 c2] 26 (0,0)) by rw [hwb,hg];exact heap_alloc_new w _)
 have HB:=Mk (show Below w.heap.size w wb by rw [hwb];exact below_alloc (Below.refl _ _) _)
 have GW:=Mk (show w.heap.size ≤ g by rw [hg];exact Nat.le_refl _)
 clear hwb hg
 refine (heldRecordS_any _ s0 a (by omega) _ (RowOf.tp (TP.of_below HB.out) HV0.out) (by omega) (by omega) (by have:=HH0.out.below HB.out;exact this)).mono ?_
 rintro e w1 ⟨rfl,hb⟩
 replace BK:=Mk (blk_below BK.out hb)
 replace HB:=Mk (below_step HB.out hb)
 obtain ⟨K1,hK1⟩ : ∃ K_ : Nat,K_ = a + s0.length:=⟨_,rfl⟩
 rw [← hK1]
 have HE:=Mk (show K1 = a + s0.length by omega)
 have mK1 : 1 ≤ K1:=by omega
 have lK1 : K1 ≤ 9000000:=by omega
 replace hle : K1 + (s1.length + s2.length) ≤ 9000000:=by omega
 clear hK1 hb
 have hx1:=blk_cell BK.out 1
 replace hx1 : _ = some (Value.slice A1 m1 c1):=hx1.trans rfl
 go_wp2_with fail
 clear hx1
 refine (heldFuncS_any _ s1 K1 (by omega) _ (RowOf.tp (TP.of_below HB.out) HV1.out) (by omega) (by omega) (by have:=HH1.out.below HB.out;rw [show K1 = a + s0.length by have:=HE.out;omega];exact this)).mono ?_
 rintro e w2 ⟨rfl,hb⟩
 replace BK:=Mk (blk_below BK.out hb)
 replace HB:=Mk (below_step HB.out hb)
 obtain ⟨K2,hK2⟩ : ∃ K_ : Nat,K_ = K1 + s1.length:=⟨_,rfl⟩
 rw [← hK2]
 replace HE:=Mk (show K2 = a + s0.length + s1.length by have:=HE.out;omega)
 have mK2 : 1 ≤ K2:=by omega
 have lK2 : K2 ≤ 9000000:=by omega
 replace hle : K2 + (s2.length) ≤ 9000000:=by omega
 clear hK2 hb
 have hx2:=blk_cell BK.out 2
 replace hx2 : _ = some (Value.slice A2 m2 c2):=hx2.trans rfl
 go_wp2_with fail
 clear hx2
 refine (heldIntS_any _ s2 K2 (by omega) _ (RowOf.tp (TP.of_below HB.out) HV2.out) (by omega) (by omega) (by have:=HH2.out.below HB.out;rw [show K2 = a + s0.length + s1.length by have:=HE.out;omega];exact this)).mono ?_
 rintro e w3 ⟨rfl,hb⟩
 replace BK:=Mk (blk_below BK.out hb)
 replace HB:=Mk (below_step HB.out hb)
 obtain ⟨K3,hK3⟩ : ∃ K_ : Nat,K_ = K2 + s2.length:=⟨_,rfl⟩
 rw [← hK3]
 replace HE:=Mk (show K3 = a + s0.length + s1.length + s2.length by have:=HE.out;omega)
 have mK3 : 1 ≤ K3:=by omega
 have lK3 : K3 ≤ 9000000:=by omega
 clear hK3 hb
 go_wp2
 go_ret
 refine ⟨by rw [show a + (s0 ++ s1 ++ s2).length = K3 by rw [HE.out];simp only [List.length_append,Nat.add_assoc]];rfl,?_⟩
 exact HB.out
abbrev S50:=OFnExactModuleRead.S50
abbrev k50:=OFnExactModuleRead.k50
abbrev kRecD : Kd S50:=Kd.iso (pr (Kd.int .i64) (sl 9 Kd.string)) (fun x=>(x.f0,x.f1))
theorem kRecD_mkM {w : World} {base : Nat} {ok : Nat → Prop} {x : S50} {v : Value} {c : Nat} (hl : x.f1.length ≤ c) (h : Kd.S Kd.string 9 w base ok v x.f1) : kRecD.M w base ok x [.int .i64 x.f0,cutV v c] :=
 ⟨[.int .i64 x.f0],[cutV v c],rfl,fun _=>False,rfl,v,c,rfl,hl,Kd.S_mono h (fun k hk=>⟨hk,fun h=>h⟩)⟩
set_option maxHeartbeats 2000000 in
set_option maxRecDepth 100000 in
theorem copyRecords_own (A0 : Option Addr) (c0 : Nat) (l0 : List S50) (w : World) (hr0 : Kd.C k50 w A0 l0.length l0) (hc0 : l0.length ≤ c0) (hl : l0.length < 4398046511104) (hf : ∀ x ∈ l0,x.f1.length < 4398046511104) :
  Calls Tryz.prog 43 #[.slice A0 l0.length c0] w fun e w'=>∃ A c,e = .returned (.slice A l0.length l0.length) ∧ Kd.S kRecD 50 w' w.heap.size (fun k=>w.heap.size ≤ k) (.slice A l0.length c) l0 ∧ Below w.heap.size w w':=by
 have HR0:=Mk hr0
 have HF:=Mk hf
 have HB:=Mk (Below.refl w.heap.size w)
 have HL:=Mk hl
 have hlm : l0.length ≤ 9223372036854775807:=by omega
 have hu50:=Tryz.underlying50
 clear hr0 hl hf
 go_enter Tryz.func43,Tryz.ntmps43
 go_wp2_with (first
  | ((with_reducible refine gate_dst (N:=6) rfl ?_);refine Kd.S_lit kRecD _ 50 ?hg (N:=6) ?hd (xs:=([] : List S50)) (inner:=[]) (ok:=fun k=>w.heap.size ≤ k) (okp:=fun _=>False) ?hr ?hp (fun _ hk=>hk.elim) (Nat.le_refl _) (Below.refl _ _) (Nat.le_refl _) (by simp) ?_;(case hd=>rfl);(case hg=>rfl);(case hr=>first | (go_simp;done) | (go_simp;rfl));(case hp=>exact (Reps.none _ _));intro v3 w4 ho hb hg_ hnew_;clear hg_ hnew_;have HO:=Mk ho;replace HB:=Mk hb;clear hb ho))
 go_loopw [3,9] (fun v3 v9 wr=>∃ i : Nat,i ≤ l0.length ∧ v9 = .int .i64 i ∧ Aside0 (Kd.S kRecD 50 wr w.heap.size (fun k=>w.heap.size ≤ k) v3 (l0.take i)) ∧ Aside0 (Below w.heap.size w wr)) (fun _ v9 _=>l0.length - (intOf v9).toNat)
 case atStart=>exact ⟨0,Nat.zero_le _,rfl,HO,HB⟩
 case round =>
  clear HO HB
  obtain ⟨i,hi,rfl,HO,HB⟩:=hrel
  by_cases hlt : i < l0.length
  ·obtain ⟨ad,A1,c1,ea,hx0,hx1,hl1,hi1⟩:=OFnExactModuleRead.at_T50 HR0.out (i : Int) (by omega) (by omega)
   have hrd : OFnExactModuleRead.rd_T50 l0 (i : Int) = l0[i]:=by simp [OFnExactModuleRead.rd_T50,hlt]
   rw [hrd] at hx0 hx1 hl1 hi1
   have hff:=HF.out l0[i] (List.getElem_mem hlt)
   have hts : l0.take (i + 1) = l0.take i ++ [l0[i]]:=List.take_succ_eq_append_getElem hlt
   generalize l0[i] = x at hx0 hx1 hl1 hi1 hff hts
   have HTS:=Mk hts
   cases ea
   rw [Int.toNat_natCast] at hx0 hx1
   have hx0:=(HB.out.cell (World.block_lt_of_cell? w _ hx0)).trans hx0
   have hx1:=(HB.out.cell (World.block_lt_of_cell? w _ hx1)).trans hx1
   have HC1:=Mk hi1
   have HL1:=Mk hl1
   have HFF:=Mk hff
   clear hi1 hl1 hrd hff hts
   go_wp2_with fail
   obtain ⟨g,hg⟩ : ∃ g,g = wr.heap.size:=⟨_,rfl⟩
   obtain ⟨wb,hwb⟩ : ∃ W,W = wr.alloc (.cells #[.int .i64 x.f0,.slice A1 x.f1.length c1] 50):=⟨_,rfl⟩
   rw [← hwb,← hg]
   have hBb : Below wr.heap.size wr wb:=by rw [hwb];exact below_alloc (Below.refl _ _) _
   have BK:=Mk (show wb.heap[g]? = some (.cells #[.int .i64 x.f0,.slice A1 x.f1.length c1] 50 (0,0)) by rw [hwb,hg];exact heap_alloc_new wr _)
   replace HO:=Mk (Kd.S_mono (ok':=fun k=>w.heap.size ≤ k ∧ k < g) (Kd.S_below (Kd.S_bound HO.out) hBb) (fun k hk=>⟨hk.1,by rw [hg];exact hk.2.2.1⟩))
   have GW:=Mk (show w.heap.size ≤ g by rw [hg];exact HB.out.size)
   replace HB:=Mk (below_step HB.out hBb)
   have GS:=Mk (show g < wb.heap.size from blk_lt BK.out)
   clear hwb hg hBb hx0 hx1
   replace HO:=Mk (Kd.S_drew HO.out)
   replace BK:=Mk (blk_drew BK.out)
   replace HB:=Mk (below_drew1 HB.out)
   replace GS:=Mk (show g < wb.drew.heap.size from GS.out)
   refine start_ (n:=10) (S:=fun w'=>w'.cell? ⟨g,0,none⟩ = some (.int .i64 x.f0) ∧ w'.cell? ⟨g,1,none⟩ = some (.slice A1 x.f1.length c1)) (ds:=[]) #[false,false,false,false,false,false,false,false,false,false] (by kernel_rfl) rfl rfl ⟨U.c0 BK,U.c1 BK⟩ (fun hHeld=>?_)
   refine with_tabW OFnExactModuleRead.impl_copyRecords.tab5 OFnExactModuleRead.impl_copyRecords.bits5 (fun HT_ HW_=>?_)
   generalize wb.drew = w12 at HO BK HB GS hHeld ⊢
   refine U.pu 0 (some 13) HT_ ?_
   refine U.pu 1 (some 14) HT_ ?_
   refine U.pu 3 (some 16) HT_ ?_
   refine U.tk 2 (some 15) HT_ HW_ hHeld ?_ (hy:=by rintro w' ⟨s0,s1⟩;go_simp;with_reducible rfl)
   refine U.tk 4 (some 17) HT_ HW_ hHeld ?_ (hy:=by rintro w' ⟨s0,s1⟩;go_simp;with_reducible rfl)
   refine U.on 5 (some 18) HT_ (fun K hK=>?_)
   refine U.go Tryz.func76 #[.slice A1 x.f1.length c1] ?_
   with_reducible refine (copyTexts_own A1 c1 x.f1 _ (Kd.C_below HC1.out HB.out) HL1.out HFF.out).mono ?_
   rintro e w13 ⟨A2,c2,rfl,hs,hb⟩
   refine ⟨_,rfl,?_⟩
   have GW2:=Mk (show g < w12.heap.size from GS.out)
   have HS:=Mk (Kd.S_mono (ok':=fun k=>g < k) hs (fun k hk=>Nat.lt_of_lt_of_le GS.out hk))
   replace HS:=Mk (Kd.S_lower HS.out (show w.heap.size ≤ w12.heap.size from HB.out.size))
   replace HO:=Mk (Kd.S_below HO.out hb)
   replace BK:=Mk (blk_below BK.out hb)
   replace HB:=Mk (below_step HB.out hb)
   have hcl:=(Kd.S_reads' hs).2.1
   clear hs hb GS GW2
   refine hK.out _ _ ⟨U.c0 BK,U.c1 BK⟩ (fun hHeld=>?_)
   clear hK K
   refine U.nm 18 ?_
   refine U.pu 6 (some 19) HT_ ?_
   refine U.on 7 (some 20) HT_ (fun K hK=>?_)
   refine value_ (w1:=?_) (v:=?_) (by rfl) rfl ?_ ?_
   rotate_left 2
   ·go_simp
    constructor
    ·rfl
    ·rfl
   refine hK.out _ _ ⟨(blk_cell (blk_alloc BK.out _) 0).trans rfl,(blk_cell (blk_alloc BK.out _) 1).trans rfl⟩ (fun hHeld=>?_)
   clear hK K
   refine U.nm 20 ?_
   refine U.on 8 (some 21) HT_ (fun K hK=>?_)
   refine Kd.S_append_step kRecD (w0:=w) w.heap.size (by rfl) (.tmp 13) (.tmp 20) 22 50 (.agg #[(.int .i64 0),(.slice none 0 0)]) 32 rfl Tryz.underlying22 OFnExactModuleRead.info50 rfl (by decide) (by omega) u3 (l0.take i) x [.int .i64 x.f0,.slice A2 x.f1.length x.f1.length] (fun k=>w.heap.size ≤ k) (fun k=>g < k) rfl rfl ?aP ?aX ?aF ?aO ?aB ?aS ?aL ?_
   case aP=>exact kRecD_mkM (v:=.slice A2 x.f1.length c2) (Nat.le_refl _) HS.out
   case aX=>exact fun k hk=>⟨by have:=GW.out;omega,fun he=>by have:=(HO.out.choose_spec.1 k he.symm).2;omega⟩
   case aF=>exact fun k hk=>Nat.le_trans HB.out.size hk
   case aO=>exact Kd.S_mono HO.out (fun k hk=>⟨hk.1,fun h=>by have:=hk.2;omega⟩)
   case aB=>exact HB.out
   case aS=>exact HB.out.size
   case aL=>have h1:=HL.out;have h2:=List.length_take_le i l0;omega
   intro v15 w15 ho hb hgr hat
   rw [← HTS.out] at ho
   replace BK:=Mk (blk_grown BK.out hgr (fun he=>by have:=(HO.out.choose_spec.1 g he.symm).2;omega))
   replace HB:=Mk hb
   replace HO:=Mk ho
   clear ho hb hgr hat
   refine hK.out _ _ ⟨U.c0 BK,U.c1 BK⟩ (fun hHeld=>?_)
   clear hK K
   refine U.nm 21 ?_
   refine U.pu 9 (some 3) HT_ ?_
   refine done_ (done_of HT_.out (by kernel_rfl)) ?_
   try go_wp2
   go_roundw
   case rel=>exact ⟨i + 1,by omega,by go_num,HO,HB⟩
   case measure=>simp [intOf];omega
  ·have hie : i = l0.length:=by omega
   have HI:=Mk hie
   clear hie
   obtain ⟨A5,c5,e5⟩:=Kd.S_slice HO.out
   rw [HI.out,List.take_length] at e5
   replace HO:=Mk (show Kd.S kRecD 50 wr w.heap.size (fun k=>w.heap.size ≤ k) u3 l0 by have:=HO.out;rwa [HI.out,List.take_length] at this)
   subst e5
   go_wp2_with (go_at_call 77;refine (clip_rec A5 l0.length c5 _ (Kd.S_reads' HO.out).2.1 hlm).mono ?_;rintro e w7 ⟨rfl,hb⟩;replace HO:=Mk (Kd.S_below HO.out hb);replace HB:=Mk (below_step HB.out hb);clear hb)
   go_ret
   exact ⟨A5,c5,rfl,HO.out,HB.out⟩
abbrev S55:=OFnExactModuleRead.S55
abbrev k59:=OFnExactModuleRead.k59
abbrev kRowsF:=pr (sl 9 Kd.string) (pr (sl 9 Kd.string) (pr (sl 9 Kd.string) (pr (sl 3 (Kd.int .i64)) (sl 59 k59))))
def FuncOwn (w : World) (base : Nat) (F : S55) (cs : List Value) : Prop:=kRowsF.M w base (fun k=>base ≤ k) (F.f1,F.f2,F.f3,F.f4,F.f5) cs
theorem FuncOwn.mk {w : World} {base b1 b2 b3 b4 b5 : Nat} {A1 A2 A3 A4 A5 : Option Addr} {c1 c2 c3 c4 c5 : Nat} (F : S55) (hb5 : base ≤ b5) (h51 : b5 ≤ b1) (h12 : b1 ≤ b2) (h23 : b2 ≤ b3) (h34 : b3 ≤ b4)
  (h1 : Kd.S Kd.string 9 w base (fun k=>b1 ≤ k ∧ k < b2) (.slice A1 F.f1.length c1) F.f1) (h2 : Kd.S Kd.string 9 w base (fun k=>b2 ≤ k ∧ k < b3) (.slice A2 F.f2.length c2) F.f2) (h3 : Kd.S Kd.string 9 w base (fun k=>b3 ≤ k ∧ k < b4) (.slice A3 F.f3.length c3) F.f3)
  (h4 : Kd.S (Kd.int .i64) 3 w base (fun k=>b4 ≤ k) (.slice A4 F.f4.length c4) F.f4) (h5 : Kd.S k59 59 w base (fun k=>b5 ≤ k ∧ k < b1) (.slice A5 F.f5.length c5) F.f5) :
  FuncOwn w base F [.slice A1 F.f1.length F.f1.length,.slice A2 F.f2.length F.f2.length,.slice A3 F.f3.length F.f3.length,.slice A4 F.f4.length F.f4.length,.slice A5 F.f5.length F.f5.length]:=by
 refine ⟨[_],[_,_,_,_],rfl,fun k=>b1 ≤ k ∧ k < b2,⟨.slice A1 F.f1.length c1,F.f1.length,rfl,Nat.le_refl _,Kd.S_mono h1 (fun k hk=>⟨by omega,hk⟩)⟩,?_⟩
 refine ⟨[_],[_,_,_],rfl,fun k=>b2 ≤ k ∧ k < b3,⟨.slice A2 F.f2.length c2,F.f2.length,rfl,Nat.le_refl _,Kd.S_mono h2 (fun k hk=>⟨⟨by omega,by omega⟩,hk⟩)⟩,?_⟩
 refine ⟨[_],[_,_],rfl,fun k=>b3 ≤ k ∧ k < b4,⟨.slice A3 F.f3.length c3,F.f3.length,rfl,Nat.le_refl _,Kd.S_mono h3 (fun k hk=>⟨⟨⟨by omega,by omega⟩,by omega⟩,hk⟩)⟩,?_⟩
 exact ⟨[_],[_],rfl,fun k=>b4 ≤ k,⟨.slice A4 F.f4.length c4,F.f4.length,rfl,Nat.le_refl _,Kd.S_mono h4 (fun k hk=>⟨⟨⟨⟨by omega,by omega⟩,by omega⟩,by omega⟩,hk⟩)⟩,⟨.slice A5 F.f5.length c5,F.f5.length,rfl,Nat.le_refl _,Kd.S_mono h5 (fun k hk=>⟨⟨⟨⟨by omega,by omega⟩,by omega⟩,by omega⟩,by omega⟩)⟩⟩
set_option maxHeartbeats 1000000 in
set_option maxRecDepth 100000 in
theorem copyFunc_own (F : S55) (A1 A2 A3 A4 A5 : Option Addr) (c1 c2 c3 c4 c5 : Nat) (w : World) (h1 : Kd.C Kd.string w A1 F.f1.length F.f1) (hc1 : F.f1.length ≤ c1) (h2 : Kd.C Kd.string w A2 F.f2.length F.f2) (hc2 : F.f2.length ≤ c2) (h3 : Kd.C Kd.string w A3 F.f3.length F.f3) (hc3 : F.f3.length ≤ c3)
  (h4 : Kd.C (Kd.int .i64) w A4 F.f4.length F.f4) (hc4 : F.f4.length ≤ c4) (h5 : Kd.C k59 w A5 F.f5.length F.f5) (hc5 : F.f5.length ≤ c5) (hl : F.f1.length < 4398046511104 ∧ F.f2.length < 4398046511104 ∧ F.f3.length < 4398046511104 ∧ F.f4.length < 4398046511104 ∧ F.f5.length < 2199023255552) :
  Calls Tryz.prog 45 #[.agg #[.int .i64 F.f0,.slice A1 F.f1.length c1,.slice A2 F.f2.length c2,.slice A3 F.f3.length c3,.slice A4 F.f4.length c4,.slice A5 F.f5.length c5]] w fun e w'=>∃ B1 B2 B3 B4 B5,e = .returned (.agg #[.int .i64 F.f0,.slice B1 F.f1.length F.f1.length,.slice B2 F.f2.length F.f2.length,.slice B3 F.f3.length F.f3.length,.slice B4 F.f4.length F.f4.length,.slice B5 F.f5.length F.f5.length]) ∧
   FuncOwn w' w.heap.size F [.slice B1 F.f1.length F.f1.length,.slice B2 F.f2.length F.f2.length,.slice B3 F.f3.length F.f3.length,.slice B4 F.f4.length F.f4.length,.slice B5 F.f5.length F.f5.length] ∧ Below w.heap.size w w':=by
 have hu_:=Tryz.underlying55
 have H1:=Mk h1
 have H2:=Mk h2
 have H3:=Mk h3
 have H4:=Mk h4
 have H5:=Mk h5
 have HL:=Mk hl
 clear h1 h2 h3 h4 h5 hl
 go_enter Tryz.func45,Tryz.ntmps45
 have HB:=Mk (Below.refl w.heap.size w)
 go_wp2_with (first
  | ((with_reducible refine gate_dst (N:=1) rfl ?_);refine U.bx 1 55 #[.int .i64 F.f0,.slice A1 F.f1.length c1,.slice A2 F.f2.length c2,.slice A3 F.f3.length c3,.slice A4 F.f4.length c4,.slice A5 F.f5.length c5] ?_;intro g1 hg w1 hbox hb;have BK1:=Mk hbox;have G1:=Mk (show w.heap.size ≤ g1 by rw [hg];exact HB.out.size);replace HB:=Mk (below_step HB.out hb);clear hg hbox hb)
  | ((with_reducible refine gate_dst (N:=2) rfl ?_);refine U.bx 2 55 #[.int .i64 0,.slice none 0 0,.slice none 0 0,.slice none 0 0,.slice none 0 0,.slice none 0 0] ?_;intro g2 hg w2 hbox hb;have G2:=Mk (show g1 < g2 by rw [hg];exact blk_lt BK1.out);replace BK1:=Mk (blk_below BK1.out hb);have BK2:=Mk hbox;replace HB:=Mk (below_step HB.out hb);clear hg hbox hb)
  | ((with_reducible refine gate_dst (N:=4) rfl ?_);have N1:=Mk (blk_lt BK1.out);have N2:=Mk (blk_lt BK2.out);refine Kd.R_lit k59 _ 59 ?hg (N:=4) ?hd (xs:=([] : List OFnExactModuleRead.S59)) (inner:=[]) (ok:=fun _=>True) (okp:=fun _=>True) ?hr ?hp (fun _ hk=>hk) trivial (Below.refl _ _) (Nat.le_refl _) (by simp) ?_;(case hd=>rfl);(case hg=>rfl);(case hr=>first | (go_simp;done) | (go_simp;rfl));(case hp=>exact (Reps.none _ _));intro v3 w4 ho hb hg_ hnew_;clear hg_ hnew_;have HO:=Mk ho;replace BK1:=Mk (blk_below BK1.out hb);replace BK2:=Mk (blk_below BK2.out hb);have HB2:=Mk hb;clear hb ho;have hx5:=(blk_cell BK1.out 5).trans rfl)
  | ((with_reducible refine gate_builtin (b:=.append) (xs:=#[.tmp 4,.tmp 6]) rfl ?_);clear hx5;at_builtin;refine Kd.R_append_rows k59 (w0:=w2) w2.heap.size rfl (.tmp 4) (.tmp 6) 53 59 (.agg #[.string ⟨#[]⟩,.int .i64 0,.int .i64 0]) 32 rfl Tryz.underlying53 OFnExactModuleRead.info59 rfl (by decide) (by omega) v3 ([] : List OFnExactModuleRead.S59) F.f5 _ _ _ (fun k=>w2.heap.size ≤ k) (fun _=>False) rfl rfl ?aO ?aR (fun _ _ h=>h) (fun _ h=>h.elim) ?aF ?aB ?aS ?aL ?_
     ; (case aR=>exact Kd.C_below H5.out (below_step HB.out HB2.out));(case aB=>exact HB2.out);(case aF=>exact (fun k hk=>Nat.le_trans HB2.out.size hk));(case aO=>exact Kd.R_mono (Kd.R_bound HO.out) (fun _ hk=>hk.2.1));(case aS=>exact HB2.out.size);(case aL=>(have:=HL.out.2.2.2.2;simp;omega));intro v5 w6 ho hb hgr hat;replace BK1:=Mk (blk_grown BK1.out hgr (fun e=>by have h1:=Kd.R_base HO.out _ e.symm;have h2:=N1.out;omega));replace BK2:=Mk (blk_grown BK2.out hgr (fun e=>by have h1:=Kd.R_base HO.out _ e.symm;have h2:=N2.out;omega));replace HB2:=Mk hb;replace HO:=Mk ho;clear ho hb hgr hat;obtain ⟨A6,c6,e6⟩:=Kd.R_slice HO.out;rw [List.nil_append] at e6 HO;subst e6)
  | (go_at_call 79;refine (clip_ins A6 F.f5.length c6 _ (Kd.R_reads' HO.out).2.1 (by have:=HL.out;omega)).mono ?_;rintro e w7 ⟨rfl,hb⟩;replace BK1:=Mk (blk_below BK1.out hb);replace BK2:=Mk (blk_below BK2.out hb);replace HO:=Mk (Kd.R_below HO.out hb);replace HB2:=Mk (below_step HB2.out hb);clear hb))
 have B5:=Mk HB.out.size
 have L5:=Mk HB2.out.size
 replace HB:=Mk (below_step HB.out HB2.out)
 have HS5:=Mk (Kd.S_mono (ok':=fun k=>w2.heap.size ≤ k ∧ k < w7.heap.size) (Kd.S_bound (S_flat rfl HO.out)) (fun k hk=>⟨hk.1,hk.2.2.1⟩))
 have NG:=Mk (show g1 ≠ g2 from Nat.ne_of_lt G2.out)
 have GW:=Mk (show w.heap.size ≤ g2 from Nat.le_trans G1.out (Nat.le_of_lt G2.out))
 clear HO HB2 G2 N1
 replace HS5:=Mk (Kd.S_drew HS5.out)
 replace BK1:=Mk (blk_drew BK1.out)
 replace BK2:=Mk (blk_drew BK2.out)
 replace HB:=Mk (below_drew1 HB.out)
 replace L5:=Mk (show w2.heap.size ≤ w7.drew.heap.size from L5.out)
 replace HS5:=Mk (show Kd.S k59 59 w7.drew w2.heap.size (fun k=>w2.heap.size ≤ k ∧ k < w7.drew.heap.size) (.slice A6 F.f5.length c6) F.f5 from HS5.out)
 refine start_ (n:=17) (S:=fun w'=>w'.cell? ⟨g1,0,none⟩ = some (.int .i64 F.f0) ∧ w'.cell? ⟨g1,1,none⟩ = some (.slice A1 F.f1.length c1) ∧ w'.cell? ⟨g1,2,none⟩ = some (.slice A2 F.f2.length c2) ∧ w'.cell? ⟨g1,3,none⟩ = some (.slice A3 F.f3.length c3) ∧ w'.cell? ⟨g1,4,none⟩ = some (.slice A4 F.f4.length c4) ∧ w'.cell? ⟨g1,5,none⟩ = some (.slice A5 F.f5.length c5)) (ds:=[]) #[false,false,false,false,false,false,false,false,false,false,false,false,false,false,false,false,false] (by kernel_rfl) rfl rfl ⟨U.c0 BK1,U.c1 BK1,U.c2 BK1,U.c3 BK1,U.c4 BK1,U.c5 BK1⟩ (fun hHeld=>?_)
 refine with_tabW OFnExactModuleRead.impl_copyFunc.tab2 OFnExactModuleRead.impl_copyFunc.bits2 (fun HT_ HW_=>?_)
 generalize w7.drew = w8 at HS5 BK1 BK2 HB L5 hHeld ⊢
 refine U.pu 0 (some 9) HT_ ?_
 refine U.pu 2 (some 11) HT_ ?_
 refine U.pu 5 (some 14) HT_ ?_
 refine U.pu 8 (some 17) HT_ ?_
 refine U.pu 11 (some 20) HT_ ?_
 refine U.pu 14 (some 23) HT_ ?_
 refine U.tk 1 (some 10) HT_ HW_ hHeld ?_ (hy:=by rintro w' ⟨s0,s1,s2,s3,s4,s5⟩;go_simp;with_reducible rfl)
 refine U.tk 3 (some 12) HT_ HW_ hHeld ?_ (hy:=by rintro w' ⟨s0,s1,s2,s3,s4,s5⟩;go_simp;with_reducible rfl)
 refine U.tk 6 (some 15) HT_ HW_ hHeld ?_ (hy:=by rintro w' ⟨s0,s1,s2,s3,s4,s5⟩;go_simp;with_reducible rfl)
 refine U.tk 9 (some 18) HT_ HW_ hHeld ?_ (hy:=by rintro w' ⟨s0,s1,s2,s3,s4,s5⟩;go_simp;with_reducible rfl)
 refine U.tk 12 (some 21) HT_ HW_ hHeld ?_ (hy:=by rintro w' ⟨s0,s1,s2,s3,s4,s5⟩;go_simp;with_reducible rfl)
 refine U.on 4 (some 13) HT_ (fun K hK=>?_)
 refine U.go Tryz.func76 #[.slice A1 F.f1.length c1] ?_
 with_reducible refine (copyTexts_own A1 c1 F.f1 _ (Kd.C_below H1.out HB.out) hc1 HL.out.1).mono ?_
 rintro e z1 ⟨B1,d1,rfl,hs,hb⟩
 refine ⟨_,rfl,?_⟩
 have HS1:=Mk (Kd.S_mono (ok':=fun k=>w8.heap.size ≤ k ∧ k < z1.heap.size) (Kd.S_bound hs) (fun k hk=>⟨hk.1,hk.2.2.1⟩))
 have L1:=Mk hb.size
 replace HS5:=Mk (Kd.S_below HS5.out hb)
 replace BK1:=Mk (blk_below BK1.out hb)
 replace BK2:=Mk (blk_below BK2.out hb)
 have V1:=Mk HB.out.size
 replace HB:=Mk (below_step HB.out hb)
 clear hs hb
 refine hK.out _ _ ⟨U.c0 BK1,U.c1 BK1,U.c2 BK1,U.c3 BK1,U.c4 BK1,U.c5 BK1⟩ (fun hHeld=>?_)
 clear hK K
 refine U.nm 13 ?_
 refine U.on 7 (some 16) HT_ (fun K hK=>?_)
 refine U.go Tryz.func76 #[.slice A2 F.f2.length c2] ?_
 with_reducible refine (copyTexts_own A2 c2 F.f2 _ (Kd.C_below H2.out HB.out) hc2 HL.out.2.1).mono ?_
 rintro e z2 ⟨B2,d2,rfl,hs,hb⟩
 refine ⟨_,rfl,?_⟩
 have HS2:=Mk (Kd.S_mono (ok':=fun k=>z1.heap.size ≤ k ∧ k < z2.heap.size) (Kd.S_bound hs) (fun k hk=>⟨hk.1,hk.2.2.1⟩))
 have L2:=Mk hb.size
 replace HS5:=Mk (Kd.S_below HS5.out hb)
 replace HS1:=Mk (Kd.S_below HS1.out hb)
 replace BK1:=Mk (blk_below BK1.out hb)
 replace BK2:=Mk (blk_below BK2.out hb)
 have V2:=Mk HB.out.size
 replace HB:=Mk (below_step HB.out hb)
 clear hs hb
 refine hK.out _ _ ⟨U.c0 BK1,U.c1 BK1,U.c2 BK1,U.c3 BK1,U.c4 BK1,U.c5 BK1⟩ (fun hHeld=>?_)
 clear hK K
 refine U.nm 16 ?_
 refine U.on 10 (some 19) HT_ (fun K hK=>?_)
 refine U.go Tryz.func76 #[.slice A3 F.f3.length c3] ?_
 with_reducible refine (copyTexts_own A3 c3 F.f3 _ (Kd.C_below H3.out HB.out) hc3 HL.out.2.2.1).mono ?_
 rintro e z3 ⟨B3,d3,rfl,hs,hb⟩
 refine ⟨_,rfl,?_⟩
 have HS3:=Mk (Kd.S_mono (ok':=fun k=>z2.heap.size ≤ k ∧ k < z3.heap.size) (Kd.S_bound hs) (fun k hk=>⟨hk.1,hk.2.2.1⟩))
 have L3:=Mk hb.size
 replace HS5:=Mk (Kd.S_below HS5.out hb)
 replace HS1:=Mk (Kd.S_below HS1.out hb)
 replace HS2:=Mk (Kd.S_below HS2.out hb)
 replace BK1:=Mk (blk_below BK1.out hb)
 replace BK2:=Mk (blk_below BK2.out hb)
 have V3:=Mk HB.out.size
 replace HB:=Mk (below_step HB.out hb)
 clear hs hb
 refine hK.out _ _ ⟨U.c0 BK1,U.c1 BK1,U.c2 BK1,U.c3 BK1,U.c4 BK1,U.c5 BK1⟩ (fun hHeld=>?_)
 clear hK K
 refine U.nm 19 ?_
 refine U.on 13 (some 22) HT_ (fun K hK=>?_)
 refine U.go Tryz.func44 #[.slice A4 F.f4.length c4] ?_
 with_reducible refine (copyInts_own A4 c4 F.f4 _ (Kd.C_below H4.out HB.out) hc4 HL.out.2.2.2.1).mono ?_
 rintro e z4 ⟨B4,d4,rfl,hs,hb⟩
 refine ⟨_,rfl,?_⟩
 have HS4:=Mk (Kd.S_mono (ok':=fun k=>z3.heap.size ≤ k ∧ k < z4.heap.size) (Kd.S_bound hs) (fun k hk=>⟨hk.1,hk.2.2.1⟩))
 have L4:=Mk hb.size
 replace HS5:=Mk (Kd.S_below HS5.out hb)
 replace HS1:=Mk (Kd.S_below HS1.out hb)
 replace HS2:=Mk (Kd.S_below HS2.out hb)
 replace HS3:=Mk (Kd.S_below HS3.out hb)
 replace BK1:=Mk (blk_below BK1.out hb)
 replace BK2:=Mk (blk_below BK2.out hb)
 have V4:=Mk HB.out.size
 replace HB:=Mk (below_step HB.out hb)
 clear hs hb
 refine hK.out _ _ ⟨U.c0 BK1,U.c1 BK1,U.c2 BK1,U.c3 BK1,U.c4 BK1,U.c5 BK1⟩ (fun hHeld=>?_)
 clear hK K
 refine U.nm 22 ?_
 refine U.pu 15 (some 24) HT_ ?_
 refine U.on 16 (none) HT_ (fun K hK=>?_)
 have hs0:=U.c0 BK2
 have hf0:=blk_frozen BK2.out 0
 have hs1:=U.c1 BK2
 have hf1:=blk_frozen BK2.out 1
 have hs2:=U.c2 BK2
 have hf2:=blk_frozen BK2.out 2
 have hs3:=U.c3 BK2
 have hf3:=blk_frozen BK2.out 3
 have hs4:=U.c4 BK2
 have hf4:=blk_frozen BK2.out 4
 have hs5:=U.c5 BK2
 have hf5:=blk_frozen BK2.out 5
 refine skip_ (w1:=?_) (by rfl) rfl ?_ ?_
 rotate_left
 ·go_simp
  rfl
 have hcell : ∀ (W : World) (j : Nat) (u0 u1 u2 u3 u4 u5 : Value),((((((W.setCell ⟨g2,0,none⟩ u0).setCell ⟨g2,1,none⟩ u1).setCell ⟨g2,2,none⟩ u2).setCell ⟨g2,3,none⟩ u3).setCell ⟨g2,4,none⟩ u4).setCell ⟨g2,5,none⟩ u5).cell? ⟨g1,j,none⟩ = W.cell? ⟨g1,j,none⟩:=fun W j u0 u1 u2 u3 u4 u5=>by
  have hn : ∀ i,(⟨g2,i,none⟩ : Addr) ≠ ⟨g1,j,none⟩:=fun i e=>NG.out (by injection e with e1 _;exact e1.symm)
  rw [World.cell?_setCell_other _ _ _ _ (hn 5),World.cell?_setCell_other _ _ _ _ (hn 4),World.cell?_setCell_other _ _ _ _ (hn 3),World.cell?_setCell_other _ _ _ _ (hn 2),World.cell?_setCell_other _ _ _ _ (hn 1),World.cell?_setCell_other _ _ _ _ (hn 0)]
 refine hK.out _ _ ⟨(hcell _ 0 _ _ _ _ _ _).trans hHeld.1,(hcell _ 1 _ _ _ _ _ _).trans hHeld.2.1,(hcell _ 2 _ _ _ _ _ _).trans hHeld.2.2.1,(hcell _ 3 _ _ _ _ _ _).trans hHeld.2.2.2.1,(hcell _ 4 _ _ _ _ _ _).trans hHeld.2.2.2.2.1,(hcell _ 5 _ _ _ _ _ _).trans hHeld.2.2.2.2.2⟩ (fun hHeld=>?_)
 clear hcell
 clear hK K
 refine done_ (done_of HT_.out (by kernel_rfl)) ?_
 try go_wp2
 refine bodyPost_ret (results_cell_row rfl _ _ g2 55 #[.int .i64 F.f0,.slice B1 F.f1.length F.f1.length,.slice B2 F.f2.length F.f2.length,.slice B3 F.f3.length F.f3.length,.slice B4 F.f4.length F.f4.length,.slice A6 F.f5.length F.f5.length] (0,0) _ rfl (U.Kx BK2) Tryz.underlying55 rfl (by kernel_rfl)) rfl ?_
 have hfar : ∀ (W : World) (k : Nat) (u0 u1 u2 u3 u4 u5 : Value),k ≠ g2 → ((((((W.setCell ⟨g2,0,none⟩ u0).setCell ⟨g2,1,none⟩ u1).setCell ⟨g2,2,none⟩ u2).setCell ⟨g2,3,none⟩ u3).setCell ⟨g2,4,none⟩ u4).setCell ⟨g2,5,none⟩ u5).heap[k]? = W.heap[k]?:=fun W k u0 u1 u2 u3 u4 u5 h=>by rw [Below.heap_setCell _ _ _ k h,Below.heap_setCell _ _ _ k h,Below.heap_setCell _ _ _ k h,Below.heap_setCell _ _ _ k h,Below.heap_setCell _ _ _ k h,Below.heap_setCell _ _ _ k h]
 have n1:=L1.out
 have n2:=L2.out
 have n3:=L3.out
 have n4:=L4.out
 have n5:=L5.out
 have n0:=B5.out
 have ng:=N2.out
 have nw:=G1.out
 refine ⟨B1,B2,B3,B4,A6,rfl,FuncOwn.mk (b1:=w8.heap.size) (b2:=z1.heap.size) (b3:=z2.heap.size) (b4:=z3.heap.size) (b5:=w2.heap.size) (c1:=d1) (c2:=d2) (c3:=d3) (c4:=d4) (c5:=c6) F n0 n5 n1 n2 n3 ?_ ?_ ?_ ?_ ?_,?_⟩
 ·exact Kd.S_step (Kd.S_mono (Kd.S_lower HS1.out (by omega)) (fun k hk=>hk)) (fun k hk _=>hfar _ k _ _ _ _ _ _ (by omega))
 ·exact Kd.S_step (Kd.S_mono (Kd.S_lower HS2.out (by omega)) (fun k hk=>hk)) (fun k hk _=>hfar _ k _ _ _ _ _ _ (by omega))
 ·exact Kd.S_step (Kd.S_mono (Kd.S_lower HS3.out (by omega)) (fun k hk=>hk)) (fun k hk _=>hfar _ k _ _ _ _ _ _ (by omega))
 ·exact Kd.S_step (Kd.S_mono (Kd.S_lower HS4.out (by omega)) (fun k hk=>hk.1)) (fun k hk _=>hfar _ k _ _ _ _ _ _ (by omega))
 ·exact Kd.S_step (Kd.S_mono (Kd.S_lower HS5.out (by omega)) (fun k hk=>hk)) (fun k hk _=>hfar _ k _ _ _ _ _ _ (by omega))
 ·have h:=GW.out
  exact (((((HB.out.setCell h _).setCell h _).setCell h _).setCell h _).setCell h _).setCell h _
abbrev k55:=OFnExactModuleRead.k55
abbrev kFuncD : Kd S55:=Kd.iso (pr (Kd.int .i64) kRowsF) (fun x=>(x.f0,(x.f1,x.f2,x.f3,x.f4,x.f5)))
theorem kFuncD_mkM {w : World} {base b : Nat} {ok : Nat → Prop} {x : S55} {cs : List Value} (h : FuncOwn w b x cs) (hb : base ≤ b) (hok : ∀ k,b ≤ k → ok k) : kFuncD.M w base ok x (.int .i64 x.f0 :: cs) :=
 ⟨[.int .i64 x.f0],cs,rfl,fun _=>False,rfl,kRowsF.M_mono (fun k hk=>⟨hok k hk,fun h=>h⟩) (kRowsF.M_lower hb h)⟩
theorem FuncOwn.step {w w1 : World} {base : Nat} {F : S55} {cs : List Value} (h : FuncOwn w base F cs) (hm : ∀ k,base ≤ k → k < w.heap.size → w1.heap[k]? = w.heap[k]?) : FuncOwn w1 base F cs:=Kd.M_step (d:=kRowsF) h hm
abbrev kRowsM:=pr (sl 50 kRecD) (pr (sl 55 kFuncD) (sl 3 (Kd.int .i64)))
def ModOwn (w : World) (base : Nat) (M : MO) (cs : List Value) : Prop:=kRowsM.M w base (fun k=>base ≤ k) (M.r,M.f,M.n) cs
theorem ModOwn.mk {w : World} {base b1 b2 b3 : Nat} {A1 A2 A3 : Option Addr} {c1 c2 c3 : Nat} (M : MO) (hb : base ≤ b1) (h12 : b1 ≤ b2) (h23 : b2 ≤ b3)
  (h1 : Kd.S kRecD 50 w base (fun k=>b1 ≤ k ∧ k < b2) (.slice A1 M.r.length c1) M.r) (h3 : Kd.S (Kd.int .i64) 3 w base (fun k=>b2 ≤ k ∧ k < b3) (.slice A3 M.n.length c3) M.n) (h2 : Kd.S kFuncD 55 w base (fun k=>b3 ≤ k) (.slice A2 M.f.length c2) M.f) :
  ModOwn w base M [.slice A1 M.r.length M.r.length,.slice A2 M.f.length M.f.length,.slice A3 M.n.length M.n.length]:=by
 refine ⟨[_],[_,_],rfl,fun k=>b1 ≤ k ∧ k < b2,⟨.slice A1 M.r.length c1,M.r.length,rfl,Nat.le_refl _,Kd.S_mono h1 (fun k hk=>⟨by omega,hk⟩)⟩,?_⟩
 exact ⟨[_],[_],rfl,fun k=>b3 ≤ k,⟨.slice A2 M.f.length c2,M.f.length,rfl,Nat.le_refl _,Kd.S_mono h2 (fun k hk=>⟨⟨by omega,by omega⟩,hk⟩)⟩,⟨.slice A3 M.n.length c3,M.n.length,rfl,Nat.le_refl _,Kd.S_mono h3 (fun k hk=>⟨⟨by omega,by omega⟩,by omega⟩)⟩⟩
theorem ModOwn.step {w w1 : World} {base : Nat} {M : MO} {cs : List Value} (h : ModOwn w base M cs) (hm : ∀ k,base ≤ k → k < w.heap.size → w1.heap[k]? = w.heap[k]?) : ModOwn w1 base M cs:=Kd.M_step (d:=kRowsM) h hm
theorem ModOwn.lower {w : World} {base b' : Nat} {M : MO} {cs : List Value} (h : ModOwn w base M cs) (hb : b' ≤ base) : ModOwn w b' M cs:=kRowsM.M_mono (fun k hk=>Nat.le_trans hb hk) (kRowsM.M_lower hb h)
def ModC (w : World) (M : MO) (B1 B2 B3 : Option Addr) : Prop:=Kd.C k50 w B1 M.r.length M.r ∧ Kd.C k55 w B2 M.f.length M.f ∧ Kd.C (Kd.int .i64) w B3 M.n.length M.n
theorem ModC.below {w w1 : World} {M : MO} {B1 B2 B3 : Option Addr} (h : ModC w M B1 B2 B3) (hb : Below w.heap.size w w1) : ModC w1 M B1 B2 B3:=⟨Kd.C_below h.1 hb,Kd.C_below h.2.1 hb,Kd.C_below h.2.2 hb⟩
theorem ModOwn.reads {w : World} {base : Nat} {M : MO} {B1 B2 B3 : Option Addr} (h : ModOwn w base M [.slice B1 M.r.length M.r.length,.slice B2 M.f.length M.f.length,.slice B3 M.n.length M.n.length]) : ModC w M B1 B2 B3:=by
 obtain ⟨c1,r1,e1,⟨A1,d1,rfl,_,h1⟩,⟨c2,r2,rfl,⟨A2,d2,rfl,_,h2⟩,⟨A3,d3,rfl,_,h3⟩⟩⟩:=kRowsM.K_of_M h
 injection e1 with q1 e1
 injection e1 with q2 e1
 injection e1 with q3 e1
 injection q1 with q1 _ _
 injection q2 with q2 _ _
 injection q3 with q3 _ _
 subst q1 q2 q3
 exact ⟨h1,h2,h3⟩
abbrev lens9 (M : MO) : Prop:=M.r.length < 1000 ∧ (∀ x ∈ M.r,x.f1.length < 1000) ∧ M.f.length < 1000 ∧ (∀ x ∈ M.f,x.f1.length < 1000 ∧ x.f2.length < 1000 ∧ x.f3.length < 1000 ∧ x.f4.length < 1000 ∧ x.f5.length < 1000) ∧ M.n.length < 1000
def CM (w w' : World) (g1 g2 : Nat) (M : MO) (A1 A2 A3 : Option Addr) (c1 c2 c3 : Nat) (v1 v3 : Value) (g3 : Nat) : Prop:=∃ B1 d1 B3 d3 b2,v1 = .slice B1 M.r.length M.r.length ∧ v3 = .slice B3 M.n.length M.n.length ∧ Kd.S kRecD 50 w' w.heap.size (fun k=>w.heap.size ≤ k ∧ k < b2 ∧ k ≠ g2 ∧ k ≠ g3) (.slice B1 M.r.length d1) M.r ∧ Kd.S (Kd.int .i64) 3 w' w.heap.size (fun k=>b2 ≤ k ∧ k ≠ g2 ∧ k ≠ g3) (.slice B3 M.n.length d3) M.n ∧ b2 ≤ w'.heap.size ∧ w.heap.size ≤ b2 ∧ w'.heap[g1]? = some (.cells #[.slice A1 M.r.length c1,.slice A2 M.f.length c2,.slice A3 M.n.length c3] 26 (0,0)) ∧ w'.heap[g2]? = some (.cells #[.slice none 0 0,.slice none 0 0,.slice none 0 0] 26 (0,0)) ∧ w'.heap[g3]? = some (.cells #[.slice none 0 0,.slice none 0 0,.slice none 0 0] 26 (0,0)) ∧ w.heap.size ≤ g3 ∧ g1 ≠ g3 ∧ g2 ≠ g3 ∧ Below w.heap.size w w'
set_option maxHeartbeats 4000000 in
set_option maxRecDepth 100000 in
theorem copyModule_own (M : MO) (A1 A2 A3 : Option Addr) (c1 c2 c3 : Nat) (w : World) (h1 : Kd.C k50 w A1 M.r.length M.r) (hc1 : M.r.length ≤ c1) (h2 : Kd.C k55 w A2 M.f.length M.f) (hc2 : M.f.length ≤ c2) (h3 : Kd.C (Kd.int .i64) w A3 M.n.length M.n) (hc3 : M.n.length ≤ c3) (hl : lens9 M) :
  Calls Tryz.prog 15 #[.agg #[.slice A1 M.r.length c1,.slice A2 M.f.length c2,.slice A3 M.n.length c3]] w fun e w'=>∃ B1 B2 B3,e = .returned (.agg #[.slice B1 M.r.length M.r.length,.slice B2 M.f.length M.f.length,.slice B3 M.n.length M.n.length]) ∧
   ModOwn w' w.heap.size M [.slice B1 M.r.length M.r.length,.slice B2 M.f.length M.f.length,.slice B3 M.n.length M.n.length] ∧ Below w.heap.size w w':=by
 have hu26:=Tryz.underlying26
 have hu55:=Tryz.underlying55
 have H1:=Mk h1
 have H2:=Mk h2
 have H3:=Mk h3
 have HC:=Mk (And.intro hc1 (And.intro hc2 hc3))
 have HL:=Mk hl
 have HB:=Mk (Below.refl w.heap.size w)
 clear h1 h2 h3 hl hc1 hc2 hc3
 go_enter Tryz.func15,Tryz.ntmps15
 go_wp2_with (first
  | ((with_reducible refine gate_dst (N:=1) rfl ?_);refine U.bx 1 26 #[.slice A1 M.r.length c1,.slice A2 M.f.length c2,.slice A3 M.n.length c3] ?_;intro g1 hg w1 hbox hb;have BK1:=Mk hbox;have G1:=Mk (show w.heap.size ≤ g1 by rw [hg];exact HB.out.size);replace HB:=Mk (below_step HB.out hb);clear hg hbox hb)
  | ((with_reducible refine gate_dst (N:=2) rfl ?_);refine U.bx 2 26 #[.slice none 0 0,.slice none 0 0,.slice none 0 0] ?_;intro g2 hg w2 hbox hb;have G2:=Mk (show g1 < g2 by rw [hg];exact blk_lt BK1.out);replace BK1:=Mk (blk_below BK1.out hb);have BK2:=Mk hbox;replace HB:=Mk (below_step HB.out hb);clear hg hbox hb))
 have GL:=Mk (blk_lt BK2.out)
 replace BK1:=Mk (blk_drew BK1.out)
 replace BK2:=Mk (blk_drew BK2.out)
 replace HB:=Mk (below_drew1 HB.out)
 replace GL:=Mk (show g2 < w2.drew.heap.size from GL.out)
 refine start_ (n:=9) (S:=fun w'=>w'.cell? ⟨g1,0,none⟩ = some (.slice A1 M.r.length c1) ∧ w'.cell? ⟨g1,2,none⟩ = some (.slice A3 M.n.length c3)) (ds:=[8]) #[false,false,false,false,false,false,false,false,false] (by kernel_rfl) rfl rfl (⟨U.c0 BK1,U.c2 BK1⟩) (fun hHeld=>?_)
 (generalize w2.drew = w6 at BK1 BK2 HB GL hHeld ⊢)
 obtain ⟨z0,hz0⟩ : ∃ z,z = w6.heap.size:=⟨_,rfl⟩
 have Z0:=Mk hz0
 have GW:=Mk (show g2 < z0 ∧ w.heap.size ≤ z0 by rw [hz0];exact ⟨GL.out,HB.out.size⟩)
 clear hz0 GL
 refine U.pn 0 (some 6) ?_
 refine U.pn 3 (some 9) ?_
 refine take_ (i:=1) (N:=some 7) (v:=.slice A1 M.r.length c1) #[true,true,false,true,false,false,false,false,false] rfl rfl (by kernel_rfl) (fun _ _ _ h=>h) (Or.inl ⟨by rfl,?_⟩) hHeld (by simp only [Act.put,List.setIfInBounds_toArray,List.set_cons_zero,List.set_cons_succ];rfl) ?_
 ·rintro w' ⟨s0,s1⟩
  go_simp
 refine take_ (i:=4) (N:=some 10) (v:=.slice A3 M.n.length c3) #[true,true,false,true,true,false,false,false,false] rfl rfl (by kernel_rfl) (fun _ _ _ h=>h) (Or.inl ⟨by rfl,?_⟩) hHeld (by simp only [Act.put,List.setIfInBounds_toArray,List.set_cons_zero,List.set_cons_succ];rfl) ?_
 ·rintro w' ⟨s0,s1⟩
  go_simp
 refine join_ (σ:=Value × Value × Nat) 1 #[true,true,true,true,true,true,true,true,false] (fun s_=>[(8,s_.1),(11,s_.2.1),(3,.pointer (some ⟨s_.2.2,0,none⟩)),(12,.agg #[s_.1,.slice none 0 0,s_.2.1])]) (fun s_ w'=>(w'.cell? ⟨g1,0,none⟩ = some (.slice A1 M.r.length c1) ∧ w'.cell? ⟨g1,2,none⟩ = some (.slice A3 M.n.length c3)) ∧ CM w w' g1 g2 M A1 A2 A3 c1 c2 c3 s_.1 s_.2.1 s_.2.2) ?_ ?_
 rotate_left
 ·intro hCont
  refine two_ (i:=2) (j:=7) (Ni:=some 8) (Nj:=some 3) #[true,true,true,true,true,false,false,false,false] #[true,true,false,true,true,false,false,true,false] rfl rfl rfl rfl (by kernel_rfl) (by decide) (by decide) (fun K hK=>?_) (fun K hK=>?_)
  ·skip
   refine U.go Tryz.func43 #[.slice A1 M.r.length c1] ?_
   with_reducible refine (copyRecords_own A1 c1 M.r _ (Kd.C_below H1.out HB.out) HC.out.1 (by have:=HL.out.1;omega) (fun x hx=>by have:=HL.out.2.1 x hx;omega)).mono ?_
   rintro e z1 ⟨B1,d1,rfl,hs,hb⟩
   refine ⟨_,rfl,?_⟩
   have HS1:=Mk (Kd.S_lower (Kd.S_mono (ok':=fun k=>w6.heap.size ≤ k ∧ k < z1.heap.size) (Kd.S_bound hs) (fun k hk=>⟨hk.1,hk.2.2.1⟩)) HB.out.size)
   have L1:=Mk hb.size
   replace BK1:=Mk (blk_below BK1.out hb)
   replace BK2:=Mk (blk_below BK2.out hb)
   replace HB:=Mk (below_step HB.out hb)
   clear hs hb hHeld
   refine hK.out _ _ ⟨U.c0 BK1,U.c2 BK1⟩ (fun hHeld=>?_)
   clear hK K
   refine U.nm 8 ?_
   refine two_ (i:=5) (j:=7) (Ni:=some 11) (Nj:=some 3) #[true,true,true,true,true,true,false,false,false] #[true,true,true,true,true,false,false,true,false] rfl rfl rfl rfl (by kernel_rfl) (by decide) (by decide) (fun K hK=>?_) (fun K hK=>?_)
   ·skip
    refine U.go Tryz.func44 #[.slice A3 M.n.length c3] ?_
    with_reducible refine (copyInts_own A3 c3 M.n _ (Kd.C_below H3.out HB.out) HC.out.2.2 (by have:=HL.out.2.2.2.2;omega)).mono ?_
    rintro e z2 ⟨B3,d3,rfl,hs,hb⟩
    refine ⟨_,rfl,?_⟩
    have HS3:=Mk (Kd.S_lower (Kd.S_mono (ok':=fun k=>z1.heap.size ≤ k ∧ k < z2.heap.size) (Kd.S_bound hs) (fun k hk=>⟨hk.1,hk.2.2.1⟩)) HB.out.size)
    have L2:=Mk hb.size
    replace HS1:=Mk (Kd.S_below HS1.out hb)
    replace BK1:=Mk (blk_below BK1.out hb)
    replace BK2:=Mk (blk_below BK2.out hb)
    replace HB:=Mk (below_step HB.out hb)
    clear hs hb hHeld
    refine hK.out _ _ ⟨U.c0 BK1,U.c2 BK1⟩ (fun hHeld=>?_)
    clear hK K
    refine U.nm 11 ?_
    refine U.pn 6 (some 12) ?_
    refine one_ (i:=7) (N:=some 3) #[true,true,true,true,true,true,true,true,false] rfl rfl (by kernel_rfl) (by decide) (fun K hK=>?_)
    refine box_step ?hg (N:=3) ?hd (cs:=#[.slice none 0 0,.slice none 0 0,.slice none 0 0]) (t:=26) ?hr ?_
    (case hd=>rfl)
    (case hg=>rfl)
    (case hr=>first | (go_simp;done) | (go_simp;rfl))
    intro g3 hg z3 hbox hb
    have BK3:=Mk hbox
    have L3:=Mk hg
    have L4:=Mk (blk_lt hbox)
    replace BK1:=Mk (blk_below BK1.out hb)
    replace BK2:=Mk (blk_below BK2.out hb)
    replace HS1:=Mk (Kd.S_below HS1.out hb)
    replace HS3:=Mk (Kd.S_below HS3.out hb)
    replace HB:=Mk (below_step HB.out hb)
    clear hb hbox hg hHeld
    refine hK.out _ _ ⟨U.c0 BK1,U.c2 BK1⟩ (fun hHeld=>?_)
    clear hK K
    refine U.nm 3 ?_
    have g2o:=G2.out;have z0e:=Z0.out;have gw:=GW.out;have l1:=L1.out;have l2:=L2.out;have l3:=L3.out;have l4:=L4.out
    exact norm_ (by simp only [putAll,Act.put,List.setIfInBounds_toArray,List.set_cons_zero,List.set_cons_succ]) (hCont (.slice B1 M.r.length M.r.length,.slice B3 M.n.length M.n.length,g3) _ ⟨hHeld,B1,d1,B3,d3,z1.heap.size,rfl,rfl,Kd.S_mono HS1.out (fun k hk=>⟨by (try dsimp only);omega,by (try dsimp only);omega,by (try dsimp only);omega,by (try dsimp only);omega⟩),Kd.S_mono HS3.out (fun k hk=>⟨by (try dsimp only);omega,by (try dsimp only);omega,by (try dsimp only);omega⟩),by (try dsimp only);omega,by (try dsimp only);omega,BK1.out,BK2.out,BK3.out,by (try dsimp only);omega,fun he=>by have:=blk_lt BK1.out;(try dsimp only at he);omega,by (try dsimp only);omega,HB.out⟩)
   ·skip
    refine box_step ?hg (N:=3) ?hd (cs:=#[.slice none 0 0,.slice none 0 0,.slice none 0 0]) (t:=26) ?hr ?_
    (case hd=>rfl)
    (case hg=>rfl)
    (case hr=>first | (go_simp;done) | (go_simp;rfl))
    intro g3 hg z3 hbox hb
    have BK3:=Mk hbox
    have L3:=Mk hg
    have L4:=Mk (blk_lt hbox)
    replace BK1:=Mk (blk_below BK1.out hb)
    replace BK2:=Mk (blk_below BK2.out hb)
    replace HS1:=Mk (Kd.S_below HS1.out hb)
    replace HB:=Mk (below_step HB.out hb)
    clear hb hbox hg hHeld
    refine hK.out _ _ ⟨U.c0 BK1,U.c2 BK1⟩ (fun hHeld=>?_)
    clear hK K
    refine U.nm 3 ?_
    refine one_ (i:=5) (N:=some 11) #[true,true,true,true,true,true,false,true,false] rfl rfl (by kernel_rfl) (by decide) (fun K hK=>?_)
    refine U.go Tryz.func44 #[.slice A3 M.n.length c3] ?_
    with_reducible refine (copyInts_own A3 c3 M.n _ (Kd.C_below H3.out HB.out) HC.out.2.2 (by have:=HL.out.2.2.2.2;omega)).mono ?_
    rintro e z2 ⟨B3,d3,rfl,hs,hb⟩
    refine ⟨_,rfl,?_⟩
    have HS3:=Mk (Kd.S_lower (Kd.S_mono (ok':=fun k=>z3.heap.size ≤ k ∧ k < z2.heap.size) (Kd.S_bound hs) (fun k hk=>⟨hk.1,hk.2.2.1⟩)) HB.out.size)
    have L2:=Mk hb.size
    replace HS1:=Mk (Kd.S_below HS1.out hb)
    replace BK1:=Mk (blk_below BK1.out hb)
    replace BK2:=Mk (blk_below BK2.out hb)
    replace BK3:=Mk (blk_below BK3.out hb)
    replace HB:=Mk (below_step HB.out hb)
    clear hs hb hHeld
    refine hK.out _ _ ⟨U.c0 BK1,U.c2 BK1⟩ (fun hHeld=>?_)
    clear hK K
    refine U.nm 11 ?_
    refine U.pn 6 (some 12) ?_
    have g2o:=G2.out;have z0e:=Z0.out;have gw:=GW.out;have l1:=L1.out;have l2:=L2.out;have l3:=L3.out;have l4:=L4.out
    exact norm_ (by simp only [putAll,Act.put,List.setIfInBounds_toArray,List.set_cons_zero,List.set_cons_succ]) (hCont (.slice B1 M.r.length M.r.length,.slice B3 M.n.length M.n.length,g3) _ ⟨hHeld,B1,d1,B3,d3,z1.heap.size,rfl,rfl,Kd.S_mono HS1.out (fun k hk=>⟨by (try dsimp only);omega,by (try dsimp only);omega,by (try dsimp only);omega,by (try dsimp only);omega⟩),Kd.S_mono HS3.out (fun k hk=>⟨by (try dsimp only);omega,by (try dsimp only);omega,by (try dsimp only);omega⟩),by (try dsimp only);omega,by (try dsimp only);omega,BK1.out,BK2.out,BK3.out,by (try dsimp only);omega,fun he=>by have:=blk_lt BK1.out;(try dsimp only at he);omega,by (try dsimp only);omega,HB.out⟩)
  ·skip
   refine box_step ?hg (N:=3) ?hd (cs:=#[.slice none 0 0,.slice none 0 0,.slice none 0 0]) (t:=26) ?hr ?_
   (case hd=>rfl)
   (case hg=>rfl)
   (case hr=>first | (go_simp;done) | (go_simp;rfl))
   intro g3 hg z3 hbox hb
   have BK3:=Mk hbox
   have L3:=Mk hg
   have L4:=Mk (blk_lt hbox)
   replace BK1:=Mk (blk_below BK1.out hb)
   replace BK2:=Mk (blk_below BK2.out hb)
   replace HB:=Mk (below_step HB.out hb)
   clear hb hbox hg hHeld
   refine hK.out _ _ ⟨U.c0 BK1,U.c2 BK1⟩ (fun hHeld=>?_)
   clear hK K
   refine U.nm 3 ?_
   refine one_ (i:=2) (N:=some 8) #[true,true,true,true,true,false,false,true,false] rfl rfl (by kernel_rfl) (by decide) (fun K hK=>?_)
   refine U.go Tryz.func43 #[.slice A1 M.r.length c1] ?_
   with_reducible refine (copyRecords_own A1 c1 M.r _ (Kd.C_below H1.out HB.out) HC.out.1 (by have:=HL.out.1;omega) (fun x hx=>by have:=HL.out.2.1 x hx;omega)).mono ?_
   rintro e z1 ⟨B1,d1,rfl,hs,hb⟩
   refine ⟨_,rfl,?_⟩
   have HS1:=Mk (Kd.S_lower (Kd.S_mono (ok':=fun k=>z3.heap.size ≤ k ∧ k < z1.heap.size) (Kd.S_bound hs) (fun k hk=>⟨hk.1,hk.2.2.1⟩)) HB.out.size)
   have L1:=Mk hb.size
   replace BK1:=Mk (blk_below BK1.out hb)
   replace BK2:=Mk (blk_below BK2.out hb)
   replace BK3:=Mk (blk_below BK3.out hb)
   replace HB:=Mk (below_step HB.out hb)
   clear hs hb hHeld
   refine hK.out _ _ ⟨U.c0 BK1,U.c2 BK1⟩ (fun hHeld=>?_)
   clear hK K
   refine U.nm 8 ?_
   refine one_ (i:=5) (N:=some 11) #[true,true,true,true,true,true,false,true,false] rfl rfl (by kernel_rfl) (by decide) (fun K hK=>?_)
   refine U.go Tryz.func44 #[.slice A3 M.n.length c3] ?_
   with_reducible refine (copyInts_own A3 c3 M.n _ (Kd.C_below H3.out HB.out) HC.out.2.2 (by have:=HL.out.2.2.2.2;omega)).mono ?_
   rintro e z2 ⟨B3,d3,rfl,hs,hb⟩
   refine ⟨_,rfl,?_⟩
   have HS3:=Mk (Kd.S_lower (Kd.S_mono (ok':=fun k=>z1.heap.size ≤ k ∧ k < z2.heap.size) (Kd.S_bound hs) (fun k hk=>⟨hk.1,hk.2.2.1⟩)) HB.out.size)
   have L2:=Mk hb.size
   replace HS1:=Mk (Kd.S_below HS1.out hb)
   replace BK1:=Mk (blk_below BK1.out hb)
   replace BK2:=Mk (blk_below BK2.out hb)
   replace BK3:=Mk (blk_below BK3.out hb)
   replace HB:=Mk (below_step HB.out hb)
   clear hs hb hHeld
   refine hK.out _ _ ⟨U.c0 BK1,U.c2 BK1⟩ (fun hHeld=>?_)
   clear hK K
   refine U.nm 11 ?_
   refine U.pn 6 (some 12) ?_
   have g2o:=G2.out;have z0e:=Z0.out;have gw:=GW.out;have l1:=L1.out;have l2:=L2.out;have l3:=L3.out;have l4:=L4.out
   exact norm_ (by simp only [putAll,Act.put,List.setIfInBounds_toArray,List.set_cons_zero,List.set_cons_succ]) (hCont (.slice B1 M.r.length M.r.length,.slice B3 M.n.length M.n.length,g3) _ ⟨hHeld,B1,d1,B3,d3,z1.heap.size,rfl,rfl,Kd.S_mono HS1.out (fun k hk=>⟨by (try dsimp only);omega,by (try dsimp only);omega,by (try dsimp only);omega,by (try dsimp only);omega⟩),Kd.S_mono HS3.out (fun k hk=>⟨by (try dsimp only);omega,by (try dsimp only);omega,by (try dsimp only);omega⟩),by (try dsimp only);omega,by (try dsimp only);omega,BK1.out,BK2.out,BK3.out,by (try dsimp only);omega,fun he=>by have:=blk_lt BK1.out;(try dsimp only at he);omega,by (try dsimp only);omega,HB.out⟩)
 rintro ⟨v1,v3,g3⟩ w12 ⟨hHeld,B1,d1,B3,d3,b2,e1,e3,hs1,hs3,hb2,hb3,hk1,hk2,hk3,hg3,hg4,hg5,hb⟩
 dsimp only at e1 e3
 subst e1;subst e3
 clear BK1 BK2 HB
 have HS1:=Mk hs1
 have HS3:=Mk hs3
 have LB:=Mk (And.intro hb2 hb3)
 have BK1:=Mk hk1
 have BK2:=Mk hk2
 have BK3:=Mk hk3
 have G3:=Mk (And.intro hg3 (And.intro hg4 hg5))
 have HB:=Mk hb
 clear hs1 hs3 hb2 hb3 hk1 hk2 hk3 hg3 hg4 hg5 hb
 refine norm_ (a':=?_) ?_ ?_
 rotate_left
 ·simp only [putAll,Act.put,List.setIfInBounds_toArray,List.set_cons_zero,List.set_cons_succ]
  rfl
 obtain ⟨hm0,hm1,hm2,hz0,hz1,hz2⟩:=U.d3 BK3
 refine last_ (i:=8) (N:=none) #[true,true,true,true,true,true,true,true,true] rfl rfl (by kernel_rfl) (by decide) (fun K hK=>?_)
 refine skip_ (w1:=((w12.setCell ⟨g3,0,none⟩ (.slice B1 M.r.length M.r.length)).setCell ⟨g3,1,none⟩ (.slice none 0 0)).setCell ⟨g3,2,none⟩ (.slice B3 M.n.length M.n.length)) (by rfl) rfl ?_ ?_
 ·go_simp
 refine hK.out _ _ ?_
 refine done_ (by kernel_rfl) ?_
 have hfar : ∀ k,k ≠ g3 → (((w12.setCell ⟨g3,0,none⟩ (.slice B1 M.r.length M.r.length)).setCell ⟨g3,1,none⟩ (.slice none 0 0)).setCell ⟨g3,2,none⟩ (.slice B3 M.n.length M.n.length)).heap[k]? = w12.heap[k]?:=fun k h=>by rw [Below.heap_setCell _ _ _ k h,Below.heap_setCell _ _ _ k h,Below.heap_setCell _ _ _ k h]
 have HS1:=Mk (Kd.S_step HS1.out (fun k hk _=>hfar k hk.2.2.2))
 have HS3:=Mk (Kd.S_step HS3.out (fun k hk _=>hfar k hk.2.2))
 have BK1:=Mk ((hfar g1 G3.out.2.1).trans BK1.out)
 have BK2:=Mk ((hfar g2 G3.out.2.2).trans BK2.out)
 have BK3:=Mk (blk_put (cs:=#[.slice B1 M.r.length M.r.length,.slice none 0 0,.slice none 0 0]) (blk_put (cs:=#[.slice B1 M.r.length M.r.length,.slice none 0 0,.slice none 0 0]) (blk_put (cs:=#[.slice none 0 0,.slice none 0 0,.slice none 0 0]) BK3.out 0 (.slice B1 M.r.length M.r.length) rfl) 1 (.slice none 0 0) rfl) 2 (.slice B3 M.n.length M.n.length) rfl)
 have LS:=Mk (show b2 ≤ (((w12.setCell ⟨g3,0,none⟩ (.slice B1 M.r.length M.r.length)).setCell ⟨g3,1,none⟩ (.slice none 0 0)).setCell ⟨g3,2,none⟩ (.slice B3 M.n.length M.n.length)).heap.size from Nat.le_trans LB.out.1 ((((Below.refl 0 w12).setCell (p:=⟨g3,0,none⟩) (Nat.zero_le _) (.slice B1 M.r.length M.r.length)).setCell (p:=⟨g3,1,none⟩) (Nat.zero_le _) (.slice none 0 0)).setCell (p:=⟨g3,2,none⟩) (Nat.zero_le _) (.slice B3 M.n.length M.n.length)).size)
 have HB:=Mk (((HB.out.setCell (p:=⟨g3,0,none⟩) G3.out.1 (.slice B1 M.r.length M.r.length)).setCell (p:=⟨g3,1,none⟩) G3.out.1 (.slice none 0 0)).setCell (p:=⟨g3,2,none⟩) G3.out.1 (.slice B3 M.n.length M.n.length))
 clear hK K hfar hHeld hm0 hm1 hm2 hz0 hz1 hz2
 (generalize ((w12.setCell ⟨g3,0,none⟩ (.slice B1 M.r.length M.r.length)).setCell ⟨g3,1,none⟩ (.slice none 0 0)).setCell ⟨g3,2,none⟩ (.slice B3 M.n.length M.n.length) = w13 at HS1 HS3 BK1 BK2 BK3 HB LS ⊢)
 obtain ⟨b3,hb3⟩ : ∃ z,z = w13.heap.size:=⟨_,rfl⟩
 have HS3:=Mk (Kd.S_mono (ok':=fun k=>b2 ≤ k ∧ k < b3 ∧ k ≠ g2 ∧ k ≠ g3) (Kd.S_bound HS3.out) (fun k hk=>⟨hk.1.1,by rw [hb3];exact hk.2.2.1,hk.1.2.1,hk.1.2.2⟩))
 have GB:=Mk (show g1 < b3 ∧ g2 < b3 ∧ g3 < b3 ∧ w.heap.size ≤ b3 ∧ b2 ≤ b3 by rw [hb3];exact ⟨blk_lt BK1.out,blk_lt BK2.out,blk_lt BK3.out,HB.out.size,LS.out⟩)
 have B3S:=Mk (Nat.le_of_eq hb3)
 clear hb3
 have hx1:=U.c1 BK1
 have hlen:=HL.out.2.2.1
 go_wp2
 clear hx1
 go_loopw [16] (fun v16 wr=>∃ (i : Nat) (vF : Value),i ≤ M.f.length ∧ v16 = .int .i64 i ∧ Aside0 (Kd.S kRecD 50 wr w.heap.size (fun k=>w.heap.size ≤ k ∧ k < b2 ∧ k ≠ g2 ∧ k ≠ g3) (.slice B1 M.r.length d1) M.r) ∧ Aside0 (Kd.S (Kd.int .i64) 3 wr w.heap.size (fun k=>b2 ≤ k ∧ k < b3 ∧ k ≠ g2 ∧ k ≠ g3) (.slice B3 M.n.length d3) M.n) ∧ Aside0 (Kd.S kFuncD 55 wr w.heap.size (fun k=>b3 ≤ k) vF (M.f.take i)) ∧ Aside0 (wr.heap[g2]? = some (.cells #[.slice none 0 0,.slice none 0 0,.slice none 0 0] 26 (0,0))) ∧ Aside0 (wr.heap[g3]? = some (.cells #[.slice B1 M.r.length M.r.length,vF,.slice B3 M.n.length M.n.length] 26 (0,0))) ∧ Aside0 (b3 ≤ wr.heap.size) ∧ Aside0 (Below w.heap.size w wr)) (fun v16 _=>M.f.length - (intOf v16).toNat)
 case atStart=>exact ⟨0,.slice none 0 0,Nat.zero_le _,rfl,HS1,HS3,⟨Kd.S_nil _ _ _ _ _⟩,BK2,BK3,B3S,HB⟩
 case round =>
  clear HS1 HS3 BK1 BK2 BK3 HB B3S LS
  obtain ⟨i,vF,hi,rfl,HS1,HS3,HF,BK2,BK3,HZ,HB⟩:=hrel
  obtain ⟨AO,cO,eO⟩:=Kd.S_slice HF.out
  subst eO
  by_cases hlt : i < M.f.length
  ·obtain ⟨ad,A4,c4,A5,c5,A6,c6,A7,c7,A8,c8,ea,hx0,hx1,hx2,hx3,hx4,hx5,m1,q1,m2,q2,m3,q3,m4,q4,m5,q5⟩:=OFnExactModuleRead.at_T55 H2.out (i : Int) (by omega) (by omega)
   have hrd : OFnExactModuleRead.rd_T55 M.f (i : Int) = M.f[i]:=by simp [OFnExactModuleRead.rd_T55,hlt]
   rw [hrd] at hx0 hx1 hx2 hx3 hx4 hx5 m1 q1 m2 q2 m3 q3 m4 q4 m5 q5
   have hff:=HL.out.2.2.2.1 M.f[i] (List.getElem_mem hlt)
   have hts : M.f.take (i + 1) = M.f.take i ++ [M.f[i]]:=List.take_succ_eq_append_getElem hlt
   generalize M.f[i] = x at hx0 hx1 hx2 hx3 hx4 hx5 m1 q1 m2 q2 m3 q3 m4 q4 m5 q5 hff hts
   have HTS:=Mk hts
   cases ea
   rw [Int.toNat_natCast] at hx0 hx1 hx2 hx3 hx4 hx5
   have hx0:=(HB.out.cell (World.block_lt_of_cell? w _ hx0)).trans hx0
   have hx1:=(HB.out.cell (World.block_lt_of_cell? w _ hx1)).trans hx1
   have hx2:=(HB.out.cell (World.block_lt_of_cell? w _ hx2)).trans hx2
   have hx3:=(HB.out.cell (World.block_lt_of_cell? w _ hx3)).trans hx3
   have hx4:=(HB.out.cell (World.block_lt_of_cell? w _ hx4)).trans hx4
   have hx5:=(HB.out.cell (World.block_lt_of_cell? w _ hx5)).trans hx5
   have QC:=Mk (And.intro q1 (And.intro q2 (And.intro q3 (And.intro q4 q5))))
   have QL:=Mk (And.intro m1 (And.intro m2 (And.intro m3 (And.intro m4 m5))))
   have HFF:=Mk hff
   clear q1 q2 q3 q4 q5 m1 m2 m3 m4 m5 hrd hff hts
   go_wp2_with fail
   obtain ⟨g,hg⟩ : ∃ g,g = wr.heap.size:=⟨_,rfl⟩
   obtain ⟨wb,hwb⟩ : ∃ W,W = wr.alloc (.cells #[.int .i64 x.f0,.slice A4 x.f1.length c4,.slice A5 x.f2.length c5,.slice A6 x.f3.length c6,.slice A7 x.f4.length c7,.slice A8 x.f5.length c8] 55):=⟨_,rfl⟩
   rw [← hwb,← hg]
   have hBb : Below wr.heap.size wr wb:=by rw [hwb];exact below_alloc (Below.refl _ _) _
   have BK:=Mk (show wb.heap[g]? = some (.cells #[.int .i64 x.f0,.slice A4 x.f1.length c4,.slice A5 x.f2.length c5,.slice A6 x.f3.length c6,.slice A7 x.f4.length c7,.slice A8 x.f5.length c8] 55 (0,0)) by rw [hwb,hg];exact heap_alloc_new wr _)
   replace HF:=Mk (Kd.S_mono (ok':=fun k=>b3 ≤ k ∧ k < g) (Kd.S_below (Kd.S_bound HF.out) hBb) (fun k hk=>⟨hk.1,by rw [hg];exact hk.2.2.1⟩))
   replace HS1:=Mk (Kd.S_below HS1.out hBb)
   replace HS3:=Mk (Kd.S_below HS3.out hBb)
   replace BK2:=Mk (blk_below BK2.out hBb)
   replace BK3:=Mk (blk_below BK3.out hBb)
   have GE:=Mk (show b3 ≤ g by rw [hg];exact HZ.out)
   replace HB:=Mk (below_step HB.out hBb)
   have GS:=Mk (blk_lt BK.out)
   clear hwb hg hBb hx0 hx1 hx2 hx3 hx4 hx5 HZ
   replace HF:=Mk (Kd.S_drew HF.out)
   replace HS1:=Mk (Kd.S_drew HS1.out)
   replace HS3:=Mk (Kd.S_drew HS3.out)
   replace BK:=Mk (blk_drew BK.out)
   replace BK2:=Mk (blk_drew BK2.out)
   replace BK3:=Mk (blk_drew BK3.out)
   replace HB:=Mk (below_drew1 HB.out)
   replace GS:=Mk (show g < wb.drew.heap.size from GS.out)
   refine start_ (n:=8) (S:=fun w'=>w'.cell? ⟨g3,1,none⟩ = some (.slice AO (M.f.take i).length cO) ∧ w'.cell? ⟨g,0,none⟩ = some (.int .i64 x.f0) ∧ w'.cell? ⟨g,1,none⟩ = some (.slice A4 x.f1.length c4) ∧ w'.cell? ⟨g,2,none⟩ = some (.slice A5 x.f2.length c5) ∧ w'.cell? ⟨g,3,none⟩ = some (.slice A6 x.f3.length c6) ∧ w'.cell? ⟨g,4,none⟩ = some (.slice A7 x.f4.length c7) ∧ w'.cell? ⟨g,5,none⟩ = some (.slice A8 x.f5.length c8)) (ds:=[7]) #[false,false,false,false,false,false,false,false] (by kernel_rfl) rfl rfl (⟨U.c1 BK3,U.c0 BK,U.c1 BK,U.c2 BK,U.c3 BK,U.c4 BK,U.c5 BK⟩) (fun hHeld=>?_)
   (generalize wb.drew = w14 at HF HS1 HS3 BK BK2 BK3 HB GS hHeld ⊢)
   refine U.pn 0 (some 20) ?_
   refine take_ (i:=1) (N:=some 21) (v:=.slice AO (M.f.take i).length cO) #[true,true,false,false,false,false,false,false] rfl rfl (by kernel_rfl) (fun _ _ _ h=>h) (Or.inl ⟨by rfl,?_⟩) hHeld (by simp only [Act.put,List.setIfInBounds_toArray,List.set_cons_zero,List.set_cons_succ];rfl) ?_
   ·rintro w' ⟨s9,s0,s1,s2,s3,s4,s5⟩
    go_simp
   refine take_ (i:=2) (N:=some 22) (v:=.agg #[.int .i64 x.f0,.slice A4 x.f1.length c4,.slice A5 x.f2.length c5,.slice A6 x.f3.length c6,.slice A7 x.f4.length c7,.slice A8 x.f5.length c8]) #[true,true,true,false,false,false,false,false] rfl rfl (by kernel_rfl) (fun _ _ _ h=>h) (Or.inl ⟨by rfl,?_⟩) hHeld (by simp only [Act.put,List.setIfInBounds_toArray,List.set_cons_zero,List.set_cons_succ];rfl) ?_
   ·rintro w' ⟨s9,s0,s1,s2,s3,s4,s5⟩
    go_simp
   refine one_ (i:=3) (N:=some 23) #[true,true,true,true,false,false,false,false] rfl rfl (by kernel_rfl) (by decide) (fun K hK=>?_)
   refine U.go Tryz.func45 #[.agg #[.int .i64 x.f0,.slice A4 x.f1.length c4,.slice A5 x.f2.length c5,.slice A6 x.f3.length c6,.slice A7 x.f4.length c7,.slice A8 x.f5.length c8]] ?_
   with_reducible refine (copyFunc_own x A4 A5 A6 A7 A8 c4 c5 c6 c7 c8 _ (Kd.C_below QC.out.1 HB.out) QL.out.1 (Kd.C_below QC.out.2.1 HB.out) QL.out.2.1 (Kd.C_below QC.out.2.2.1 HB.out) QL.out.2.2.1 (Kd.C_below QC.out.2.2.2.1 HB.out) QL.out.2.2.2.1 (Kd.C_below QC.out.2.2.2.2 HB.out) QL.out.2.2.2.2 (by have:=HFF.out;omega)).mono ?_
   rintro e w15 ⟨D1,D2,D3,D4,D5,rfl,hfo,hb⟩
   refine ⟨_,rfl,?_⟩
   have FO:=Mk hfo
   have GT:=Mk (And.intro GS.out HB.out.size)
   replace HF:=Mk (Kd.S_below HF.out hb)
   replace HS1:=Mk (Kd.S_below HS1.out hb)
   replace HS3:=Mk (Kd.S_below HS3.out hb)
   replace BK:=Mk (blk_below BK.out hb)
   replace BK2:=Mk (blk_below BK2.out hb)
   replace BK3:=Mk (blk_below BK3.out hb)
   have L15:=Mk hb.size
   replace HB:=Mk (below_step HB.out hb)
   clear hfo hb hHeld
   refine hK.out _ _ (⟨U.c1 BK3,U.c0 BK,U.c1 BK,U.c2 BK,U.c3 BK,U.c4 BK,U.c5 BK⟩) (fun hHeld=>?_)
   clear hK K
   refine U.nm 23 ?_
   refine one_ (i:=4) (N:=some 24) #[true,true,true,true,true,false,false,false] rfl rfl (by kernel_rfl) (by decide) (fun K hK=>?_)
   refine value_ (w1:=?_) (v:=?_) (by rfl) rfl ?_ ?_
   rotate_left 2
   ·go_simp
    constructor
    ·rfl
    ·rfl
   refine hK.out _ _ ⟨(blk_cell (blk_alloc BK3.out _) 1).trans rfl,(blk_cell (blk_alloc BK.out _) 0).trans rfl,(blk_cell (blk_alloc BK.out _) 1).trans rfl,(blk_cell (blk_alloc BK.out _) 2).trans rfl,(blk_cell (blk_alloc BK.out _) 3).trans rfl,(blk_cell (blk_alloc BK.out _) 4).trans rfl,(blk_cell (blk_alloc BK.out _) 5).trans rfl⟩ (fun hHeld=>?_)
   clear hK K
   refine U.nm 24 ?_
   refine one_ (i:=5) (N:=some 25) #[true,true,true,true,true,true,false,false] rfl rfl (by kernel_rfl) (by decide) (fun K hK=>?_)
   refine Kd.S_append_step kFuncD (w0:=w) w.heap.size (by rfl) (.tmp 21) (.tmp 24) 23 55 (.agg #[(.int .i64 0),(.slice none 0 0),(.slice none 0 0),(.slice none 0 0),(.slice none 0 0),(.slice none 0 0)]) 128 rfl Tryz.underlying23 OFnExactModuleRead.info55 rfl (by decide) (by omega) (.slice AO (M.f.take i).length cO) (M.f.take i) x [.int .i64 x.f0,.slice D1 x.f1.length x.f1.length,.slice D2 x.f2.length x.f2.length,.slice D3 x.f3.length x.f3.length,.slice D4 x.f4.length x.f4.length,.slice D5 x.f5.length x.f5.length] (fun k=>b3 ≤ k) (fun k=>w14.heap.size ≤ k) rfl rfl ?aP ?aX ?aF ?aO ?aB ?aS ?aL ?_
   case aP=>exact kFuncD_mkM FO.out GT.out.2 (fun k hk=>hk)
   case aX=>exact fun k hk=>⟨by have:=GE.out;have:=GT.out.1;omega,fun he=>by have:=(HF.out.choose_spec.1 k he.symm).2;have:=GT.out.1;omega⟩
   case aF=>exact fun k hk=>by have:=GE.out;have:=GT.out.1;have:=L15.out;omega
   case aO=>exact Kd.S_mono HF.out (fun k hk=>⟨hk.1,fun h=>by have:=hk.2;have:=GT.out.1;omega⟩)
   case aB=>exact HB.out
   case aS=>exact HB.out.size
   case aL=>have h2:=List.length_take_le i M.f;omega
   intro v25 w16 ho hb hgr hat
   rw [← HTS.out] at ho
   obtain ⟨A25,c25,e25⟩:=Kd.S_slice ho
   generalize hn25 : (M.f.take (i + 1)).length = n25 at e25
   subst e25
   have own : ∀ k,k < b3 → some k ≠ (Value.slice AO (M.f.take i).length cO).ownBlock:=fun k hk he=>by have:=(HF.out.choose_spec.1 k he.symm).1;omega
   have gb:=GB.out
   replace HS1:=Mk (Kd.S_step HS1.out (fun k hk hlt=>hgr.block k hlt (own k (by omega))))
   replace HS3:=Mk (Kd.S_step HS3.out (fun k hk hlt=>hgr.block k hlt (own k (by omega))))
   replace BK2:=Mk (blk_grown BK2.out hgr (own g2 (by omega)))
   replace BK3:=Mk (blk_grown BK3.out hgr (own g3 (by omega)))
   replace BK:=Mk (blk_grown BK.out hgr (fun he=>by have:=(HF.out.choose_spec.1 g he.symm).2;omega))
   replace HB:=Mk hb
   have L16:=Mk hgr.size
   replace HF:=Mk ho
   clear hn25 ho hb hgr hat own gb hHeld
   obtain ⟨hm0,hm1,hm2,hz0,hz1,hz2⟩:=U.d3 BK3
   refine hK.out _ _ (⟨hm1,U.c0 BK,U.c1 BK,U.c2 BK,U.c3 BK,U.c4 BK,U.c5 BK⟩) (fun hHeld=>?_)
   clear hK K
   refine U.nm 25 ?_
   refine U.pn 6 (some 26) ?_
   refine last_ (i:=7) (N:=none) #[true,true,true,true,true,true,true,true] rfl rfl (by kernel_rfl) (by decide) (fun K hK=>?_)
   refine skip_ (w1:=w16.setCell ⟨g3,1,none⟩ (.slice A25 n25 c25)) (by rfl) rfl ?_ ?_
   ·go_simp
   refine hK.out _ _ ?_
   refine done_ (by kernel_rfl) ?_
   clear hK K hHeld hm0 hm1 hm2 hz0 hz1 hz2
   have hfar : ∀ k,k ≠ g3 → (w16.setCell ⟨g3,1,none⟩ (.slice A25 n25 c25)).heap[k]? = w16.heap[k]?:=fun k h=>Below.heap_setCell _ _ _ k h
   have gb:=GB.out
   have ge:=GE.out
   have gt:=GT.out
   have l15:=L15.out
   have l16:=L16.out
   replace HS1:=Mk (Kd.S_step HS1.out (fun k hk _=>hfar k hk.2.2.2))
   replace HS3:=Mk (Kd.S_step HS3.out (fun k hk _=>hfar k hk.2.2.2))
   replace HF:=Mk (Kd.S_step HF.out (fun k hk _=>hfar k (by omega)))
   replace BK2:=Mk ((hfar g2 G3.out.2.2).trans BK2.out)
   replace BK3:=Mk (blk_put (cs:=#[.slice B1 M.r.length M.r.length,.slice AO (M.f.take i).length cO,.slice B3 M.n.length M.n.length]) BK3.out 1 (.slice A25 n25 c25) rfl)
   have HZ:=Mk (show b3 ≤ (w16.setCell ⟨g3,1,none⟩ (.slice A25 n25 c25)).heap.size from Nat.le_trans (by omega) ((Below.refl 0 w16).setCell (p:=⟨g3,1,none⟩) (Nat.zero_le _) (.slice A25 n25 c25)).size)
   replace HB:=Mk (HB.out.setCell (p:=⟨g3,1,none⟩) G3.out.1 (.slice A25 n25 c25))
   clear hfar gb ge gt l15 l16 BK
   (generalize w16.setCell ⟨g3,1,none⟩ (.slice A25 n25 c25) = w17 at HS1 HS3 HF BK2 BK3 HZ HB ⊢)
   go_wp2
   go_roundw
   case rel=>exact ⟨i + 1,.slice A25 n25 c25,by omega,by go_num,HS1,HS3,HF,BK2,BK3,HZ,HB⟩
   case measure=>simp [intOf];omega
  ·have hie : i = M.f.length:=by omega
   have hF:=HF.out
   rw [hie,List.take_length] at hF
   rw [hie,List.take_length] at BK3
   replace HF:=Mk hF
   clear hF hie
   obtain ⟨hm0,hm1,hm2,hz0,hz1,hz2⟩:=U.d3 BK3
   obtain ⟨h20,h21,h22,f20,f21,f22⟩:=U.d3 BK2
   have n32:=G3.out.2.2
   have n23:=G3.out.2.2.symm
   go_wp2_with (go_at_call 46;refine (clip_func AO M.f.length cO _ (Kd.S_reads' HF.out).2.1 (by omega)).mono ?_;rintro e w7 ⟨rfl,hb⟩;replace HF:=Mk (Kd.S_below HF.out hb);replace HS1:=Mk (Kd.S_below HS1.out hb);replace HS3:=Mk (Kd.S_below HS3.out hb);replace BK2:=Mk (blk_below BK2.out hb);replace BK3:=Mk (blk_below BK3.out hb);replace HB:=Mk (below_step HB.out hb);clear hb hm0 hm1 hm2 hz0 hz1 hz2 h20 h21 h22 f20 f21 f22;obtain ⟨hm0,hm1,hm2,hz0,hz1,hz2⟩:=U.d3 BK3;obtain ⟨h20,h21,h22,f20,f21,f22⟩:=U.d3 BK2)
   have hfar : ∀ k,k ≠ g2 → k ≠ g3 → ((((w7.setCell ⟨g3,1,none⟩ (.slice AO M.f.length M.f.length)).setCell ⟨g2,0,none⟩ (.slice B1 M.r.length M.r.length)).setCell ⟨g2,1,none⟩ (.slice AO M.f.length M.f.length)).setCell ⟨g2,2,none⟩ (.slice B3 M.n.length M.n.length)).heap[k]? = w7.heap[k]?:=fun k h h'=>by rw [Below.heap_setCell _ _ _ k h,Below.heap_setCell _ _ _ k h,Below.heap_setCell _ _ _ k h,Below.heap_setCell _ _ _ k h']
   have C3:=blk_put (cs:=#[.slice B1 M.r.length M.r.length,.slice AO M.f.length M.f.length,.slice none 0 0]) (blk_put (cs:=#[.slice B1 M.r.length M.r.length,.slice none 0 0,.slice none 0 0]) (blk_put (cs:=#[.slice none 0 0,.slice none 0 0,.slice none 0 0]) (blk_far (p:=⟨g3,1,none⟩) BK2.out G3.out.2.2 (.slice AO M.f.length M.f.length)) 0 (.slice B1 M.r.length M.r.length) rfl) 1 (.slice AO M.f.length M.f.length) rfl) 2 (.slice B3 M.n.length M.n.length) rfl
   have gb:=GB.out
   have gw:=Nat.le_of_lt (Nat.lt_of_le_of_lt G1.out G2.out)
   have HB4:=(((HB.out.setCell (p:=⟨g3,1,none⟩) G3.out.1 (.slice AO M.f.length M.f.length)).setCell (p:=⟨g2,0,none⟩) gw (.slice B1 M.r.length M.r.length)).setCell (p:=⟨g2,1,none⟩) gw (.slice AO M.f.length M.f.length)).setCell (p:=⟨g2,2,none⟩) gw (.slice B3 M.n.length M.n.length)
   refine bodyPost_ret (results_cell_row rfl _ _ g2 26 #[.slice B1 M.r.length M.r.length,.slice AO M.f.length M.f.length,.slice B3 M.n.length M.n.length] (0,0) _ rfl C3 Tryz.underlying26 rfl (by kernel_rfl)) rfl ?_
   refine ⟨B1,AO,B3,rfl,ModOwn.mk (b1:=w.heap.size) (b2:=b2) (b3:=b3) (c1:=d1) (c2:=cO) (c3:=d3) M (Nat.le_refl _) LB.out.2 gb.2.2.2.2 ?_ ?_ ?_,HB4⟩
   ·exact Kd.S_mono (Kd.S_step HS1.out (fun k hk _=>hfar k hk.2.2.1 hk.2.2.2)) (fun k hk=>⟨hk.1,hk.2.1⟩)
   ·exact Kd.S_mono (Kd.S_step HS3.out (fun k hk _=>hfar k hk.2.2.1 hk.2.2.2)) (fun k hk=>⟨hk.1,hk.2.1⟩)
   ·exact Kd.S_step HF.out (fun k hk _=>hfar k (by omega) (by omega))
theorem nd_append {s r : List Slot} {P : Nat → Prop} (h1 : ∀ q ∈ s,P q.1) (h2 : ∀ q ∈ r,¬ P q.1) (n1 : (s.map key).Nodup) (n2 : (r.map key).Nodup) : ((s ++ r).map key).Nodup:=by
 rw [List.map_append,List.nodup_append]
 refine ⟨n1,n2,fun a ha b hb he=>?_⟩
 obtain ⟨q,hq,rfl⟩:=List.mem_map.1 ha
 obtain ⟨q',hq',rfl⟩:=List.mem_map.1 hb
 exact h2 q' hq' ((Prod.mk.inj he).1 ▸ h1 q hq)
theorem rows_last {α : Type} {d : Kd α} {t : Ty} {cnt : α → Nat} (hF : Fits True d t cnt) {e base : Nat} {ok : Nat → Prop} {w : World} {xs : List α} {cs : List Value} (h : (sl e d).M w base ok xs cs) :
  ∃ v s,cs = [v] ∧ RowOf (Cel w t) t.sz v s ∧ (∀ q ∈ s,ok q.1 ∧ base ≤ q.1) ∧ (s.map key).Nodup ∧ s.length = (xs.map cnt).sum:=by
 obtain ⟨v,c,rfl,hl,hS⟩:=h
 obtain ⟨s,h1,h2,h3,h4⟩:=S_slots hF hS c hl
 exact ⟨_,s,rfl,h1,h2,h3,h4⟩
theorem rows_step {α β : Type} {d : Kd α} {b : Kd β} {t : Ty} {cnt : α → Nat} (hF : Fits True d t cnt) {e base : Nat} {ok : Nat → Prop} {w : World} {x : List α × β} {cs : List Value} (h : (pr (sl e d) b).M w base ok x cs) :
  ∃ (v : Value) (s : List Slot) (cs' : List Value) (p : Nat → Prop),cs = v :: cs' ∧ RowOf (Cel w t) t.sz v s ∧ (∀ q ∈ s,(ok q.1 ∧ p q.1) ∧ base ≤ q.1) ∧ (s.map key).Nodup ∧ s.length = (x.1.map cnt).sum ∧ b.M w base (fun k=>ok k ∧ ¬ p k) x.2 cs':=by
 obtain ⟨c0,c1,rfl,p,h0,h1⟩:=h
 obtain ⟨v,s,rfl,h2,h3,h4,h5⟩:=rows_last hF h0
 exact ⟨v,s,c1,p,rfl,h2,h3,h4,h5,h1⟩
def cntIns (x : OFnExactModuleRead.S59) : Nat:=1 + (1 + 1)
theorem fits_kIns (D : Prop) : Fits D k59 tyIns cntIns:=by
 have h : Fits D k59 tyIns cntIns:=⟨rfl,fun w base ok x cs g o hM hc=>by
  obtain rfl:=OFnExactModuleRead.k59_openM hM
  obtain ⟨a1,a2⟩:=hc 0 _ rfl
  obtain ⟨b1,b2⟩:=hc 1 _ rfl
  obtain ⟨d1,d2⟩:=hc 2 _ rfl
  refine ⟨[(g,o,true),(g,o + 1,false),(g,o + 1 + 1,false)],⟨⟨_,a1⟩,a2,_,rfl,⟨_,b1⟩,b2,_,rfl,⟨_,d1⟩,d2,_,rfl,rfl⟩,fun p hp=>.inl ?_,fun _ _=>?_,rfl⟩
  ·have hs : tyIns.sz = 3:=rfl
   rw [hs]
   simp only [List.mem_cons,List.not_mem_nil,or_false] at hp
   rcases hp with rfl | rfl | rfl<;>exact ⟨rfl,by dsimp only;omega,by dsimp only;omega⟩
  ·simp [key]<;>omega⟩
 exact h
def cntRec (x : S50) : Nat:=1 + (x.f1.map fun _=>1).sum
def cntFunc (x : S55) : Nat:=1 + ((x.f1.map fun _=>1).sum + ((x.f2.map fun _=>1).sum + ((x.f3.map fun _=>1).sum + ((x.f4.map fun _=>1).sum + (x.f5.map cntIns).sum))))
theorem fits_kRecD : Fits True kRecD tyRecord cntRec:=(fits_int_pr (fits_row fits_str)).iso _
theorem fits_kFuncD : Fits True kFuncD tyFunc cntFunc:=(fits_int_pr (fits_row_pr fits_str (fits_row_pr fits_str (fits_row_pr fits_str (fits_row_pr fits_int (fits_row (fits_kIns True))))))).iso _
theorem ModOwn.slots {w : World} {base : Nat} {M : MO} {v1 v2 v3 : Value} (h : ModOwn w base M [v1,v2,v3]) :
  ∃ s1 s2 s3,RowOf (Cel w tyRecord) 2 v1 s1 ∧ RowOf (Cel w tyFunc) 6 v2 s2 ∧ RowOf (Cel w tyInt) 1 v3 s3 ∧ (∀ q ∈ s1 ++ s2 ++ s3,base ≤ q.1) ∧ ((s1 ++ s2 ++ s3).map key).Nodup ∧ (s1 ++ s2 ++ s3).length = (M.r.map cntRec).sum + (M.f.map cntFunc).sum + (M.n.map fun _=>1).sum:=by
 obtain ⟨w1,s1,r1,p1,e1,a1,b1,n1,l1,h⟩:=rows_step fits_kRecD h
 obtain ⟨w2,s2,r2,p2,e2,a2,b2,n2,l2,h⟩:=rows_step fits_kFuncD h
 obtain ⟨w3,s3,e3,a3,b3,n3,l3⟩:=rows_last fits_int h
 subst e3
 subst e2
 injection e1 with q1 e1
 injection e1 with q2 e1
 injection e1 with q3 e1
 subst q1 q2 q3
 refine ⟨s1,s2,s3,a1,a2,a3,fun q hq=>?_,?_,by simp only [List.length_append,l1,l2,l3]⟩
 ·rcases List.mem_append.1 hq with hq | hq
  ·rcases List.mem_append.1 hq with hq | hq
   ·exact (b1 q hq).2
   ·exact (b2 q hq).2
  ·exact (b3 q hq).2
 ·rw [List.append_assoc]
  refine nd_append (P:=p1) (fun q hq=>(b1 q hq).1.2) (fun q hq=>?_) n1 (nd_append (P:=p2) (fun q hq=>(b2 q hq).1.2) (fun q hq=>(b3 q hq).1.2) n2 n3)
  rcases List.mem_append.1 hq with hq | hq
  ·exact (b2 q hq).1.1.2
  ·exact (b3 q hq).1.1.2
theorem sum_le {α : Type} {f : α → Nat} {c : Nat} : ∀ {l : List α},(∀ x ∈ l,f x ≤ c) → (l.map f).sum ≤ l.length * c
 | [],_=>by simp
 | x :: l,h=>by
  have h1:=h x List.mem_cons_self
  have h2:=sum_le (l:=l) (fun y hy=>h y (List.mem_cons_of_mem _ hy))
  simp only [List.map_cons,List.sum_cons,List.length_cons,Nat.succ_mul]
  omega
theorem sum_one {α : Type} (l : List α) : (l.map fun _=>1).sum = l.length:=by
 induction l with
 | nil=>rfl
 | cons x l ih=>simp only [List.map_cons,List.sum_cons,List.length_cons,ih];omega
theorem mod_count {M : MO} (h : lens9 M) : (M.r.map cntRec).sum + (M.f.map cntFunc).sum + (M.n.map fun _=>1).sum ≤ 8999999:=by
 obtain ⟨h1,h2,h3,h4,h5⟩:=h
 have e1 : (M.r.map cntRec).sum ≤ M.r.length * 1001:=sum_le (fun x hx=>by
  have:=h2 x hx
  unfold cntRec
  rw [sum_one]
  omega)
 have e2 : (M.f.map cntFunc).sum ≤ M.f.length * 7001:=sum_le (fun x hx=>by
  obtain ⟨a1,a2,a3,a4,a5⟩:=h4 x hx
  have e5 : (x.f5.map cntIns).sum ≤ x.f5.length * 3:=sum_le (fun _ _=>Nat.le_refl _)
  unfold cntFunc
  rw [sum_one,sum_one,sum_one,sum_one]
  omega)
 rw [sum_one]
 have g1:=Nat.mul_le_mul_right 1001 (Nat.le_of_lt h1)
 have g2:=Nat.mul_le_mul_right 7001 (Nat.le_of_lt h3)
 omega
end Go.Proofs.YtmclgkljmlpfbaaGreatDoor.Hand
