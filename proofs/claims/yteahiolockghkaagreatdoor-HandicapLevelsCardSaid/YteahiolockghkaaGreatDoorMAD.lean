/- Several texts in one: DenD, DenE, DenF, DenG, Tabs, MSortS, StrS, CoreS, SearchS. -/
import Derived.Test.YteahiolockghkaaGreatDoorDenC
import Derived.Test.YteahiolockghkaaGreatDoorMAA
import Derived.Lib.ItoaNum
import Derived.Lib.Join
import Derived.Lib.SlTrimSet
import Derived.Lib.IndexMore
import Derived.Lib.Repeat
import Derived.Lib.ParseIntBMem
import Derived.Lib.Bytealg
import Derived.Lib.SplitLaws
namespace Go.Den
open Go.Eng
set_option linter.unusedVariables false
set_option linter.unusedSectionVars false
set_option linter.unusedSimpArgs false
variable [CT : Ctx]

theorem listed_spec {o:Nat}:∀ {l:List (Nat×Option OTy)},listed o l=true↔o∈l.map Prod.fst
 | []=>by simp[listed]
 | (p,q)::r=>by
  simp only[listed,Bool.or_eq_true,List.map_cons,List.mem_cons,listed_spec (l:=r)];constructor
  ·rintro (h | h)
   ·exact .inl (Nat.eq_of_beq_eq_true h).symm
   ·exact .inr h
  ·rintro (rfl | h)
   ·exact .inl (by simp)
   ·exact .inr h
theorem qa2 {o:Nat}:∀ {l:List (Nat×Option OTy)},qaG o l=true→listed o l=true
 | (p,none)::r,h=>by
  simp only[qaG,Bool.or_eq_true] at h;simp only[listed,Bool.or_eq_true];exact h.imp id qa2
 | (p,some _)::r,h=>by
  simp only[qaG] at h;simp only[listed,Bool.or_eq_true];exact .inr (qa2 h)

section
variable {F : Fr} {n0 : Nat} {objs' : List OB} {γ' : Gh} {w' : World} {T : Sp}

theorem qaI:∀(l:List (Nat×Option OTy)) (y:DL (tysO l)) (base:List OB),base.length≤(concO l y base).length
 | [],_,base=>Nat.le_refl _
 | (o,none)::r,y,base=>by
  have:=qaI r y (base.set o .dead);simpa[concO] using this
 | (o,some (.box τ))::r,y,base=>by
  have:=qaI r y.2 (base.set o (.box (cc τ y.1 base.length).1)++(cc τ y.1 base.length).2);simp only[List.length_append,List.length_set] at this;simp only[concO];omega
 | (o,some (.arr i e))::r,y,base=>by
  have:=qaI r y.2 (base.set o (.arr i e y.1 false));simpa[concO] using this
 | (o,some (.mp k v))::r,y,base=>by
  have:=qaI r y.2 (base.set o (.mp k v y.1));simpa[concO] using this
 | (o,some (.bld t i))::r,y,base=>by
  have:=qaI r y.2 (base.set o (.bld t (.os base.length))++(cc (.osl i (.int .u8)) y.1 base.length).2);simp only[List.length_append,List.length_set] at this;simp only[concO];omega
 | (o,some (.ar t p ow))::r,y,base=>by
  have:=qaI r y.2 (base.set o .dead++[.ar t p ow y.1 none]);simp only[List.length_append,List.length_set] at this;simp only[concO];omega
theorem qB:∀(l:List (Nat×Option OTy)) (y:DL (tysO l)) (base:List OB) (o:Nat),o<base.length→listed o l=false→(concO l y base)[o]?=base[o]?
 | [],_,base,o,_,_=>rfl
 | (p,none)::r,y,base,o,ho,hl=>by
  simp only[listed,Bool.or_eq_false_iff] at hl
  have hne:p≠o:=fun e=>by subst e;simp at hl
  simp only[concO];rw[qB r y (base.set p .dead) o (by simpa using ho) hl.2,qs hne]
 | (p,some (.box τ))::r,y,base,o,ho,hl=>by
  simp only[listed,Bool.or_eq_false_iff] at hl
  have hne:p≠o:=fun e=>by subst e;simp at hl
  simp only[concO];rw[qB r y.2 _ o (by simp;omega) hl.2,List.getElem?_append_left (by simpa using ho),qs hne]
 | (p,some (.arr i e))::r,y,base,o,ho,hl=>by
  simp only[listed,Bool.or_eq_false_iff] at hl
  have hne:p≠o:=fun e=>by subst e;simp at hl
  simp only[concO];rw[qB r y.2 (base.set p (.arr i e y.1 false)) o (by simpa using ho) hl.2,qs hne]
 | (p,some (.mp k v))::r,y,base,o,ho,hl=>by
  simp only[listed,Bool.or_eq_false_iff] at hl
  have hne:p≠o:=fun e=>by subst e;simp at hl
  simp only[concO];rw[qB r y.2 (base.set p (.mp k v y.1)) o (by simpa using ho) hl.2,qs hne]
 | (p,some (.bld t i))::r,y,base,o,ho,hl=>by
  simp only[listed,Bool.or_eq_false_iff] at hl
  have hne:p≠o:=fun e=>by subst e;simp at hl
  simp only[concO];rw[qB r y.2 _ o (by simp;omega) hl.2,List.getElem?_append_left (by simpa using ho),qs hne]
 | (p,some (.ar t q ow))::r,y,base,o,ho,hl=>by
  simp only[listed,Bool.or_eq_false_iff] at hl
  have hne:p≠o:=fun e=>by subst e;simp at hl
  simp only[concO];rw[qB r y.2 _ o (by simp;omega) hl.2,List.getElem?_append_left (by simpa using ho),qs hne]
theorem qdE (r:ORel F objs' γ' w') (hT:Sp.le (Imm objs' γ' w') T):∀(l:List (Nat×Option OTy)) {y:DL (tysO l)} (base:List OB),absO objs' l=some y→(l.map Prod.fst).Nodup→(∀q∈l,q.1<n0)→n0≤base.length →
  (∀o∈qR (idsD objs') objs' l,∀b,(γ' o).2=some b→T b) →
  ∃gs:List (Value×Option Nat),(concO l y base).length=base.length+gs.length∧gs.flatMap (fun g=>g.2.toList)=blocks γ' (qR (idsO objs') objs' l)∧(∀o∈qR (idsO objs') objs' l,Mut objs' o) ∧
   (∀q∈l,Mut (concO l y base) q.1→Mut objs' q.1∧qaG q.1 l=false)∧(∀q∈l,(∀i (e:Ty) (xs:List (D e)),(concO l y base)[q.1]?≠some (.arr i e xs true))∧∀ob,(concO l y base)[q.1]?=some ob→isAr ob=false) ∧
   ∀(OF:List OB) (γF:Gh),(∀o,o<(concO l y base).length→OF[o]?=(concO l y base)[o]?)→Sp.le T (Imm OF γF w')→(γF.m=γ'.m∧γF.B=γ'.B∧∀o x,n0≤o→γF.kc o x=γ'.kc ((arOf objs').getD 0) x)→(∀o,o<n0→γF o=γ' o)→(∀j g,gs[j]?=some g→γF (base.length+j)=g)→(concO l y base).length≤OF.length →
    (∀q∈l,∀ob,OF[q.1]?=some ob→ObR OF γF w' ob (γF q.1))∧(∀o ob,base.length≤o→o<(concO l y base).length→OF[o]?=some ob→ObR OF γF w' ob (γF o)∧(mutOb ob=true∨isAr ob=true)∧(∀t p ow xs lent,ob = .ar t p ow xs lent→ArO OF γF w' o t p ow xs lent))
 | [],y,base,_,_,_,_,_=>⟨[],by simp[concO],by simp[qR,blocks],fun o ho=>(by simp[qR] at ho),fun q hq=>(by cases hq),fun q hq=>(by cases hq),fun OF γF _ _ _ _ _ _=>⟨fun q hq=>(by cases hq),fun o ob h1 h2=>(by simp[concO] at h2;omega)⟩⟩
 | (p,none)::l,y,base,h,hnd,hlt,hb,hids=>by
  simp only[absO] at h;simp only[List.map_cons,List.nodup_cons] at hnd;have hpl:listed p l=false:=Bool.eq_false_iff.2 fun hh=>hnd.1 (listed_spec.1 hh);have hp:=hlt (p,none) List.mem_cons_self;obtain⟨gs,g1,g2,g3,g4,g4b,g5⟩:=qdE r hT l (base.set p .dead) h hnd.2 (fun q hq=>hlt q (List.mem_cons_of_mem _ hq)) (by simpa using hb) (fun o ho=>hids o (by simpa[qR] using ho));have hpe:(concO l y (base.set p .dead))[p]?=some .dead:=by
   rw[qB l y _ p (by simp;simp at hp;omega) hpl,List.getElem?_set_self (by simp at hp;omega)]
  refine⟨gs,by simpa[concO] using g1,by simpa[qR] using g2,fun o ho=>g3 o (by simpa[qR] using ho),fun q hq hm=>?_,fun q hq=>?_,fun OF γF e1 e2 eg e3 e4 e5=>?_⟩
  ·rcases List.mem_cons.1 hq with rfl | hq
   ·obtain⟨ob,h1,h2⟩:=hm;simp only[concO] at h1;rw[hpe] at h1;cases h1;cases h2
   ·obtain⟨h1,h2⟩:=g4 q hq hm;refine⟨h1,?_⟩;simp only[qaG,Bool.or_eq_false_iff];refine⟨Bool.eq_false_iff.2 fun hh=>?_,h2⟩;have:=Nat.eq_of_beq_eq_true hh;exact hnd.1 (this▸List.mem_map_of_mem hq)
  ·rcases List.mem_cons.1 hq with rfl | hq
   ·simp only[concO];rw[hpe];exact⟨by simp,fun ob h=>by cases h;rfl⟩
   ·exact g4b q hq
  ·obtain⟨f1,f2⟩:=g5 OF γF e1 e2 eg e3 (by simpa using e4) e5;refine⟨fun q hq ob hob=>?_,fun o ob h1 h2=>f2 o ob (by simpa using h1) h2⟩;rcases List.mem_cons.1 hq with rfl | hq
   ·have hlen:=qaI l y (base.set p .dead);rw[e1 p (by simp only[concO];simp at hlen hp;omega)] at hob;simp only[concO] at hob;rw[hpe] at hob;cases hob;trivial
   ·exact f1 q hq ob hob
 | (p,some (.mp kt vt))::l,y,base,h,hnd,hlt,hb,hids=>by
  simp only[absO] at h;cases h
 | (p,some (.arr i e))::l,y,base,h,hnd,hlt,hb,hids=>by
  simp only[absO,Option.bind_eq_some_iff] at h;obtain⟨ob,hob,h⟩:=h
  cases ob with
  | arr i' e' xs fz =>
   cases fz with
   | true=>simp at h
   | false =>
    simp only[chk_some,Option.bind_eq_some_iff] at h;obtain⟨hi,x,hx,y2,hy,hyy⟩:=h;have hyy:(x,y2)=y:=Option.some.inj hyy;subst hyy;have hi:=Nat.eq_of_beq_eq_true hi;subst hi;obtain⟨rfl,hx⟩:=qak hx;subst hx;simp only[List.map_cons,List.nodup_cons] at hnd;have hpl:listed p l=false:=Bool.eq_false_iff.2 fun hh=>hnd.1 (listed_spec.1 hh);have hp:=hlt (p,some (.arr i e')) List.mem_cons_self;obtain⟨gs,g1,g2,g3,g4,g4b,g5⟩:=qdE r hT l (base.set p (.arr i e' xs false)) hy hnd.2 (fun q hq=>hlt q (List.mem_cons_of_mem _ hq)) (by simpa using hb) (fun o ho=>hids o (by simpa[qR] using ho));have hpe:(concO l y2 (base.set p (.arr i e' xs false)))[p]?=some (.arr i e' xs false):=by
     rw[qB l y2 _ p (by simp;simp at hp;omega) hpl,List.getElem?_set_self (by simp at hp;omega)]
    refine⟨gs,by simpa[concO] using g1,by simpa[qR] using g2,fun o ho=>g3 o (by simpa[qR] using ho),fun q hq hm=>?_,fun q hq=>?_,fun OF γF e1 e2 eg e3 e4 e5=>?_⟩
    ·rcases List.mem_cons.1 hq with rfl | hq
     ·refine⟨⟨_,hob,rfl⟩,?_⟩;simp only[qaG]
      exact Bool.eq_false_iff.2 fun hh=>by rw[qa2 hh] at hpl;cases hpl
     ·obtain⟨h1,h2⟩:=g4 q hq hm;exact⟨h1,by simpa[qaG] using h2⟩
    ·rcases List.mem_cons.1 hq with rfl | hq
     ·simp only[concO];rw[hpe];exact⟨by simp,fun ob h=>by cases h;rfl⟩
     ·exact g4b q hq
    ·obtain⟨f1,f2⟩:=g5 OF γF e1 e2 eg e3 (by simpa using e4) e5;refine⟨fun q hq ob' hob'=>?_,fun o ob h1 h2=>f2 o ob (by simpa using h1) h2⟩;rcases List.mem_cons.1 hq with rfl | hq
     ·have hlen:=qaI l y2 (base.set p (.arr i e' xs false));rw[e1 p (by simp only[concO];simp at hlen hp;omega)] at hob';simp only[concO] at hob';rw[hpe] at hob';cases hob';obtain⟨us,h6,h7⟩:=r.rep p _ hob;rw[e3 p hp];exact⟨us,h6,h7.mono fun x c hx=>Rep.mono (hT.trans e2) (fun _ _=>rfl) _ hx (by simp)⟩
     ·exact f1 q hq ob' hob'
  | _=>simp at h
 | (p,some (.box τ))::l,y,base,h,hnd,hlt,hb,hids=>by
  simp only[absO,Option.bind_eq_some_iff] at h;obtain⟨ob,hob,h⟩:=h
  cases ob with
  | box cs =>
   simp only[Option.bind_eq_some_iff] at h;obtain⟨x,hx,y2,hy,hyy⟩:=h;have hyy:(x,y2)=y:=Option.some.inj hyy;subst hyy;simp only[List.map_cons,List.nodup_cons] at hnd;have hpl:listed p l=false:=Bool.eq_false_iff.2 fun hh=>hnd.1 (listed_spec.1 hh);have hp:p<n0:=hlt (p,some (.box τ)) List.mem_cons_self;obtain⟨b,Tt,cells,hg,hheap,hvl⟩:=r.rep p _ hob;have hids1:∀o∈idsD objs' τ cs,∀b,(γ' o).2=some b→T b:=fun o ho=>hids o (by simp only[qR,hob,List.mem_append];exact .inl ho);obtain⟨hrep,hmo⟩:=qaS (S:=T) r hT τ hx hvl hids1;obtain⟨gs0,c1,c2,c3⟩:=qfq τ hrep base.length
   obtain⟨gs,g1,g2,g3,g4,g4b,g5⟩:=qdE r hT l (base.set p (.box (cc τ x base.length).1)++(cc τ x base.length).2) hy hnd.2 (fun q hq=>hlt q (List.mem_cons_of_mem _ hq)) (by simp;omega) (fun o ho=>hids o (by simp only[qR,hob,List.mem_append];exact .inr ho));have hpe:(concO l y2 (base.set p (.box (cc τ x base.length).1)++(cc τ x base.length).2))[p]?=some (.box (cc τ x base.length).1):=by
    rw[qB l y2 _ p (by simp;omega) hpl,List.getElem?_append_left (by simp;omega),List.getElem?_set_self (by omega)]
   have hlen0:(base.set p (.box (cc τ x base.length).1)++(cc τ x base.length).2).length=base.length+gs0.length:=by simp[c1]
   refine⟨gs0++gs,?_,?_,fun o ho=>?_,fun q hq hm=>?_,fun q hq=>?_,fun OF γF e1 e2 eg e3 e4 e5=>?_⟩
   ·simp only[concO];rw[g1,hlen0,List.length_append,Nat.add_assoc]
   ·rw[List.flatMap_append,←c2,g2];simp only[qR,hob,blocks,List.flatMap_append]
   ·simp only[qR,hob,List.mem_append] at ho;exact ho.elim (hmo o) (g3 o)
   ·rcases List.mem_cons.1 hq with rfl | hq
    ·refine⟨⟨_,hob,rfl⟩,?_⟩;simp only[qaG]
     exact Bool.eq_false_iff.2 fun hh=>by rw[qa2 hh] at hpl;cases hpl
    ·obtain⟨h1,h2⟩:=g4 q hq hm;exact⟨h1,by simpa[qaG] using h2⟩
   ·rcases List.mem_cons.1 hq with rfl | hq
    ·simp only[concO];rw[hpe];exact⟨by simp,fun ob h=>by cases h;rfl⟩
    ·exact g4b q hq
   ·have hle:=qaI l y2 (base.set p (.box (cc τ x base.length).1)++(cc τ x base.length).2);rw[hlen0] at hle;simp only[concO] at e1 e5;have c3':=c3 OF γF e2 (fun j g hj=>e4 j g (by rw[List.getElem?_append_left (qw hj)];exact hj)) (by omega)
    obtain⟨f1,f2⟩:=g5 OF γF e1 e2 eg e3 (fun j g hj=>by
     rw[hlen0,Nat.add_assoc]
     exact e4 (gs0.length+j) g (by rw[List.getElem?_append_right (by omega)];simpa using hj)) e5
    refine⟨fun q hq ob' hob'=>?_,fun o ob' h1 h2 h3=>?_⟩
    ·rcases List.mem_cons.1 hq with rfl | hq
     ·rw[e1 p (by omega),hpe] at hob';cases hob';rw[e3 p hp];exact⟨b,Tt,cells,hg,hheap,c3'.1⟩
     ·exact f1 q hq ob' hob'
    ·simp only[concO] at h2;by_cases ho:o<base.length+gs0.length
     ·rw[e1 o h2,qB l y2 _ o (by rw[hlen0];exact ho) (Bool.eq_false_iff.2 fun hh=>by
       obtain⟨q,hq,rfl⟩:=List.mem_map.1 (listed_spec.1 hh);have:=hlt q (List.mem_cons_of_mem _ hq)
       omega),List.getElem?_append_right (by simpa using h1)] at h3
      simp only[List.length_set] at h3
      have hj:o-base.length<gs0.length:=by omega
      have e6:=e4 (o-base.length) gs0[o-base.length] (by rw[List.getElem?_append_left hj];exact List.getElem?_eq_getElem hj);rw[show base.length+(o-base.length)=o by omega] at e6;rw[e6];have h4:=c3'.2 (o-base.length) ob' _ h3 (List.getElem?_eq_getElem hj);exact⟨h4.1,.inl h4.2,fun t p ow xs lent e=>by rw[e] at h4;cases h4.2⟩
     ·exact f2 o ob' (by rw[hlen0];omega) h2 h3
  | _=>simp at h
 | (p,some (.bld tb i))::l,y,base,h,hnd,hlt,hb,hids=>by
  simp only[absO,Option.bind_eq_some_iff] at h;obtain⟨ob,hob,h⟩:=h
  cases ob with
  | bld tb' c =>
   simp only[chk_some,Option.bind_eq_some_iff] at h;obtain⟨htt,x,hx,y2,hy,hyy⟩:=h;obtain rfl:=Nat.eq_of_beq_eq_true htt;have hyy:(x,y2)=y:=Option.some.inj hyy;subst hyy;simp only[List.map_cons,List.nodup_cons] at hnd;have hpl:listed p l=false:=Bool.eq_false_iff.2 fun hh=>hnd.1 (listed_spec.1 hh);have hp:p<n0:=hlt (p,some (.bld tb' i)) List.mem_cons_self;obtain⟨b,pp,vv,hg,hheap,hpp,hvc⟩:=r.rep p _ hob;have hvl:VRL objs' γ' w' [c] [vv]:=⟨vv,[],rfl,hvc,rfl⟩;have hids1:∀o∈idsD objs' (.osl i (.int .u8)) [c],∀b,(γ' o).2=some b→T b:=fun o ho=>hids o (by simp only[qR,hob,List.mem_append];exact .inl ho);obtain⟨hrep,hmo⟩:=qaS (S:=T) r hT (.osl i (.int .u8)) hx hvl hids1;obtain⟨gs0,c1,c2,c3⟩:=qfq (.osl i (.int .u8)) hrep base.length
   obtain⟨gs,g1,g2,g3,g4,g4b,g5⟩:=qdE r hT l (base.set p (.bld tb' (.os base.length))++(cc (.osl i (.int .u8)) x base.length).2) hy hnd.2 (fun q hq=>hlt q (List.mem_cons_of_mem _ hq)) (by simp;omega) (fun o ho=>hids o (by simp only[qR,hob,List.mem_append];exact .inr ho));have hpe:(concO l y2 (base.set p (.bld tb' (.os base.length))++(cc (.osl i (.int .u8)) x base.length).2))[p]?=some (.bld tb' (.os base.length)):=by
    rw[qB l y2 _ p (by simp;omega) hpl,List.getElem?_append_left (by simp;omega),List.getElem?_set_self (by omega)]
   have hlen0:(base.set p (.bld tb' (.os base.length))++(cc (.osl i (.int .u8)) x base.length).2).length=base.length+gs0.length:=by simp[c1]
   refine⟨gs0++gs,?_,?_,fun o ho=>?_,fun q hq hm=>?_,fun q hq=>?_,fun OF γF e1 e2 eg e3 e4 e5=>?_⟩
   ·simp only[concO];rw[g1,hlen0,List.length_append,Nat.add_assoc]
   ·rw[List.flatMap_append,←c2,g2];simp only[qR,hob,blocks,List.flatMap_append]
   ·simp only[qR,hob,List.mem_append] at ho;exact ho.elim (hmo o) (g3 o)
   ·rcases List.mem_cons.1 hq with rfl | hq
    ·refine⟨⟨_,hob,rfl⟩,?_⟩;simp only[qaG]
     exact Bool.eq_false_iff.2 fun hh=>by rw[qa2 hh] at hpl;cases hpl
    ·obtain⟨h1,h2⟩:=g4 q hq hm;exact⟨h1,by simpa[qaG] using h2⟩
   ·rcases List.mem_cons.1 hq with rfl | hq
    ·simp only[concO];rw[hpe];exact⟨by simp,fun ob h=>by cases h;rfl⟩
    ·exact g4b q hq
   ·have hle:=qaI l y2 (base.set p (.bld tb' (.os base.length))++(cc (.osl i (.int .u8)) x base.length).2);rw[hlen0] at hle;simp only[concO] at e1 e5;have c3':=c3 OF γF e2 (fun j g hj=>e4 j g (by rw[List.getElem?_append_left (qw hj)];exact hj)) (by omega)
    obtain⟨f1,f2⟩:=g5 OF γF e1 e2 eg e3 (fun j g hj=>by
     rw[hlen0,Nat.add_assoc]
     exact e4 (gs0.length+j) g (by rw[List.getElem?_append_right (by omega)];simpa using hj)) e5
    refine⟨fun q hq ob' hob'=>?_,fun o ob' h1 h2 h3=>?_⟩
    ·rcases List.mem_cons.1 hq with rfl | hq
     ·rw[e1 p (by omega),hpe] at hob';cases hob';rw[e3 p hp];obtain⟨v1,q1,e7,e8,_⟩:=c3'.1;cases e7;exact⟨b,pp,_,hg,hheap,hpp,e8⟩
     ·exact f1 q hq ob' hob'
    ·simp only[concO] at h2;by_cases ho:o<base.length+gs0.length
     ·rw[e1 o h2,qB l y2 _ o (by rw[hlen0];exact ho) (Bool.eq_false_iff.2 fun hh=>by
       obtain⟨q,hq,rfl⟩:=List.mem_map.1 (listed_spec.1 hh);have:=hlt q (List.mem_cons_of_mem _ hq)
       omega),List.getElem?_append_right (by simpa using h1)] at h3
      simp only[List.length_set] at h3
      have hj:o-base.length<gs0.length:=by omega
      have e6:=e4 (o-base.length) gs0[o-base.length] (by rw[List.getElem?_append_left hj];exact List.getElem?_eq_getElem hj);rw[show base.length+(o-base.length)=o by omega] at e6;rw[e6];have h4:=c3'.2 (o-base.length) ob' _ h3 (List.getElem?_eq_getElem hj);exact⟨h4.1,.inl h4.2,fun t p ow xs lent e=>by rw[e] at h4;cases h4.2⟩
     ·exact f2 o ob' (by rw[hlen0];omega) h2 h3
  | _=>simp at h
 | (p,some (.ar tn q ow))::l,y,base,h,hnd,hlt,hb,hids=>by
  simp only[absO,Option.bind_eq_some_iff] at h;obtain⟨n,hn,ob,hob,h⟩:=h
  cases ob with
  | ar t' p' ow' xs lent =>
   simp only[chk_some,Option.bind_eq_some_iff,Bool.and_eq_true] at h;obtain⟨⟨h1,h2,h3⟩,x,hx,y2,hy,hyy⟩:=h;have hyy:(x,y2)=y:=Option.some.inj hyy;subst hyy;obtain rfl:=Nat.eq_of_beq_eq_true h1;obtain rfl:ow'=ow:=by
    cases ow<;>cases ow'<;>first | rfl | cases h2 | skip
    rw[Nat.eq_of_beq_eq_true h2]
   cases lent with
   | some _=>cases h3
   | none =>
   unfold castE at hx;split at hx
   rotate_left
   ·cases hx
   rename_i e;subst e;cases hx;simp only[List.map_cons,List.nodup_cons] at hnd;have hpl:listed p l=false:=Bool.eq_false_iff.2 fun hh=>hnd.1 (listed_spec.1 hh);have hp:p<n0:=hlt (p,some (.ar t' p' ow')) List.mem_cons_self;obtain⟨gs,g1,g2,g3,g4,g4b,g5⟩:=qdE r hT l (base.set p .dead++[.ar t' p' ow' xs none]) hy hnd.2 (fun q hq=>hlt q (List.mem_cons_of_mem _ hq)) (by simp;omega) (fun o ho=>hids o (by simpa[qR] using ho));have hpe:(concO l y2 (base.set p .dead++[.ar t' p' ow' xs none]))[p]?=some .dead:=by
    rw[qB l y2 _ p (by simp;omega) hpl,List.getElem?_append_left (by simp;omega),List.getElem?_set_self (by omega)]
   have hlen0:(base.set p .dead++[OB.ar t' p' ow' xs none]).length=base.length+1:=by simp
   refine⟨(undef,none)::gs,?_,?_,fun o ho=>?_,fun q hq hm=>?_,fun q hq=>?_,fun OF γF e1 e2 eg e3 e4 e5=>?_⟩
   ·simp only[concO];rw[g1,hlen0,List.length_cons];omega
   ·rw[List.flatMap_cons,g2];simp only[qR,Option.toList,List.nil_append]
   ·exact g3 o (by simpa[qR] using ho)
   ·rcases List.mem_cons.1 hq with rfl | hq
    ·obtain⟨ob,h1,h2⟩:=hm;simp only[concO] at h1;rw[hpe] at h1;cases h1;cases h2
    ·obtain⟨h1,h2⟩:=g4 q hq hm;exact⟨h1,by simpa[qaG] using h2⟩
   ·rcases List.mem_cons.1 hq with rfl | hq
    ·simp only[concO];rw[hpe];exact⟨by simp,fun ob h=>by cases h;rfl⟩
    ·exact g4b q hq
   ·have hle:=qaI l y2 (base.set p .dead++[.ar t' p' ow' xs none]);rw[hlen0] at hle;simp only[concO] at e1 e5
    obtain⟨f1,f2⟩:=g5 OF γF e1 e2 eg e3 (fun j g hj=>by
     rw[hlen0,Nat.add_assoc]
     exact e4 (1+j) g (by rw[Nat.add_comm 1 j];simpa using hj)) e5
    refine⟨fun q hq ob' hob'=>?_,fun o ob' h1 h2 h3=>?_⟩
    ·rcases List.mem_cons.1 hq with rfl | hq
     ·rw[e1 p (by omega),hpe] at hob';cases hob';trivial
     ·exact f1 q hq ob' hob'
    ·simp only[concO] at h2;by_cases ho:o<base.length+1
     ·have ho:o=base.length:=by omega
      subst ho
      rw[e1 _ h2,qB l y2 _ _ (by rw[hlen0];exact Nat.lt_succ_self _) (Bool.eq_false_iff.2 fun hh=>by
       obtain⟨q,hq,hqe⟩:=List.mem_map.1 (listed_spec.1 hh);have:=hlt q (List.mem_cons_of_mem _ hq)
       omega),List.getElem?_append_right (by simp)] at h3
      simp only[List.length_set,Nat.sub_self,List.getElem?_cons_zero,Option.some.injEq] at h3;subst h3;have e6:=e4 0 _ rfl;rw[Nat.add_zero] at e6;rw[e6];refine⟨rfl,.inr rfl,fun t2 p2 w2 x2 l2 e=>?_⟩;cases e;obtain⟨ls,hs,k1,k2,k3,k4⟩:=r.ar n _ _ _ _ _ hob;obtain⟨m1,m2,m3⟩:=eg
      have m4:∀x,γF.kc base.length x=γ'.kc n x:=fun x=>by rw[m3 _ _ hb,hn];rfl
      exact⟨ls,hs,k1.mono (hT.trans e2) m1 (fun _ _=>rfl) (fun _ _=>rfl),fun k hk=>by rw[m2];exact k2 k hk,fun i v hv=>by rw[m4];exact k3 i v hv,fun x hx=>by rw[m4];exact k4 x hx⟩
     ·exact f2 o ob' (by rw[hlen0];omega) h2 h3
  | _=>simp at h

theorem qgA:∀(l:List (Nat×Ty)) (x:DL (tysS l)) (σ:AState),σ.objs.length≤(concS l x σ).objs.length∧(∀o,o<σ.objs.length→(concS l x σ).objs[o]?=σ.objs[o]?)∧(concS l x σ).n=σ.n∧(concS l x σ).prS=σ.prS∧(concS l x σ).prO=σ.prO∧(concS l x σ).gs=σ.gs∧(concS l x σ).known=σ.known∧∀t,(∀q∈l,q.1≠t)→get (concS l x σ).slots t=get σ.slots t
 | [],_,σ=>⟨Nat.le_refl _,fun _ _=>rfl,rfl,rfl,rfl,rfl,rfl,fun _ _=>rfl⟩
 | (t,τ)::r,x,σ=>by
  simp only[concS];obtain⟨h1,h2,h3,h4,h5,h6,h7,h8⟩:=qgA r x.2 { σ with slots:=(t,some ([],qgP τ.isAgg (cc τ x.1 σ.objs.length).1))::σ.slots,objs:=σ.objs++(cc τ x.1 σ.objs.length).2 };simp only[List.length_append] at h1;refine⟨by omega,fun o ho=>?_,h3,h4,h5,h6,h7,fun t' ht'=>?_⟩
  ·rw[h2 o (by simp;omega)];simp only;rw[List.getElem?_append_left ho]
  ·rw[h8 t' fun q hq=>ht' q (List.mem_cons_of_mem _ hq)];simp only;rw[qU,if_neg (ht' (t,τ) List.mem_cons_self)]
theorem qo0 {σ':AState} {a':Act} (r':Rel F σ' γ' a' w') (hT:Sp.le (Imm σ'.objs γ' w') T):∀(l:List (Nat×Ty)) {x:DL (tysS l)} (σ1:AState),absS σ'.objs σ'.slots l=some x →
  (∀o∈qaJ (idsD σ'.objs) σ'.slots l,∀b,(γ' o).2=some b→T b) →
  ∃gs:List (Value×Option Nat),(concS l x σ1).objs.length=σ1.objs.length+gs.length∧gs.flatMap (fun g=>g.2.toList)=blocks γ' (qaJ (idsO σ'.objs) σ'.slots l)∧(∀o∈qaJ (idsO σ'.objs) σ'.slots l,Mut σ'.objs o) ∧
   ∀(γF:Gh),Sp.le T (Imm (concS l x σ1).objs γF w')→(∀j g,gs[j]?=some g→γF (σ1.objs.length+j)=g) →
    ∀(OF:List OB),OF=(concS l x σ1).objs →
    (∀t tg pv,get (concS l x σ1).slots t=some (tg,pv)→get σ1.slots t=some (tg,pv)∨(tg=[]∧∃v,a'.tmps[t]?=some v∧PR OF γF w' pv v)) ∧
    (∀o ob,σ1.objs.length≤o→OF[o]?=some ob→ObR OF γF w' ob (γF o)∧mutOb ob=true)
 | [],x,σ1,h,_=>⟨[],by simp[concS],by simp[qaJ,blocks],fun o ho=>by simp[qaJ] at ho,fun γF _ _ OF hOF=>⟨fun t tg pv hg => .inl hg,fun o ob h1 h2=>by subst hOF;have:=qw h2;simp only[concS] at this;omega⟩⟩
 | (t,τ)::l,x,σ1,h,hids=>by
  simp only[absS,Option.bind_eq_some_iff,chk_some] at h;obtain⟨⟨tg,pv⟩,h1,h2,cs,h3,h4,x1,h5,x2,h6,hx⟩:=h;have hx:(x1,x2)=x:=Option.some.inj hx;subst hx
  have htg:tg=[]:=by simpa using h2
  subst htg;obtain⟨v,hv,hp⟩:=r'.slots t [] pv h1 (qj _);have hvl:=qcc h3 hp
  have hidd:(((get σ'.slots t).bind fun e=>qbb e.2).elim [] (idsD σ'.objs τ))=idsD σ'.objs τ cs:=by simp only[h1,Option.bind_some,h3,Option.elim_some]
  have hido:(((get σ'.slots t).bind fun e=>qbb e.2).elim [] (idsO σ'.objs τ))=idsO σ'.objs τ cs:=by simp only[h1,Option.bind_some,h3,Option.elim_some]
  obtain⟨hrep,hmo⟩:=qaS (S:=T) r'.o hT τ h5 hvl (fun o ho=>hids o (by simp only[qaJ,hidd,List.mem_append];exact .inl ho));obtain⟨gs0,c1,c2,c3⟩:=qfq τ hrep σ1.objs.length;obtain⟨gs,g1,g2,g3,g5⟩:=qo0 r' hT l { σ1 with slots:=(t,some ([],qgP τ.isAgg (cc τ x1 σ1.objs.length).1))::σ1.slots,objs:=σ1.objs++(cc τ x1 σ1.objs.length).2 } h6 (fun o ho=>hids o (by simp only[qaJ,hidd,List.mem_append];exact .inr ho));have hcl:=qgA l x2 { σ1 with slots:=(t,some ([],qgP τ.isAgg (cc τ x1 σ1.objs.length).1))::σ1.slots,objs:=σ1.objs++(cc τ x1 σ1.objs.length).2 };simp only[List.length_append,←c1] at g1 g5 hcl;refine⟨gs0++gs,?_,?_,fun o ho=>?_,fun γF e2 e4 OF hOF=>?_⟩
  ·simp only[concS];rw[g1,List.length_append,Nat.add_assoc]
  ·rw[List.flatMap_append,←c2,g2];simp only[qaJ,hido,blocks,List.flatMap_append]
  ·simp only[qaJ,hido,List.mem_append] at ho;exact ho.elim (hmo o) (g3 o)
  ·simp only[concS] at e2 hOF ⊢;subst hOF;have c3':=c3 _ γF e2 (fun j g hj=>e4 j g (by rw[List.getElem?_append_left (qw hj)];exact hj)) (by omega)
   obtain⟨f1,f2⟩:=g5 γF e2 (fun j g hj=>by
    rw[Nat.add_assoc]
    exact e4 (gs0.length+j) g (by rw[List.getElem?_append_right (by omega)];simpa using hj)) _ rfl
   refine⟨fun t' tg' pv' hg=>?_,fun o ob h1' h2'=>?_⟩
   ·rcases f1 t' tg' pv' hg with hg' | hg'
    ·rw[qU] at hg';split at hg'
     ·rename_i e;subst e;cases hg';refine .inr ⟨rfl,v,hv,?_⟩;have:=qdh (τ:=τ) (qgm τ x1 σ1.objs.length) c3'.1;rw[←qnT h3 h4 hp] at this;exact this
     ·exact .inl hg'
    ·exact .inr hg'
   ·by_cases ho:o<σ1.objs.length+gs0.length
    ·rw[hcl.2.1 o ho] at h2';rw[List.getElem?_append_right h1'] at h2'
     have hj:o-σ1.objs.length<gs0.length:=by omega
     have e6:=e4 (o-σ1.objs.length) gs0[o-σ1.objs.length] (by rw[List.getElem?_append_left hj];exact List.getElem?_eq_getElem hj);rw[show σ1.objs.length+(o-σ1.objs.length)=o by omega] at e6;rw[e6];exact c3'.2 _ ob _ h2' (List.getElem?_eq_getElem hj)
    ·exact f2 o ob (by omega) h2'
end

theorem qqA {slots:Slots} {t:Nat} {e:Tag×PV}:∀ {l:List Nat},get (keepF slots l) t=some e→t∈l∧kf slots t=some e
 | [],h=>by simp[keepF,get] at h
 | u::l,h=>by
  simp only[keepF] at h;rw[qU] at h;split at h
  ·rename_i e1;subst e1;exact⟨List.mem_cons_self,h⟩
  ·obtain⟨h1,h2⟩:=qqA h;exact⟨List.mem_cons_of_mem _ h1,h2⟩
theorem qnz {slots:Slots} {t:Nat}:∀ {l:List Nat},t∈l→get (keepF slots l) t=kf slots t
 | u::l,h=>by
  simp only[keepF];rw[qU];split
  ·rename_i e1;subst e1;rfl
  ·rename_i e1;rcases List.mem_cons.1 h with rfl | h
   ·exact absurd rfl e1
   ·exact qnz h
theorem qh2 {slots:Slots} {t:Nat} {e:Tag×PV} (h:kf slots t=some e):get slots t=some e∧e.1=[]∧stable e.2=true:=by
 simp only[kf,Option.bind_eq_some_iff,chk_some,Bool.and_eq_true,Option.some.injEq] at h;obtain⟨e',h1,⟨h2,h3⟩,rfl⟩:=h;exact⟨h1,by simpa using h2,h3⟩
theorem kf_of {slots:Slots} {t:Nat} {e:Tag×PV} (h1:get slots t=some e) (h2:e.1=[]) (h3:stable e.2=true):kf slots t=some e:=by
 simp[kf,h1,h2,h3,chk]
theorem mask_bit {t:Nat}:∀ {l:List Nat},bitB (maskN l) t=true↔t∈l
 | []=>by
  rw[qgU];simp[maskN]
 | u::l=>by
  simp only[maskN];rw[qdd,qoC,Bool.or_eq_true,mask_bit (l:=l),List.mem_cons];simp only[decide_eq_true_eq];exact⟨fun h=>h.imp Eq.symm id,fun h=>h.imp Eq.symm id⟩
theorem qlM {l:List (Nat×Option OTy)} {o:Nat}:∀ {n:Nat},o<n→listed o l=false→bitB (protO l n) o=true
 | n+1,h,hl=>by
  simp only[protO];by_cases e:o=n
  ·subst e;rw[hl];exact qnl _ _
  ·have:=qlM (n:=n) (by omega) hl;by_cases hn:listed n l=true
   ·simp only[hn,cond_true];exact this
   ·simp only[Bool.eq_false_iff.2 hn,cond_false];exact qef this
def isDat:OB→Bool
 | .arr _ _ _ false=>true
 | .hr _ _ _ _ _ none=>true
 | _=>false
theorem qjG:∀ {ob:OB},isDat ob=true→mutOb ob=true
 | .arr _ _ _ false,_=>rfl
 | .hr _ _ _ _ _ none,_=>rfl
def DatO (objs:List OB) (o:Nat):Prop:=(∃i,∃e:Ty,∃xs:List (D e),objs[o]?=some (.arr i e xs true))∨∃ob,objs[o]?=some ob∧isDat ob=true
theorem ofSl_os {e:Ty} {objs:List OB} {o:Nat} {xs:List (D e)} (h:ofSl e objs (.os o)=some xs):DatO objs o:=by
 simp only[ofSl,Option.bind_eq_some_iff] at h;obtain⟨ob,hob,h3⟩:=h;split at h3
 ·rename_i i e' xs fz
  cases fz with
  | true=>exact .inl ⟨i,e',xs,hob⟩
  | false=>exact .inr ⟨_,hob,rfl⟩
 ·exact .inr ⟨_,hob,rfl⟩
 ·cases h3
theorem qgg {objs:List OB} {o:Nat}:∀(τ:Ty) {l:List Cv} {x:D τ},toD objs τ l=some x→o∈idsD objs τ l→DatO objs o
 | .int _,l,_,_,h=>by simp[idsD] at h
 | .bool,l,_,_,h=>by simp[idsD] at h
 | .str,l,_,_,h=>by simp[idsD] at h
 | .nil,l,_,_,h=>by simp[idsD] at h
 | .osl _ _,l,_,_,h=>by simp[idsD] at h
 | .onl _ _,l,_,_,h=>by simp[idsD] at h
 | .hrl _ _ _ _ _,l,_,_,h=>by simp[idsD] at h
 | .sl e,l,x,hx,h=>by
  obtain⟨c,h1,h2⟩:=Option.bind_eq_some_iff.1 hx;simp only[idsD,h1,Option.elim_some] at h;clear hx
  cases c with
  | os p =>
   have hop:o=p:=by simpa[osId] using h
   subst hop;exact ofSl_os h2
  | _=>simp[osId] at h
 | .obx e,l,x,hx,h=>by
  obtain⟨bl,h1,h2⟩:=Option.bind_eq_some_iff.1 (show((ownB objs l).bind fun l=>toD objs e l)=some x from hx);simp only[idsD,h1,Option.getD_some] at h;exact qgg (x:=x) e h2 h
 | .st f r,l,x,hx,h=>by
  simp only[toD,Option.bind_eq_some_iff] at hx;obtain⟨x1,h1,x2,h2,_⟩:=hx;simp only[idsD,List.mem_append] at h;exact h.elim (qgg f h1) (qgg r h2)
theorem quy {objs:List OB} {slots:Slots} {o:Nat}:∀(l:List (Nat×Ty)) {x:DL (tysS l)},absS objs slots l=some x→o∈qaJ (idsD objs) slots l→DatO objs o
 | [],_,_,h=>by simp[qaJ] at h
 | (t,τ)::l,x,hx,h=>by
  simp only[absS,Option.bind_eq_some_iff,chk_some] at hx;obtain⟨⟨tg,pv⟩,h1,h2,cs,h3,h4,x1,h5,x2,h6,_⟩:=hx;simp only[qaJ,h1,Option.bind_some,h3,Option.elim_some,List.mem_append] at h;exact h.elim (qgg τ h5) (quy l h6)
theorem qg8 {objs:List OB} {o:Nat}:∀(l:List (Nat×Option OTy)) {x:DL (tysO l)},absO objs l=some x→o∈qR (idsD objs) objs l→DatO objs o
 | [],_,_,h=>by simp[qR] at h
 | (p,none)::l,x,hx,h=>qg8 l hx (by simpa[qR] using h)
 | (p,some (.arr i e))::l,x,hx,h=>by
  simp only[absO,Option.bind_eq_some_iff] at hx;obtain⟨ob,hob,h2⟩:=hx
  cases ob with
  | arr i' e' xs fz =>
   cases fz with
   | true=>simp at h2
   | false =>
    simp only[chk_some,Option.bind_eq_some_iff] at h2;obtain⟨_,x1,_,y2,hy,_⟩:=h2;exact qg8 l hy (by simpa[qR] using h)
  | _=>simp at h2
 | (p,some (.box τ))::l,x,hx,h=>by
  simp only[absO,Option.bind_eq_some_iff] at hx;obtain⟨ob,hob,h2⟩:=hx
  cases ob with
  | box cs =>
   simp only[Option.bind_eq_some_iff] at h2;obtain⟨x1,h3,y2,hy,_⟩:=h2;simp only[qR,hob,List.mem_append] at h;exact h.elim (qgg τ h3) (qg8 l hy)
  | _=>simp at h2
 | (p,some (.mp kt vt))::l,x,hx,h=>by
  simp only[absO] at hx;cases hx
 | (p,some (.bld tb i))::l,x,hx,h=>by
  simp only[absO,Option.bind_eq_some_iff] at hx;obtain⟨ob,hob,h2⟩:=hx
  cases ob with
  | bld tb' c =>
   simp only[chk_some,Option.bind_eq_some_iff] at h2;obtain⟨_,x1,h3,y2,hy,_⟩:=h2;simp only[qR,hob,List.mem_append] at h;exact h.elim (qgg (.osl i (.int .u8)) h3) (qg8 l hy)
  | _=>simp at h2
 | (p,some (.ar tn q ow))::l,x,hx,h=>by
  simp only[absO,Option.bind_eq_some_iff] at hx;obtain⟨n,_,ob,hob,h2⟩:=hx
  cases ob with
  | ar t' p' ow' xs lent =>
   simp only[chk_some,Option.bind_eq_some_iff] at h2;obtain⟨_,x1,h3,y2,hy,_⟩:=h2;exact qg8 l hy (by simpa[qR] using h)
  | _=>simp at h2
theorem quf {gs:List (Value×Option Nat)} {b:Nat}:∀ {j1 j2:Nat} {g1 g2:Value×Option Nat},(gs.flatMap fun g=>g.2.toList).Nodup→gs[j1]?=some g1→gs[j2]?=some g2→g1.2=some b→g2.2=some b→j1=j2:=by
 induction gs with
 | nil=>intro j1 j2 g1 g2 _ h;simp at h
 | cons g l ih =>
  intro j1 j2 g1 g2 hn h1 h2 hb hb';simp only[List.flatMap_cons,List.nodup_append] at hn
  cases j1 with
  | zero =>
   cases j2 with
   | zero=>rfl
   | succ j2 =>
    simp at h1 h2;exact absurd rfl (hn.2.2 b (by rw[h1,hb];simp) b (List.mem_flatMap.2 ⟨g2,List.mem_of_getElem? h2,by simp[hb']⟩))
  | succ j1 =>
   cases j2 with
   | zero =>
    simp at h1 h2;exact absurd rfl (hn.2.2 b (by rw[h2,hb'];simp) b (List.mem_flatMap.2 ⟨g1,List.mem_of_getElem? h1,by simp[hb]⟩))
   | succ j2=>exact congrArg _ (ih hn.2.1 (by simpa using h1) (by simpa using h2) hb hb')
def OB.below (n:Nat):OB→Prop
 | .box l=>CvL.below n l
 | .fbx l=>CvL.below n l
 | .bld _ c=>c.below n
 | .hr _ _ _ _ _ hole=>∀k r,hole=some (k,r)→r<n
 | _=>True
theorem ObR.below {objs:List OB} {γ:Gh} {w:World} {ob:OB} {g:Value×Option Nat} (h:ObR objs γ w ob g):OB.below objs.length ob:=by
 cases ob with
 | box l=>obtain⟨_,_,_,_,_,h1⟩:=h;exact h1.below
 | fbx l=>obtain⟨_,_,_,_,_,h1,_⟩:=h;exact h1.below
 | bld t c=>obtain⟨_,_,_,_,_,_,h1⟩:=h;exact h1.below
 | hr i p q j xs hole=>obtain⟨_,_,_,h1⟩:=h;exact fun k r e=>(h1 k r e).2.1
 | _=>trivial
theorem ObR.keep' {objs objs':List OB} {γ γ':Gh} {w w':World} {n:Nat} (h:Keep objs γ w objs' γ' w' n) {ob:OB} {g:Value×Option Nat} (hb:∀b,g.2=some b→w'.heap[b]?=w.heap[b]?) (hbel:OB.below n ob) (hr:ObR objs γ w ob g):ObR objs' γ' w' ob g:=by
 cases ob with
 | box l =>
  obtain⟨b,T,cs,e,h1,h2⟩:=hr;exact⟨b,T,cs,e,(hb b (by simp[e])).trans h1,VRL.keep h hbel h2⟩
 | fbx l =>
  obtain⟨b,T,cs,e,h1,h2,h3⟩:=hr;exact⟨b,T,cs,e,(hb b (by simp[e])).trans h1,VRL.keep h hbel h2,h.imm _ h3⟩
 | arr i e xs fz =>
  obtain⟨us,h1,h2⟩:=hr;exact⟨us,h1.mono fun b hm=>hb b (by simpa using hm),RepL.keep h h2⟩
 | dead=>trivial
 | mbr i e x =>
  rcases hr with hr | ⟨xs,us,h0,h1,h2⟩
  ·exact .inl hr
  ·exact .inr ⟨xs,us,h0,h1.mono fun b hm=>hb b (by simpa using hm),RepL.keep h h2⟩
 | nilr=>exact hr
 | mp k v xs =>
  obtain⟨b,e,h1,es,clk,h2,h3⟩:=hr;exact⟨b,e,h1,es,clk,(hb b (by simp[e])).trans h2,h3⟩
 | ar t p ow xs lent=>exact hr
 | hr i p q j xs hole =>
  obtain⟨us,h1,h2,h3⟩:=hr;have eh:(hole.map fun x=>(x.1,(γ' x.2).1))=hole.map fun x=>(x.1,(γ x.2).1):=by
   cases hole with
   | none=>rfl
   | some x=>rw[Option.map_some,Option.map_some,h.gh x.2 (hbel x.1 x.2 rfl)]
  refine⟨us,h1.mono fun b hm=>hb b (by simpa using hm),?_,fun k r e=>⟨(h3 k r e).1,?_⟩⟩
  ·rw[eh];exact h2.mono (ElR.mono (fun x c=>Rep.keep h) (fun x c=>Rep.keep h) fun ks v hk=>hk.mono h.imm h.heap)
  ·have:=VR.keep h (c := .os r) (hbel k r e) (h3 k r e).2;rw[h.gh r (hbel k r e)];exact this
 | bld t c =>
  obtain⟨b,p,v,e,h1,h2,h3⟩:=hr;exact⟨b,p,v,e,(hb b (by simp[e])).trans h1,h2,VR.keep h hbel h3⟩
theorem qhd {F:Fr} {s:Shape} {σ σ':AState} {γ γ':Gh} {a a':Act} {w w':World} (r:Rel F σ γ a w) (hh:qkt s σ=true) (r':Rel F σ' γ' a' w') (hn:σ'.n=σ.n)
  (hk:∀t∈s.keep,∀e,kf σ.slots t=some e→get σ'.slots t=some e) (ho:∀o,o<σ.objs.length→listed o s.objs=false→σ'.objs[o]?=σ.objs[o]?) (K0:Keep σ.objs γ w σ'.objs γ' w' σ.objs.length)
  {x:s.T} (hx:absT s σ.objs.length σ'=some x):∃γF,Rel F (conc s σ x) γF a' w'∧Cl (conc s σ x)∧Step σ γ w (conc s σ x) γF w':=by
 simp only[absT,chk_some,Bool.and_eq_true,Option.bind_eq_some_iff] at hx;obtain⟨⟨hown,hdat⟩,x1,hx1,x2,hx2,hxx⟩:=hx;have hxx:(x1,x2)=x:=Option.some.inj hxx;subst hxx;simp only[qkt,Bool.and_eq_true,List.all_eq_true,Bool.not_eq_true'] at hh;obtain⟨⟨⟨hpm,hsl⟩,hndo,hol⟩,hg0,hkn0⟩:=hh;have hndo:=qcR hndo;have hol':∀q∈s.objs,q.1<σ.objs.length∧bitB σ.prO q.1=false:=fun q hq=>⟨by have:=(hol q hq).1;simpa[Nat.blt_eq] using this,(hol q hq).2⟩;simp only[okOwned,Bool.and_eq_true] at hown;obtain⟨hown1,hown2⟩:=hown;have hownd:=qcR hown1;have hownst:∀o∈qaJ (idsO σ'.objs) σ'.slots s.slots++qR (idsO σ'.objs) σ'.objs s.objs,stays s σ.objs.length o=false:=fun o ho=>by
  have:=List.all_eq_true.1 hown2 o ho;simpa using this
 let own:=qaJ (idsO σ'.objs) σ'.slots s.slots++qR (idsO σ'.objs) σ'.objs s.objs
 let T:Sp:=⟨fun k=>k<w'.heap.size∧γ'.S k∧(∀o',Mut σ'.objs o'→(o'∈own∨stays s σ.objs.length o'=true)→(γ' o').2≠some k)∧k∉γ'.B,γ'.m⟩
 have hT:Sp.le (Imm σ'.objs γ' w') T:=⟨fun k hk=>⟨hk.lt,hk.s,fun o' hm _=>hk.own o' hm,hk.nb⟩,fun _ _ h=>h⟩;have hids:∀o∈qaJ (idsD σ'.objs) σ'.slots s.slots++qR (idsD σ'.objs) σ'.objs s.objs,∀b,(γ' o).2=some b→T b:=fun o ho' b hb=>by
  have harr:DatO σ'.objs o:=(List.mem_append.1 ho').elim (quy _ hx1) (qg8 _ hx2);rcases harr with ⟨i,e,xs,hob⟩ | ⟨ob,hob,hdb⟩
  ·exact hT b (r'.o.frz o i e xs b hob hb)
  ·have hd:=List.all_eq_true.1 hdat o ho';have hd:(!stays s σ.objs.length o && !memN o own)=true:=by
    rw[hob] at hd
    cases ob with
    | arr i e xs fz=>cases fz with
     | true=>cases hdb
     | false=>simpa using hd
    | hr i p q j xs hole=>simpa using hd
    | _=>cases hdb
   simp only[Bool.and_eq_true,Bool.not_eq_true'] at hd;obtain⟨hd1,hd2⟩:=hd;have hmo:Mut σ'.objs o:=⟨_,hob,qjG hdb⟩;refine⟨r'.o.lt o b (qw hob) hb,r'.o.up b (r'.o.own o b hmo hb),fun o' hm hor hb'=>?_,r'.o.bo o b hmo hb⟩;have e1:=r'.o.inj o' o b hm hmo hb' hb;subst e1;rcases hor with hor | hor
   ·have:memN o' own=true:=memN_spec.2 hor;rw[this] at hd2;cases hd2
   ·rw[hor] at hd1;cases hd1
 obtain⟨gsO,p1,p2,p3,p4,p4b,p5⟩:=qdE (n0:=σ.objs.length) r'.o hT s.objs σ.objs hx2 hndo (fun q hq=>(hol' q hq).1) (Nat.le_refl _) (fun o ho'=>hids o (List.mem_append.2 (.inr ho')));obtain⟨gsS,q1,q2,q3,q5⟩:=qo0 r' hT s.slots { σ with slots:=keepF σ.slots s.keep,objs:=concO s.objs x2 σ.objs,gs:=0,known:=[] } hx1 (fun o ho'=>hids o (List.mem_append.2 (.inl ho')));have hcl:=qgA s.slots x1 { σ with slots:=keepF σ.slots s.keep,objs:=concO s.objs x2 σ.objs,gs:=0,known:=[] };have hcO:=qaI s.objs x2 σ.objs
 show ∃γF,Rel F (concS s.slots x1 { σ with slots:=keepF σ.slots s.keep,objs:=concO s.objs x2 σ.objs,gs:=0,known:=[] }) γF a' w'∧Cl (concS s.slots x1 { σ with slots:=keepF σ.slots s.keep,objs:=concO s.objs x2 σ.objs,gs:=0,known:=[] })∧Step σ γ w (concS s.slots x1 { σ with slots:=keepF σ.slots s.keep,objs:=concO s.objs x2 σ.objs,gs:=0,known:=[] }) γF w';generalize hC:concS s.slots x1 { σ with slots:=keepF σ.slots s.keep,objs:=concO s.objs x2 σ.objs,gs:=0,known:=[] }=C at *;simp only at q1 hcl q5
 have hOlen:C.objs.length=σ.objs.length+(gsO++gsS).length:=by rw[q1,p1,List.length_append,Nat.add_assoc]
 have hflat:(gsO++gsS).flatMap (fun g=>g.2.toList)=blocks γ' (qR (idsO σ'.objs) σ'.objs s.objs++qaJ (idsO σ'.objs) σ'.slots s.slots):=by
  rw[List.flatMap_append,p2,q2];simp[blocks]
 have hownm:∀o∈own,Mut σ'.objs o:=fun o ho'=>(List.mem_append.1 ho').elim (q3 o) (p3 o);have hndb:((gsO++gsS).flatMap fun g=>g.2.toList).Nodup:=by
  rw[hflat];refine qc3 r'.o ?_ (fun o ho'=>hownm o (List.mem_append.2 ((List.mem_append.1 ho').symm)));exact(List.perm_append_comm.nodup_iff).1 hownd
 have hlow:∀o,o<σ.objs.length→C.objs[o]?=(concO s.objs x2 σ.objs)[o]?:=fun o ho'=>hcl.2.1 o (by omega)
 let kcF:Nat→Nat→Option Value:=fun o x=>if o<σ.objs.length then γ'.kc o x else γ'.kc ((arOf σ'.objs).getD 0) x
 let γ1:Gh:=γ'.arn γ'.m γ'.B kcF
 have hγlow:∀o,o<σ.objs.length→upd γ1 σ.objs.length (gsO++gsS) o=γ' o:=fun o ho'=>qlp ho';have hA:∀o,o<σ.objs.length→Mut C.objs o→Mut σ'.objs o∧stays s σ.objs.length o=true:=fun o ho' hm=>by
  have hst:qaG o s.objs=false→stays s σ.objs.length o=true:=fun hd=>by
   simp only[stays,hd,Bool.not_false,Bool.and_true];simpa[Nat.blt_eq] using ho'
  obtain⟨ob,h1,h2⟩:=hm;rw[hlow o ho'] at h1;by_cases hl:listed o s.objs=true
  ·obtain⟨q,hq,rfl⟩:=List.mem_map.1 (listed_spec.1 hl);obtain⟨h3,h4⟩:=p4 q hq ⟨ob,h1,h2⟩;exact⟨h3,hst h4⟩
  ·have hl:=Bool.eq_false_iff.2 hl;rw[qB s.objs x2 σ.objs o ho' hl,←ho o ho' hl] at h1;exact⟨⟨ob,h1,h2⟩,hst (Bool.eq_false_iff.2 fun hd=>by rw[qa2 hd] at hl;cases hl)⟩
 have hB:∀o b,σ.objs.length≤o→o<C.objs.length→(upd γ1 σ.objs.length (gsO++gsS) o).2=some b→∃o'∈own,(γ' o').2=some b:=fun o b h1 h2 hb=>by
  have hj:o-σ.objs.length<(gsO++gsS).length:=by omega
  have e1:=qcB (γ:=γ1) (n:=σ.objs.length) (List.getElem?_eq_getElem hj);rw[show σ.objs.length+(o-σ.objs.length)=o by omega] at e1;rw[e1] at hb;have hmem:b∈(gsO++gsS).flatMap (fun g=>g.2.toList):=List.mem_flatMap.2 ⟨_,List.getElem_mem hj,by simp[hb]⟩;rw[hflat] at hmem;obtain⟨o',ho',hb'⟩:=List.mem_flatMap.1 hmem;exact⟨o',List.mem_append.2 ((List.mem_append.1 ho').symm),by simpa using hb'⟩
 have hTI:Sp.le T (Imm C.objs (upd γ1 σ.objs.length (gsO++gsS)) w'):=⟨fun k hk=>by
  refine⟨hk.1,hk.2.1,fun o hm hb=>?_,hk.2.2.2⟩;by_cases ho':o<σ.objs.length
  ·obtain⟨h1,h2⟩:=hA o ho' hm;rw[hγlow o ho'] at hb;exact hk.2.2.1 o h1 (.inr h2) hb
  ·obtain⟨o',h1,h2⟩:=hB o k (by omega) hm.lt hb
   exact hk.2.2.1 o' (hownm o' h1) (.inl h1) h2,fun _ _ h=>h⟩
 have hgO:∀j g,gsO[j]?=some g→upd γ1 σ.objs.length (gsO++gsS) (σ.objs.length+j)=g:=fun j g hj=>qcB (by rw[List.getElem?_append_left (qw hj)];exact hj);have hgS:∀j g,gsS[j]?=some g→upd γ1 σ.objs.length (gsO++gsS) ((concO s.objs x2 σ.objs).length+j)=g:=fun j g hj=>by
  rw[p1,Nat.add_assoc];exact qcB (by rw[List.getElem?_append_right (by omega)];simpa using hj)
 obtain⟨u1,u2⟩:=p5 C.objs _ (fun o ho'=>hcl.2.1 o ho') hTI ⟨rfl,rfl,fun o x ho'=>if_neg (by omega)⟩ hγlow hgO hcl.1;obtain⟨v1,v2⟩:=q5 _ hTI hgS C.objs rfl;have K1:Keep σ'.objs γ' w' C.objs (upd γ1 σ.objs.length (gsO++gsS)) w' σ.objs.length:=⟨hT.trans hTI,fun _ _=>rfl,by omega,hγlow,Nat.le_refl _,rfl,fun o ho' x v hv=>(if_pos ho').trans hv⟩;have hlen':=K0.len;have hnew:∀o ob,σ.objs.length≤o→C.objs[o]?=some ob→ObR C.objs (upd γ1 σ.objs.length (gsO++gsS)) w' ob (upd γ1 σ.objs.length (gsO++gsS) o)∧(mutOb ob=true∨isAr ob=true)∧(∀t p ow xs lent,ob = .ar t p ow xs lent→ArO C.objs (upd γ1 σ.objs.length (gsO++gsS)) w' o t p ow xs lent):=fun o ob h1 h2=>by
  by_cases h3:o<(concO s.objs x2 σ.objs).length
  ·exact u2 o ob h1 h3 h2
  ·have h4:=v2 o ob (by omega) h2;exact⟨h4.1,.inl h4.2,fun t p ow xs lent e=>by rw[e] at h4;cases h4.2⟩
 have hor:ORel F C.objs (upd γ1 σ.objs.length (gsO++gsS)) w':=by
  refine⟨fun o ob hob=>?_,fun o o' b hm hm' hb hb'=>?_,fun o b hm hb=>?_,fun o b hlt hb=>?_,r'.o.chg,fun o i e xs b hob hb=>?_,r'.o.up,r'.o.tab.mono (fun k hk=>hTI k (hT k hk)) (fun _ _=>rfl),r'.o.bl,fun o b hm hb=>?_,fun o t p ow xs lent hob=>?_⟩
  ·by_cases ho':o<σ.objs.length
   ·by_cases hl:listed o s.objs=true
    ·obtain⟨q,hq,rfl⟩:=List.mem_map.1 (listed_spec.1 hl);exact u1 q hq ob hob
    ·have hl:=Bool.eq_false_iff.2 hl;rw[hlow o ho',qB s.objs x2 σ.objs o ho' hl] at hob;rw[hγlow o ho'];exact ObR.keep' K1 (fun _ _=>rfl) (r.o.rep o ob hob).below (r'.o.rep o ob (by rw[ho o ho' hl];exact hob))
   ·exact(hnew o ob (by omega) hob).1
  ·by_cases h1:o<σ.objs.length<;>by_cases h2:o'<σ.objs.length
   ·rw[hγlow o h1] at hb;rw[hγlow o' h2] at hb';exact r'.o.inj o o' b (hA o h1 hm).1 (hA o' h2 hm').1 hb hb'
   ·rw[hγlow o h1] at hb;obtain⟨o2,h3,h4⟩:=hB o' b (by omega) hm'.lt hb';have e1:=r'.o.inj o o2 b (hA o h1 hm).1 (hownm o2 h3) hb h4;subst e1;have:=hownst o h3;rw[(hA o h1 hm).2] at this;cases this
   ·rw[hγlow o' h2] at hb';obtain⟨o2,h3,h4⟩:=hB o b (by omega) hm.lt hb;have e1:=r'.o.inj o' o2 b (hA o' h2 hm').1 (hownm o2 h3) hb' h4;subst e1;have:=hownst o' h3;rw[(hA o' h2 hm').2] at this;cases this
   ·have l1:=hm.lt;have l2:=hm'.lt
    have hj1:o-σ.objs.length<(gsO++gsS).length:=by omega
    have hj2:o'-σ.objs.length<(gsO++gsS).length:=by omega
    have e1:=qcB (γ:=γ1) (n:=σ.objs.length) (List.getElem?_eq_getElem hj1);have e2:=qcB (γ:=γ1) (n:=σ.objs.length) (List.getElem?_eq_getElem hj2);rw[show σ.objs.length+(o-σ.objs.length)=o by omega] at e1;rw[show σ.objs.length+(o'-σ.objs.length)=o' by omega] at e2;rw[e1] at hb;rw[e2] at hb';have:=quf hndb (List.getElem?_eq_getElem hj1) (List.getElem?_eq_getElem hj2) hb hb';omega
  ·by_cases h1:o<σ.objs.length
   ·rw[hγlow o h1] at hb;exact r'.o.own o b (hA o h1 hm).1 hb
   ·obtain⟨o2,h3,h4⟩:=hB o b (by omega) hm.lt hb;exact r'.o.own o2 b (hownm o2 h3) h4
  ·by_cases h1:o<σ.objs.length
   ·rw[hγlow o h1] at hb;exact r'.o.lt o b (by omega) hb
   ·obtain⟨o2,h3,h4⟩:=hB o b (by omega) hlt hb;exact r'.o.lt o2 b (hownm o2 h3).lt h4
  ·by_cases h1:o<σ.objs.length
   ·rw[hlow o h1] at hob;rw[hγlow o h1] at hb;by_cases hl:listed o s.objs=true
    ·obtain⟨q,hq,rfl⟩:=List.mem_map.1 (listed_spec.1 hl);exact absurd hob ((p4b q hq).1 i e xs)
    ·have hl:=Bool.eq_false_iff.2 hl;rw[qB s.objs x2 σ.objs o h1 hl,←ho o h1 hl] at hob;exact hTI b (hT b (r'.o.frz o i e xs b hob hb))
   ·rcases(hnew o _ (by omega) hob).2.1 with h | h<;>cases h
  ·by_cases h1:o<σ.objs.length
   ·rw[hγlow o h1] at hb;exact r'.o.bo o b (hA o h1 hm).1 hb
   ·obtain⟨o2,h3,h4⟩:=hB o b (by omega) hm.lt hb;exact r'.o.bo o2 b (hownm o2 h3) h4
  ·by_cases h1:o<σ.objs.length
   ·rw[hlow o h1] at hob;by_cases hl:listed o s.objs=true
    ·obtain⟨q,hq,rfl⟩:=List.mem_map.1 (listed_spec.1 hl);cases (p4b q hq).2 _ hob
    ·have hl:=Bool.eq_false_iff.2 hl;rw[qB s.objs x2 σ.objs o h1 hl,←ho o h1 hl] at hob;exact(r'.o.ar o t p ow xs lent hob).keep K1 rfl rfl (fun x=>if_pos h1) (fun _ _=>rfl)
   ·exact(hnew o _ (by omega) hob).2.2 _ _ _ _ _ rfl
 have hslots:∀t tg pv,get C.slots t=some (tg,pv)→tg=[]∧∃v,a'.tmps[t]?=some v∧PR C.objs (upd γ1 σ.objs.length (gsO++gsS)) w' pv v:=fun t tg pv ht=>by
  rcases v1 t tg pv ht with h1 | h1
  ·obtain⟨h2,h3⟩:=qqA h1;obtain⟨h4,h5,h6⟩:=qh2 h3;simp only at h5 h6;subst h5;refine⟨rfl,?_⟩;obtain⟨v,h7,h8⟩:=r'.slots t [] pv (hk t h2 _ h3) (qj _);obtain⟨v0,_,h9⟩:=r.slots t [] pv h4 (qj _);exact⟨v,h7,PR.keep K1 h9.below (.inl h6) h8⟩
  ·exact h1
 refine⟨upd γ1 σ.objs.length (gsO++gsS),⟨?_,r'.defers,fun t tg pv ht _=>(hslots t tg pv ht).2,fun t tg pv ht hnT=>?_,fun t tg pv ht x hx=>?_,fun x hx=>?_,hor⟩,⟨hcl.2.2.2.2.2.1,hcl.2.2.2.2.2.2.1⟩,⟨hcl.2.2.1,hcl.2.2.2.1,hcl.2.2.2.2.1,fun t e ht he=>?_,fun o ho' hp=>?_,K0.trans K1⟩⟩
 ·rw[r'.size,hn,hcl.2.2.1]
 ·obtain⟨rfl,_⟩:=hslots t tg pv ht;exact absurd (qj _) hnT
 ·obtain⟨rfl,_⟩:=hslots t tg pv ht;cases hx
 ·rw[hcl.2.2.2.2.2.2.1] at hx;cases hx
 ·have htk:t∈s.keep:=by
   have hb:=Nat.eq_of_beq_eq_true hpm;rw[qgU] at ht
   have h2:(Nat.land σ.prS (maskN s.keep)).testBit t=true:=by rw[hb];exact ht
   have h3:(σ.prS &&& maskN s.keep).testBit t=true:=h2;rw[Nat.testBit_and,Bool.and_eq_true] at h3;exact mask_bit.1 (by rw[qgU];exact h3.2)
  have hnh:∀q∈s.slots,q.1≠t:=fun q hq e1=>by
   have:=(hsl q hq).1;rw[e1,memN_spec.2 htk] at this;cases this
  obtain⟨h4,h5,h6⟩:=qh2 he;refine kf_of ?_ h5 h6;rw[hcl.2.2.2.2.2.2.2 t hnh,qnz htk];exact he
 ·have hl:listed o s.objs=false:=Bool.eq_false_iff.2 fun hl=>by
   obtain⟨q,hq,rfl⟩:=List.mem_map.1 (listed_spec.1 hl);rw[(hol' q hq).2] at hp;cases hp
  rw[hlow o ho',qB s.objs x2 σ.objs o ho' hl]
end Go.Den
namespace Go.Den
open Go.Eng
set_option linter.unusedVariables false
set_option linter.unusedSectionVars false
set_option linter.unusedSimpArgs false
variable [CT : Ctx]

section
variable {P : Program} {env : Env} [DqAll P]

theorem qvE {T α:Type} {f:T→Option (T ⊕ α)} {x:T} {r:α} (h:iterW f x=some r):∃n,iterN f n x=some r:=by
 unfold iterW at h;split at h
 ·exact⟨_,h⟩
 ·cases h
theorem Rel.enter {F:Fr} {σ:AState} {γ:Gh} {a:Act} {w:World} {s:Shape} {n:Nat} (r:Rel F σ γ a w):Rel F (σ.enter s n) γ a w:=⟨r.size,r.defers,r.slots,r.off,r.gs,r.known,r.o⟩
theorem Rel.leave {F:Fr} {σ σ0:AState} {γ:Gh} {a:Act} {w:World} (r:Rel F σ γ a w):Rel F (σ.leave σ0) γ a w:=⟨r.size,r.defers,r.slots,r.off,r.gs,r.known,r.o⟩
theorem Step.leave {σ σ':AState} {γ γ':Gh} {w w':World} {s:Shape} {n:Nat} (h:Step (σ.enter s n) γ w σ' γ' w'):Step σ γ w (σ'.leave σ) γ' w' :=
 ⟨h.n,rfl,rfl,fun t e ht he=>h.slots t e (qef ht) he,fun o ho hp=>h.objs o ho (qef hp),h.keep⟩

theorem Post.then {α:Type} {F:Fr} {σ σ':AState} {γ γ':Gh} {w w':World} {K:Kt α} {res:α} {Q:Exit→Act→World→Prop} (hp:Post F σ γ w K res Q) (s:Step σ γ w σ' γ' w'):Post F σ' γ' w' K res Q :=
 ⟨fun σ2 γ2 a2 w2 hk r2 hc s2=>hp.n σ2 γ2 a2 w2 hk r2 hc (s.trans s2),fun i σ2 γ2 a2 w2 hk r2 hc s2=>hp.x i σ2 γ2 a2 w2 hk r2 hc (s.trans s2),fun σ2 γ2 a2 w2 hk r2 hc s2=>hp.r σ2 γ2 a2 w2 hk r2 hc (s.trans s2)⟩
def RdOK {α:Type} (P:Program) (N:Nat) (rc:Ann→Code→AState→Kt α→Option α):Prop :=
 ∀b σ K res,rc .nil (.loop b) σ K=some res→∀F γ a w Q,Rel F σ γ a w→Cl σ→Post F σ γ w K res Q→Code.rounds P b Q N a w
theorem qbC (hE:EnvOK P env) (hm:P.follows .mixedOrders=true) {α:Type} {n:Nat} {rc:Ann→Code→AState→Kt α→Option α} (hrc:RcOK P rc) (hrd:RdOK P n rc) {ann:Ann} {c:Code} {σ:AState} {K:Kt α} {res:α} (h:denP P env rc ann c σ K=some res)
  {F:Fr} {γ:Gh} {a:Act} {w:World} {Q:Exit→Act→World→Prop} (r:Rel F σ γ a w) (hcl:Cl σ) (hp:Post F σ γ w K res Q):c.wp P Q a w:=by
 have fin:∀σ' γ' a' w',K.n σ'.endR=some res→Rel F σ' γ' a' w'→Step σ γ w σ' γ' w'→Q .normal a' w':=fun σ' γ' a' w' hk r' s'=>hp.n σ'.endR γ' a' w' hk r'.endR ⟨rfl,rfl⟩ (s'.trans Step.endR);unfold denP at h;split at h
 ·exact wp_skip (hp.n σ γ a w h r hcl (Step.refl _ _ _))
 ·exact wp_label (hp.n σ γ a w h r hcl (Step.refl _ _ _))
 ·refine wp_seq (hrc _ _ _ _ _ h F γ a w _ r hcl ⟨fun σ' γ' a' w' hk r' hc' s'=>?_,fun i σ' γ' a' w' hk r' hc' s'=>hp.x i σ' γ' a' w' hk r' hc' s',fun σ' γ' a' w' hk r' hc' s'=>hp.r σ' γ' a' w' hk r' hc' s'⟩);exact hrc _ _ _ _ _ hk F γ' a' w' Q r' hc' (hp.then s')
 ·simp only[Option.bind_eq_some_iff] at h;obtain⟨v,h1,t,h2,h3⟩:=h;have hev:=ev_bool r (qj σ) h1 h2;cases t
  ·exact wp_cond_false hev (hrc _ _ _ _ _ h3 F γ a w Q r hcl hp)
  ·exact wp_cond_true hev (hrc _ _ _ _ _ h3 F γ a w Q r hcl hp)
 ·refine wp_block (hrc _ _ _ _ _ h F γ a w _ r hcl ⟨fun σ' γ' a' w' hk r' hc' s'=>hp.n σ' γ' a' w' hk r' hc' s',fun i σ' γ' a' w' hk r' hc' s'=>?_,fun σ' γ' a' w' hk r' hc' s'=>hp.r σ' γ' a' w' hk r' hc' s'⟩);simp only[Exit.inBlock];split
  ·rename_i e;subst e;simp only[Nat.beq_refl,cond_true] at hk;exact hp.n σ' γ' a' w' hk r' hc' s'
  ·rename_i e;have:Nat.beq i _=false:=Bool.eq_false_iff.2 fun hb=>e (Nat.eq_of_beq_eq_true hb);simp only[this,cond_false] at hk;exact hp.x i σ' γ' a' w' hk r' hc' s'
 ·refine wp_loop_rounds (n+1) ?_;rw[rounds_succ];refine hrc _ _ _ _ _ h F γ a w _ r hcl ⟨fun σ' γ' a' w' hk r' hc' s'=>?_,fun i σ' γ' a' w' hk r' hc' s'=>hp.x i σ' γ' a' w' hk r' hc' s',fun σ' γ' a' w' hk r' hc' s'=>hp.r σ' γ' a' w' hk r' hc' s'⟩;exact hrd _ _ _ _ hk F γ' a' w' Q r' hc' (hp.then s')
 ·exact wp_exit (hp.x _ σ γ a w h r hcl (Step.refl _ _ _))
 ·exact wp_ret (hp.r σ γ a w h r hcl (Step.refl _ _ _))
 ·exact wp_region_list (qaq hE hrc _ _ r h fin)
 ·rename_i id ops;have hdr:Chg [] w { w with drawn:=w.drawn+1 }:=⟨rfl,rfl,rfl,Nat.le_refl _,fun _ _ _=>rfl,fun _=>Nat.le_succ _⟩;split at h
  ·rename_i s g ann' _;obtain⟨hsel,h⟩:=chk_some.1 h;refine qtP hm (f:=0) (qsB hE hrc hsel (3*ops.size+20) ops.size (by simp) ?_ (r.ext hdr) h fun σ2 γ2 a2 w2 hk2 r2 s2=>fin σ2 γ2 a2 w2 hk2 r2 ((Step.ext hdr).trans s2));unfold nUn;exact Nat.le_trans List.countP_le_length (by simp)
  split at h
  ·obtain⟨hB,h⟩:=chk_some.1 h;refine wp_region_quiet (C:=Chg [] w) hm hB hdr (qcS hE _ r h fun σ' a' r' s' hk w' hc=>?_);exact fin σ' γ a' w' hk (r'.ext hc) (s'.trans (Step.ext hc))
  ·obtain⟨hB2,h⟩:=chk_some.1 h;refine qhs (C:=Chg [] w) _ hm hB2 hdr (qcS hE _ r h fun σ' a' r' s' hk w' hc=>?_);exact qaq hE hrc _ _ (r'.ext hc) hk fun σ2 γ2 a2 w2 hk2 r2 s2=>fin σ2 γ2 a2 w2 hk2 r2 (s'.trans ((Step.ext hc).trans s2))
 ·cases h
theorem retype {F:Fr} {objs:List OB} {γ:Gh} {w:World} {p:Nat} {ob ob':OB} (r:ORel F objs γ w) (hp:objs[p]?=some ob) (hm:mutOb ob=true)
  (hnf:∀(i:TypeId) (e:Ty) (xs:List (D e)),ob' ≠ .arr i e xs true) (hob:ObR objs γ w ob' (γ p)) (hna:isAr ob'=false:=by rfl):ORel F (objs.set p ob') γ w∧Keep objs γ w (objs.set p ob') γ w objs.length:=by
 have hlt:=qw hp;have hget:∀o',(objs.set p ob')[o']?=if p=o' then some ob' else objs[o']?:=fun o'=>by
  rw[List.getElem?_set];by_cases e1:p=o'
  ·subst e1;simp[hlt]
  ·simp[e1]
 have hmu:∀o',Mut (objs.set p ob') o'→Mut objs o':=by
  rintro o' ⟨ob2,h1,h2⟩
  rw[hget] at h1;split at h1
  ·rename_i e;subst e;exact⟨_,hp,hm⟩
  ·exact⟨ob2,h1,h2⟩
 have K:Keep objs γ w (objs.set p ob') γ w objs.length:=⟨⟨fun k hk=>⟨hk.lt,hk.s,fun o' hm'=>hk.own o' (hmu o' hm'),hk.nb⟩,fun _ _ h=>h⟩,fun _ _=>rfl,by simp,fun _ _=>rfl,Nat.le_refl _,rfl,fun _ _ _ _ h=>h⟩;refine⟨⟨fun o' ob2 h1=>?_,fun o1 o2 b' h1 h2=>r.inj o1 o2 b' (hmu o1 h1) (hmu o2 h2),fun o1 b' h1=>r.own o1 b' (hmu o1 h1),fun o1 b' h1 h2=>r.lt o1 b' (by simpa using h1) h2,r.chg,fun o1 i e xs b' h1 h2=>?_,r.up,r.tab.mono K.imm K.heap,r.bl,fun o1 b' h1=>r.bo o1 b' (hmu o1 h1),fun o1 t q ow xs lent h1=>(r.ar o1 t q ow xs lent (SameAr.set objs p hna o1 t q ow xs lent h1)).keep K rfl rfl (fun _=>rfl) (fun _ _=>rfl)⟩,K⟩
 ·rw[hget] at h1;split at h1
  ·rename_i e;subst e;cases h1;exact ObR.keep K (fun _ _=>rfl) hob
  ·exact ObR.keep K (fun _ _=>rfl) (r.rep o' _ h1)
 ·rw[hget] at h1;split at h1
  ·cases h1;exact absurd rfl (hnf _ _ _)
  ·exact K.imm _ (r.frz o1 i e xs b' h1 h2)
theorem RepL.rel {A B:Type} {R:A→List Value→Prop} {R':B→List Value→Prop}:∀ {xs:List A} {ys:List B} {us:List Value},RepL R xs us→xs.length=ys.length→(∀(j:Nat) (x:A) (y:B) (c:List Value),xs[j]?=some x→ys[j]?=some y→R x c→R' y c)→RepL R' ys us
 | [],[],_,h,_,_=>h
 | x::xs,y::ys,us,⟨c,r,e,h1,h2⟩,hl,hh=>⟨c,r,e,hh 0 x y c rfl rfl h1,RepL.rel h2 (by simpa using hl) fun j x' y' c' hx hy=>hh (j+1) x' y' c' hx hy⟩
 | [],_::_,_,_,hl,_=>by simp at hl
 | _::_,[],_,_,hl,_=>by simp at hl
theorem qub {A:Type} {d:A}:∀ {xs:List A} {k:Nat},k<xs.length→xs[k]?=some (getD' xs k d):=by
 intro xs k h;rw[List.getElem?_eq_getElem h];simp[getD',List.getElem?_eq_getElem h]
theorem beq_ne {a b:Nat} (h:a≠b):Nat.beq a b=false:=by
 cases hb:Nat.beq a b with
 | false=>rfl
 | true=>exact absurd (Nat.eq_of_beq_eq_true hb) h
theorem hop_spec {F:Fr} {σ:AState} {γ:Gh} {a:Act} {w:World} {o t:Nat} {b:Bool} {objs':List OB} (r:Rel F σ γ a w) (h:hopO σ o t=some (b,objs')) (hb:b=true):∃γ',Rel F { σ with objs:=objs' } γ' a w∧Step σ γ w { σ with objs:=objs' } γ' w:=by
 simp only[hopO,Option.bind_eq_some_iff,chk_some] at h;obtain⟨e,h1,h2,q,h3,ob,hob,h⟩:=h;split at h
 ·rename_i i pa qb j xs;simp only[chk_some,Bool.not_eq_true',Option.some.injEq,Prod.mk.injEq] at h;obtain⟨hpr,rfl,rfl⟩:=h;simp only[Bool.and_eq_true,decide_eq_true_eq,Nat.blt_eq] at hb;obtain⟨h0,hk,hem⟩:=hb;obtain⟨ho1,K1⟩:=qoR (prO:=σ.prO) (nob := .nilr) (v' := .slice none 0 0) (M':=[]) r.o .no (Chg.refl [] w) (.inl rfl) rfl rfl (fun _=>rfl);have hlt:=qw hob
  have hob1:(σ.objs++[.nilr])[o]?=some (.hr i pa qb j xs none):=by rw[List.getElem?_append_left hlt];exact hob
  have hgn:(upd γ σ.objs.length [(Value.slice none 0 0,(([]:List Nat).head?))] σ.objs.length)=(.slice none 0 0,none):=by
   have:=qcB (γ:=γ) (n:=σ.objs.length) (j:=0) (gs:=[(Value.slice none 0 0,(([]:List Nat).head?))]) rfl;rw[Nat.add_zero] at this;exact this
  have hx:=qub (d:=dflt (eT pa qb)) hk;obtain⟨us,g1,g2,g3⟩:=ho1.rep o _ hob1
  obtain⟨ho2,K2⟩:=retype (ob' := .hr i pa qb j xs (some (q.2.toNat,σ.objs.length))) ho1 hob1 rfl (fun _ _ _ e=>by cases e) (by
   refine⟨us,g1,g2.rel (by simp[qss]) fun t y y' c hy hy' hR=>?_,fun k r' e=>?_⟩
   ·rw[qiM] at hy hy';obtain⟨z,hz1,rfl⟩:=Option.map_eq_some_iff.1 hy;rw[hz1] at hy';cases hy';obtain⟨c1,v,c2,rfl,r1,r2,r3,r4⟩:=hR;refine⟨c1,v,c2,rfl,r1,r2,r3,?_⟩;simp only[Option.map_some,Option.map_none,hvAt] at r4 ⊢;by_cases htk:q.2.toNat=t
    ·subst htk;have ez:=Option.some.inj (hx.symm.trans hz1);subst ez;rw[Nat.beq_refl,cond_true,hgn];rcases r4 with ⟨_,r4⟩ | ⟨_,_,r4,_⟩
     ·exact r4
     ·exact absurd (List.isEmpty_iff.1 hem) r4
    ·rw[beq_ne htk,cond_false];exact r4
   ·cases e;refine⟨hk,?_,?_,?_⟩
    ·simp
    ·rfl
    ·rw[hgn];exact⟨_,_,_,rfl⟩)
  have e1:(σ.objs++[OB.nilr]).set o (.hr i pa qb j xs (some (q.2.toNat,σ.objs.length)))=σ.objs.set o (.hr i pa qb j xs (some (q.2.toNat,σ.objs.length)))++[.nilr]:=List.set_append_left _ _ hlt;rw[e1] at ho2 K2;have K:=K1.trans (K2.less (by simp));refine⟨_,r.setObjsN K ho2,⟨rfl,rfl,rfl,fun _ _ _ h=>h,fun o' ho' hp=>?_,K⟩⟩;show(σ.objs.set o _++[.nilr])[o']?=_;rw[List.getElem?_append_left (by simpa using ho'),List.getElem?_set,if_neg];intro e1;subst e1;rw[hpr] at hp;cases hp
 ·cases h
theorem hcl_spec {F:Fr} {σ:AState} {γ:Gh} {a:Act} {w:World} {o:Nat} {b:Bool} {objs':List OB} (r:Rel F σ γ a w) (h:hclO σ o=some (b,objs')) (hb:b=true):Rel F { σ with objs:=objs' } γ a w∧Step σ γ w { σ with objs:=objs' } γ w:=by
 simp only[hclO,Option.bind_eq_some_iff,chk_some] at h;obtain⟨ob,hob,h⟩:=h;split at h
 ·rename_i i pa qb j xs k p;simp only[Option.bind_eq_some_iff] at h;obtain⟨ob2,hob2,h⟩:=h;split at h
  ·rename_i j' x;simp only[chk_some,Bool.not_eq_true',Bool.and_eq_true,Option.some.injEq,Prod.mk.injEq] at h;obtain⟨⟨hpr,hpr2,hjj⟩,rfl,rfl⟩:=h;obtain rfl:=Nat.eq_of_beq_eq_true hjj
   have hne:o≠p:=fun e=>by rw[e,hob2] at hob;cases hob
   obtain⟨us,g1,g2,g3⟩:=r.o.rep o _ hob;obtain⟨hk,hv⟩:=g3 k p rfl;have hpo:=r.o.rep p _ hob2;obtain⟨ho1,K1⟩:=retype (ob' := .dead) r.o hob2 rfl (fun _ _ _ e=>by cases e) trivial
   have hob1:(σ.objs.set p .dead)[o]?=some (.hr i pa qb j' xs (some (k,p))):=by rw[List.getElem?_set,if_neg (Ne.symm hne)];exact hob
   have hx:=qub (d:=dflt (eT pa qb)) hk;obtain⟨us1,g1',g2',_⟩:=ho1.rep o _ hob1;have hkid:KidI w (Imm (σ.objs.set p .dead) γ w) (x.getD []) (γ p).1:=by
    rcases hpo with ⟨rfl,h1⟩ | ⟨ks,us,rfl,h1,h2⟩
    ·rw[h1];exact .inl ⟨rfl,rfl⟩
    ·have hks:ks≠[]:=fun e=>by subst e;have h9:false=true:=hb;cases h9
     obtain⟨b',cap,c1,c2,c3,c4⟩:=h1.cells (fun hl=>hks (List.eq_nil_of_length_eq_zero hl));have hgb:(γ p).2=some b':=by
      cases hg:(γ p).2 with
      | none=>rw[hg] at c1;cases c1
      | some z=>rw[hg] at c1;simpa using c1
     have hmp:Mut σ.objs p:=⟨_,hob2,rfl⟩;refine .inr ⟨_,cap,hks,c2,c3,⟨r.o.lt p b' (qw hob2) hgb,r.o.up b' (r.o.own p b' hmp hgb),fun o' hm hb'=>?_,r.o.bo p b' hmp hgb⟩,?_⟩
     ·obtain⟨ob3,h3,h4⟩:=hm;rcases qbz h3 with ⟨_,_,rfl⟩ | ⟨hn,h3⟩
      ·cases h4
      ·have:=r.o.inj o' p b' ⟨_,h3,h4⟩ hmp hb' hgb;exact hn this
     ·have:=qtd h2;rw[this] at c4;exact c4
   obtain⟨ho2,K2⟩:=retype (ob' := .hr i pa qb j' (xs.set k ((getD' xs k (dflt (eT pa qb))).1,x.getD [],(getD' xs k (dflt (eT pa qb))).2.2)) none) ho1 hob1 rfl (fun _ _ _ e=>by cases e) (by
    refine⟨us1,by rw[List.length_set];exact g1',g2'.rel (by simp[qss]) fun t y y' c hy hy' hR=>?_,fun k r' e=>by cases e⟩;rw[qiM] at hy hy';obtain⟨z,hz1,rfl⟩:=Option.map_eq_some_iff.1 hy;obtain⟨c1,v,c2,rfl,r1,r2,r3,r4⟩:=hR;by_cases htk:k=t
    ·subst htk;have ez:=Option.some.inj (hx.symm.trans hz1);subst ez;rw[List.getElem?_set_self hk] at hy';cases hy';simp only[Option.map_some,hvAt,Nat.beq_refl,cond_true] at r4;refine⟨c1,v,c2,rfl,r1,r2,r3,?_⟩;rw[r4];exact hkid
    ·rw[List.getElem?_set_ne htk,hz1] at hy';cases hy';simp only[Option.map_some,hvAt,beq_ne htk,cond_false] at r4
     exact⟨c1,v,c2,rfl,r1,r2,r3,r4⟩)
   have e1:=List.set_comm (a:=OB.hr i pa qb j' (xs.set k ((getD' xs k (dflt (eT pa qb))).1,x.getD [],(getD' xs k (dflt (eT pa qb))).2.2)) none) (b:=OB.dead) (l:=σ.objs) hne;rw[←e1] at ho2 K2;have K:=K1.trans (K2.less (by simp));refine⟨r.setObjsN K ho2,⟨rfl,rfl,rfl,fun _ _ _ h=>h,fun o' ho' hp=>?_,K⟩⟩;show((σ.objs.set o _).set p .dead)[o']?=_;rw[List.getElem?_set_ne (fun e=>by rw[←e,hpr2] at hp;cases hp),List.getElem?_set_ne (fun e=>by rw[←e,hpr] at hp;cases hp)]
  ·cases h
 ·cases h
theorem qsE (hE:EnvOK P env) (hm:P.follows .mixedOrders=true):∀(n:Nat) (α:Type),RcOK P (den P env n α)∧RdOK P n (den P env n α):=by
 intro n
 induction n with
 | zero=>exact fun α=>⟨fun ann c σ K res h=>by simp[den] at h,fun b σ K res h=>by simp[den] at h⟩
 | succ n ih0 =>
  intro α;have ih:=fun α=>(ih0 α).1;refine⟨?_,fun b σ K res h F γ a w Q r hcl hp=>?_⟩
  case refine_2 =>
   simp only[den,denP] at h;rw[rounds_succ];refine ih α _ _ _ _ _ h F γ a w _ r hcl ⟨fun σ' γ' a' w' hk r' hc' s'=>?_,fun i σ' γ' a' w' hk r' hc' s'=>hp.x i σ' γ' a' w' hk r' hc' s',fun σ' γ' a' w' hk r' hc' s'=>hp.r σ' γ' a' w' hk r' hc' s'⟩;exact(ih0 α).2 _ _ _ _ hk F γ' a' w' Q r' hc' (hp.then s')
  intro ann c σ K res h F γ a w Q r hcl hp
  cases ann with
  | nil=>exact qbC hE hm (ih α) (ih0 α).2 h r hcl hp
  | two x y=>exact qbC hE hm (ih α) (ih0 α).2 h r hcl hp
  | own x=>exact qbC hE hm (ih α) (ih0 α).2 h r hcl hp
  | vw x=>exact qbC hE hm (ih α) (ih0 α).2 h r hcl hp
  | tail m x=>exact qbC hE hm (ih α) (ih0 α).2 h r hcl hp
  | any s g x=>exact qbC hE hm (ih α) (ih0 α).2 h r hcl hp
  | ord i u x y=>exact qbC hE hm (ih α) (ih0 α).2 h r hcl hp
  | alt x y=>exact qbC hE hm (ih α) (ih0 α).2 h r hcl hp
  | spl d x=>exact qbC hE hm (ih α) (ih0 α).2 h r hcl hp
  | sel o i x y =>
   simp only[den] at h;exact ih α _ _ _ _ _ h F γ a w Q r hcl hp
  | mbs o x1 x2 =>
   simp only[den,Option.bind_eq_some_iff] at h;obtain⟨ob,hob,h⟩:=h
   cases ob with
   | mbr i e y =>
    simp only[chk_some,Bool.not_eq_true'] at h;obtain⟨hpr,h⟩:=h;have key:∀ob':OB,(∀(i:TypeId) (e:Ty) (xs:List (D e)),ob' ≠ .arr i e xs true)→isAr ob'=false→ObR σ.objs γ w ob' (γ o)→Rel F { σ with objs:=σ.objs.set o ob' } γ a w∧Step σ γ w { σ with objs:=σ.objs.set o ob' } γ w:=fun ob' hnf hna hob'=>by
     obtain⟨q1,q2⟩:=retype r.o hob rfl hnf hob' hna;have s1:∀o',o'<σ.objs.length→bitB σ.prO o'=true→(σ.objs.set o ob')[o']?=σ.objs[o']?:=fun o' _ hp=>by
      rw[List.getElem?_set,if_neg];intro e1;subst e1;rw[hpr] at hp;cases hp
     exact⟨r.setObjsN q2 q1,⟨rfl,rfl,rfl,fun _ _ _ h=>h,s1,q2⟩⟩
    cases y with
    | none =>
     simp only[Option.elim_none] at h
     obtain⟨r1,s1⟩:=key .nilr (fun _ _ _ e=>by cases e) rfl (by
      rcases r.o.rep o _ hob with ⟨_,h1⟩ | ⟨_,_,h1,_⟩
      ·exact h1
      ·cases h1)
     exact ih α _ _ _ _ _ h F γ a w Q r1 hcl (hp.then s1)
    | some xs =>
     simp only[Option.elim_some] at h
     obtain⟨r1,s1⟩:=key (.arr i e xs false) (fun _ _ _ e=>by cases e) rfl (by
      rcases r.o.rep o _ hob with ⟨h1,_⟩ | ⟨xs',us,h1,h2,h3⟩
      ·cases h1
      ·cases h1;exact⟨us,h2,h3⟩)
     exact ih α _ _ _ _ _ h F γ a w Q r1 hcl (hp.then s1)
   | _=>simp at h
  | fra x =>
   simp only[den,Option.bind_eq_some_iff] at h;obtain⟨objs1,h1,h2⟩:=h;obtain⟨γ1,r1,s1⟩:=fra_spec r h1;exact ih α _ _ _ _ _ h2 F γ1 a w Q r1 hcl (hp.then s1)
  | hop o t x =>
   simp only[den,Option.bind_eq_some_iff,req_some] at h;obtain⟨⟨b,objs1⟩,h1,h2,h3⟩:=h;obtain⟨γ1,r1,s1⟩:=hop_spec r h1 h2;exact ih α _ _ _ _ _ h3 F γ1 a w Q r1 hcl (hp.then s1)
  | hcl o x =>
   simp only[den,Option.bind_eq_some_iff,req_some] at h;obtain⟨⟨b,objs1⟩,h1,h2,h3⟩:=h;obtain⟨r1,s1⟩:=hcl_spec r h1 h2;exact ih α _ _ _ _ _ h3 F γ a w Q r1 hcl (hp.then s1)
  | slk t x y =>
   simp only[den] at h;exact ih α _ _ _ _ _ h F γ a w Q r hcl hp
  | frz l x =>
   simp only[den,Option.bind_eq_some_iff] at h;obtain⟨objs1,h1,h2⟩:=h;obtain⟨f1,_⟩:=qar r.o h1;have s1:Step σ γ w { σ with objs:=objs1 } γ w:=⟨rfl,rfl,rfl,fun _ _ _ h=>h,fun o _ hp=>f1.prot o hp,f1.keep⟩;exact ih α _ _ _ _ _ h2 F γ a w Q (r.setObjs f1.keep f1.same f1.o) hcl (hp.then s1)
  | join s x =>
   simp only[den,chk_some,Option.bind_eq_some_iff] at h;obtain⟨hho,y,h1,h2⟩:=h;refine ih s.T _ _ _ _ _ h1 F γ a w Q r.enter hcl ⟨fun σ' γ' a' w' hk r' hc' s'=>?_,fun i σ' γ' a' w' hk=>(by cases hk),fun σ' γ' a' w' hk=>(by cases hk)⟩;obtain⟨γF,rF,cF,sF⟩:=qhd r hho r' s'.n (fun t ht e he=>(qh2 (s'.slots t e (by rw[AState.enter];exact(by rw[qdd,mask_bit.2 ht];simp)) he)).1) (fun o ho hl=>s'.objs o ho (by rw[AState.enter];exact(by rw[qdd,qlM ho hl];simp))) s'.keep hk;exact hp.n _ γF a' w' h2 rF cF sF
  | joinE s x =>
   simp only[den,chk_some,Option.bind_eq_some_iff] at h;obtain⟨hho,y,h1,h2⟩:=h
   cases y with
   | inl y =>
    refine ih (s.T ⊕ α) _ _ _ _ _ h1 F γ a w Q r.enter hcl ⟨fun σ' γ' a' w' hk r' hc' s'=>?_,fun i σ' γ' a' w' hk=>?_,fun σ' γ' a' w' hk=>?_⟩
    ·simp only[Option.map_eq_some_iff,Sum.inl.injEq,exists_eq_right] at hk;obtain⟨γF,rF,cF,sF⟩:=qhd r hho r' s'.n (fun t ht e he=>(qh2 (s'.slots t e (by rw[AState.enter];exact(by rw[qdd,mask_bit.2 ht];simp)) he)).1) (fun o ho hl=>s'.objs o ho (by rw[AState.enter];exact(by rw[qdd,qlM ho hl];simp))) s'.keep hk;exact hp.n _ γF a' w' h2 rF cF sF
    ·simp at hk
    ·simp at hk
   | inr y =>
    simp only[Sum.elim_inr,Option.some.injEq] at h2;subst h2;refine ih (s.T ⊕ α) _ _ _ _ _ h1 F γ a w Q r.enter hcl ⟨fun σ' γ' a' w' hk r' hc' s'=>?_,fun i σ' γ' a' w' hk r' hc' s'=>?_,fun σ' γ' a' w' hk r' hc' s'=>?_⟩
    ·simp at hk
    ·simp only[Option.map_eq_some_iff,Sum.inr.injEq,exists_eq_right] at hk;exact hp.x i _ γ' a' w' hk r'.leave hc' s'.leave
    ·simp only[Option.map_eq_some_iff,Sum.inr.injEq,exists_eq_right] at hk;exact hp.r _ γ' a' w' hk r'.leave hc' s'.leave
  | loop s x =>
   cases c with
   | loop b =>
    simp only[den,chk_some,Option.bind_eq_some_iff] at h;obtain⟨hho,x0,h1,h2⟩:=h;obtain⟨N,h3⟩:=qvE h2;refine wp_loop_rounds N ?_;obtain⟨γ0,r0,c0,s0⟩:=qhd r hho r rfl (fun t ht e he=>(qh2 he).1) (fun o ho hl=>rfl) (Keep.refl _ _ _) h1;clear h1 h2
    have key:∀(N:Nat) (y:s.T) (γ1:Gh) (a1:Act) (w1:World),iterN (fun x_1=>den P env n (s.T ⊕ α) x b ((conc s σ x_1).enter s σ.objs.length) ⟨fun σ'=>Option.map Sum.inl (absT s σ.objs.length σ'),fun i σ'=>Option.map Sum.inr (K.x i (σ'.leave σ)),fun σ'=>Option.map Sum.inr (K.r (σ'.leave σ))⟩) N y=some res →
      Rel F (conc s σ y) γ1 a1 w1→Cl (conc s σ y)→Step σ γ w (conc s σ y) γ1 w1→Code.rounds P b Q N a1 w1:=by
     intro N
     induction N with
     | zero=>intro y γ1 a1 w1 h;simp[iterN] at h
     | succ N ihN =>
      intro y γ1 a1 w1 h r1 c1 s1;rw[rounds_succ];simp only[iterN] at h;have hkeep:∀t∈s.keep,∀e,kf σ.slots t=some e→kf (conc s σ y).slots t=some e:=fun t ht e he=>by
       have hh:=hho;simp only[qkt,Bool.and_eq_true,List.all_eq_true,Bool.not_eq_true'] at hh;obtain⟨⟨⟨hpm,hsl⟩,hndo,hol⟩,hg0,hkn0⟩:=hh;obtain⟨k1,k2,k3⟩:=qh2 he;refine kf_of ?_ k2 k3;unfold conc
       rw[(qgA s.slots y.1 _).2.2.2.2.2.2.2 t (fun q hq e1=>by
        have:=(hsl q hq).1;rw[e1,memN_spec.2 ht] at this
        cases this)]
       show get (keepF σ.slots s.keep) t=some e;rw[qnz ht];exact he
      have hobj:∀o,o<σ.objs.length→listed o s.objs=false→(conc s σ y).objs[o]?=σ.objs[o]?:=fun o ho hl=>by
       unfold conc;rw[(qgA s.slots y.1 _).2.1 o (Nat.lt_of_lt_of_le ho (qaI s.objs y.2 σ.objs))];exact qB s.objs y.2 σ.objs o ho hl
      have hlen:σ.objs.length≤(conc s σ y).objs.length:=s1.len;split at h
      ·cases h
      ·rename_i z hz;refine ih (s.T ⊕ α) _ _ _ _ _ hz F γ1 a1 w1 _ r1.enter c1 ⟨fun σ' γ' a' w' hk r' hc' s'=>?_,fun i σ' γ' a' w' hk=>?_,fun σ' γ' a' w' hk=>?_⟩
       ·simp only[Option.map_eq_some_iff,Sum.inl.injEq,exists_eq_right] at hk;obtain⟨γF,rF,cF,sF⟩:=qhd r hho r' (s'.n.trans s1.n) (fun t ht e he=>(qh2 (s'.slots t e (by rw[AState.enter];exact(by rw[qdd,mask_bit.2 ht];simp)) (hkeep t ht e he))).1)
         (fun o ho hl=>(s'.objs o (Nat.lt_of_lt_of_le ho hlen) (by rw[AState.enter];exact(by rw[qdd,qlM ho hl];simp))).trans (hobj o ho hl)) (s1.keep.trans (s'.keep.less hlen)) hk
        exact ihN z γF a' w' h rF cF sF
       ·simp at hk
       ·simp at hk
      ·rename_i z hz;cases h;refine ih (s.T ⊕ α) _ _ _ _ _ hz F γ1 a1 w1 _ r1.enter c1 ⟨fun σ' γ' a' w' hk r' hc' s'=>?_,fun i σ' γ' a' w' hk r' hc' s'=>?_,fun σ' γ' a' w' hk r' hc' s'=>?_⟩
       ·simp at hk
       ·simp only[Option.map_eq_some_iff,Sum.inr.injEq,exists_eq_right] at hk;refine hp.x i _ γ' a' w' hk r'.leave hc' (s1.trans ?_);have s2:=s'.leave;exact⟨s2.n,s1.prS.symm,s1.prO.symm,s2.slots,s2.objs,s2.keep⟩
       ·simp only[Option.map_eq_some_iff,Sum.inr.injEq,exists_eq_right] at hk;refine hp.r _ γ' a' w' hk r'.leave hc' (s1.trans ?_);have s2:=s'.leave;exact⟨s2.n,s1.prS.symm,s1.prO.symm,s2.slots,s2.objs,s2.keep⟩
    exact key N x0 γ0 a w h3 r0 c0 s0
   | _=>simp[den] at h
end
end Go.Den
namespace Go.Den
open Go.Eng (qas CellsAt Chg InR adr aggOf)
set_option linter.unusedVariables false
set_option linter.unusedSectionVars false
set_option linter.unusedSimpArgs false
variable [CT : Ctx]

section
variable {P : Program} {env : Env} [DqAll P]

def Ty.nref:Ty→Bool
 | .ref=>false
 | .sl e=>e.nref
 | .osl _ e=>e.nref
 | .obx e=>e.nref
 | .onl _ e=>e.nref
 | .hrl _ p q _ _=>p.nref&&q.nref
 | .st f r=>f.nref&&r.nref
 | _=>true
theorem qbU {w:World} {p:Nat→Prop} {m m':Nat→Option Value}:∀(τ:Ty) {x:D τ} {M:List Nat} {cs:List Value},τ.nref=true→Rep w ⟨p,m⟩ τ x M cs→Rep w ⟨p,m'⟩ τ x M cs
 | .int _,_,_,_,_,h=>h
 | .bool,_,_,_,_,h=>h
 | .str,_,_,_,_,h=>h
 | .nil,_,_,_,_,h=>h
 | .ref,_,_,_,hn,_=>by cases hn
 | .sl e,xs,M,cs,hn,h=>by
  obtain⟨hM,ao,cap,us,h1,h2,h3,h4⟩:=h;exact⟨hM,ao,cap,us,h1,h2,h3.mono fun x c hx=>qbU e hn hx,h4⟩
 | .osl i e,xs,M,cs,hn,h=>by
  obtain⟨v,us,h1,h2,h3⟩:=h;exact⟨v,us,h1,h2,h3.mono fun x c hx=>qbU e hn hx⟩
 | .obx e,x,M,cs,hn,h=>by
  obtain⟨b,M',T,cells,h1,h2,h3,h4⟩:=h;exact⟨b,M',T,cells,h1,h2,h3,qbU e hn h4⟩
 | .onl i e,x,M,cs,hn,h=>by
  rcases h with h | ⟨xs,v,us,h0,h1,h2,h3⟩
  ·exact .inl h
  ·exact .inr ⟨xs,v,us,h0,h1,h2,h3.mono fun x c hx=>qbU e hn hx⟩
 | .hrl i p q j b,x,M,cs,hn,h=>by
  simp only[Ty.nref,Bool.and_eq_true] at hn;obtain⟨v,us,b1,b2,h,e1,e2,h1,h2,h3⟩:=h;exact⟨v,us,b1,b2,h,e1,e2,h1,h2.mono (ElR.mono (fun x c hx=>qbU p hn.1 hx) (fun x c hx=>qbU q hn.2 hx) fun ks v hk=>hk),h3⟩
 | .err,_,_,_,_,h=>h
 | .bld t i,xs,M,cs,_,h=>h
 | .ifc _ _,_,_,_,_,h=>h
 | .omp _ _,_,_,_,_,h=>h
 | .st f r,x,M,cs,hn,h=>by
  simp only[Ty.nref,Bool.and_eq_true] at hn;obtain⟨c1,c2,M1,M2,h1,h2,h3,h4⟩:=h;exact⟨c1,c2,M1,M2,h1,h2,qbU f hn.1 h3,qbU r hn.2 h4⟩
theorem qqP {w:World} {p:Nat→Prop} {m m':Nat→Option Value}:∀ {ps:List Ty} {x:DL ps} {vs:List Value},ps.all Ty.nref=true→ArgsR w ⟨p,m⟩ ps x vs→ArgsR w ⟨p,m'⟩ ps x vs
 | [],_,_,_,h=>h
 | τ::r,x,_,hn,⟨v,q,e,⟨cs,h1,h2⟩,h3⟩=>by
  simp only[List.all_cons,Bool.and_eq_true] at hn;exact⟨v,q,e,⟨cs,qbU τ hn.1 h1,h2⟩,qqP hn.2 h3⟩
theorem qfA {objs:List OB} {γ:Gh} {w:World} {S:Sp} (hS:Sp.le S (Imm objs γ w)):∀ {ps:List Ty} {x:DL ps} {vs:List Value},ArgsR w S ps x vs→PRL objs γ w (qfP ps x) vs
 | [],_,_,h=>h
 | τ::r,x,_,⟨v,q,e,⟨cs,h1,h2⟩,h3⟩=>by
  refine⟨v,q,e,?_,qfA hS h3⟩;have:=qJ τ (Rep.mono hS (fun _ _=>rfl) τ h1 (by simp));rw[h2];exact qdh (qcV τ x.1) this
theorem qcn:∀(ps:List Ty) (x:DL ps),(qfP ps x).length=ps.length
 | [],_=>rfl
 | _::r,x=>by simp[qfP,qcn r x.2]
theorem qfi {objs:List OB} {γ:Gh} {w:World} {σ:AState} (hσ:σ.objs=objs):∀ {vs:List PV} {ts:List Ty} {cs:List Cv} {vals:List Value},qej vs ts=some cs→PRL objs γ w vs vals→∃cells,VRL objs γ w cs cells∧tupV ts cells=vals∧vals.length=ts.length
 | [],[],cs,vals,h,hv=>by
  simp only[qej,Option.some.injEq] at h;subst h;simp only[PRL] at hv;subst hv;exact⟨[],rfl,rfl,rfl⟩
 | v::vs,τ::ts,cs,vals,h,⟨u,q,e,h1,h2⟩=>by
  simp only[qej,Option.bind_eq_some_iff,chk_some,Bool.and_eq_true,Option.some.injEq] at h;obtain⟨l,h3,⟨h4,h5⟩,q2,h6,rfl⟩:=h;subst hσ;have hvl:=qcc h3 h1
  have hl:u.cells.toList.length=τ.size:=by rw[hvl.length];exact Nat.eq_of_beq_eq_true h4
  obtain⟨cells,h7,h8,h9⟩:=qfi rfl h6 h2;refine⟨u.cells.toList++cells,hvl.append h7,?_,by simp[e,h9]⟩;simp only[tupV];rw[←hl,List.take_left,List.drop_left,h8,e,←qnT h3 h5 h1]
 | [],_::_,_,_,h,_=>by simp[qej] at h
 | _::_,[],_,_,h,_=>by simp[qej] at h
theorem qof:∀(b:Bool) (ps:List Ty) (x:DL ps),(qpw b ps x).length≤ps.length
 | false,ps,x=>Nat.le_of_eq (qcn ps x)
 | true,[],_=>Nat.le_refl _
 | true,_::r,x=>by simp[qpw,qcn r x.2]
theorem qrO {objs:List OB} {γ:Gh} {w:World} {S:Sp} (hS:Sp.le S (Imm objs γ w)) {b:Bool} {ps:List Ty} {x:DL ps} {vs:List Value} (h:ArgsB w S b ps x vs):PRL objs γ w (qpw b ps x) vs:=by
 cases b with
 | false=>exact qfA hS h
 | true =>
  cases ps with
  | nil=>exact h.elim
  | cons τ r =>
   obtain⟨a,us,q,e,h1,h2,h3,h4,h5⟩:=h;exact⟨_,q,e,⟨a,us,rfl,h1,fun hne=>hS _ (h2 hne),h3,qJ τ (Rep.mono hS (fun _ _=>rfl) τ h4 (by simp))⟩,qfA hS h5⟩
theorem quE (hE:EnvOK P env) (hm:P.follows .mixedOrders=true) {f:FuncId} {fn:Func} (hf:P.funcs[f]?=some fn) {body:Code} (hb:fn.body=some body) (c:Con) (ann:Ann) (hone:(c.one || !Nat.beq c.res.length 1)=true) (hnr:c.ρ.nref=true)
  {w:World} {S:Sp} {args:Array Value} {r:D c.ρ} {objs0:List OB} {pvs:List PV} {γ:Gh} (hγS:γ.S=fun k=>S k∨w.heap.size≤k) (hor:ORel ⟨w,[]⟩ objs0 γ w) (hv:PRL objs0 γ w pvs args.toList) (hn:pvs.length≤fn.ntmps)
  (hr:den P env 10000 (D c.ρ) ann body ⟨fn.ntmps,qbi 0 pvs,objs0,0,0,0,[]⟩ ⟨retK P fn c.one c.res c.ρ,fun _ _=>none,retK P fn c.one c.res c.ρ⟩=some r) :
  Calls P f args w (fun e w'=>∃v,e = .returned v∧Chg [] w w'∧ResR w w' S c r v):=by
 have r00:Rel ⟨w,[]⟩ ⟨0,[],objs0,0,0,0,[]⟩ γ { tmps:=#[],defers:=[] } w:=⟨rfl,fun d hd=>(by cases hd),fun t tg pv h=>by simp[get] at h,fun t tg pv h=>by simp[get] at h,fun t tg pv h=>by simp[get] at h,fun x hx=>(by cases hx),hor⟩;have r0:=ql8 (n:=fn.ntmps) r00 hv hn
 have hlast:∀σ' γ' a' w',retK P fn c.one c.res c.ρ σ'=some r→Rel ⟨w,[]⟩ σ' γ' a' w'→Step ⟨fn.ntmps,qbi 0 pvs,objs0,0,0,0,[]⟩ γ w σ' γ' w' →
   ∃v,(results fn a'.tmps).run P w' = .ok v w'∧∃v2,Ending.returned v = .returned v2∧Chg [] w w'∧ResR w w' S c r v2:=by
  intro σ' γ' a' w' hk r' s';simp only[retK,Option.bind_eq_some_iff] at hk;obtain⟨vs,h1,cs,h2,h3⟩:=hk;obtain⟨vals,h4,h5,h6⟩:=qeL (P:=P) r' h1;refine⟨_,qhV h5 h6,_,rfl,r'.o.chg,?_⟩;obtain⟨cells,h7,h8,h9⟩:=qfi rfl h2 h4;simp only[retD,chk_some,Bool.and_eq_true,List.all_eq_true,Bool.not_eq_true'] at h3;obtain⟨⟨hnd,hdis⟩,h10⟩:=h3;have hmut:=(qaS (S:=⟨fun _=>True,γ'.m⟩) r'.o ⟨fun _ _=>trivial,fun _ _ h=>h⟩ c.ρ h10 h7 (fun _ _ _ _=>trivial)).2;have hSeq:γ'.S=fun k=>S k∨w.heap.size≤k:=s'.keep.s.trans hγS;have hMmem:∀b∈blocks γ' (idsO σ'.objs c.ρ cs),∃o∈idsO σ'.objs c.ρ cs,(γ' o).2=some b:=fun b hb=>by
   obtain⟨o,ho,hb'⟩:=List.mem_flatMap.1 hb;exact⟨o,ho,by simpa using hb'⟩
  have hrep:=(qaS (S:=⟨fun k=>k<w'.heap.size∧(S k∨w.heap.size≤k)∧k∉blocks γ' (idsO σ'.objs c.ρ cs),γ'.m⟩) r'.o ⟨fun k hk=>⟨hk.lt,by have:=hk.s;rw[hSeq] at this;exact this,fun hm=>by
   obtain⟨o,ho,hb⟩:=hMmem k hm
   exact hk.own o (hmut o ho) hb⟩,fun _ _ h=>h⟩ c.ρ h10 h7 (fun o ho b hb=>by
   have hdo:=qgg c.ρ h10 ho
   have hlto:o<σ'.objs.length:=by rcases hdo with ⟨_,_,_,h⟩ | ⟨_,h,_⟩<;>exact qw h
   have hnm:b∉blocks γ' (idsO σ'.objs c.ρ cs):=fun hm=>by
    obtain⟨o',ho',hb'⟩:=hMmem b hm;rcases hdo with ⟨i,e,xs,hob⟩ | ⟨ob,hob,hdb⟩
    ·exact(r'.o.frz o i e xs b hob hb).own o' (hmut o' ho') hb'
    ·have e1:=r'.o.inj o o' b ⟨_,hob,qjG hdb⟩ (hmut o' ho') hb hb';subst e1;have:=hdis o ho;rw[memN_spec.2 ho'] at this;cases this
   refine⟨r'.o.lt o b hlto hb,?_,hnm⟩;rcases hdo with ⟨i,e,xs,hob⟩ | ⟨ob,hob,hdb⟩
   ·have:=(r'.o.frz o i e xs b hob hb).s;rw[hSeq] at this;exact this
   ·rcases r'.o.own o b ⟨_,hob,qjG hdb⟩ hb with h11 | h11
    ·exact .inr h11
    ·cases h11)).1
  refine⟨_,cells,qc3 r'.o (qcR hnd) hmut,fun b hb=>?_,qbU c.ρ hnr hrep,?_⟩
  ·obtain⟨o,ho,hb'⟩:=hMmem b hb;rcases r'.o.own o b (hmut o ho) hb' with h11 | h11
   ·exact h11
   ·cases h11
  ·unfold resV
   cases hc1:c.one with
   | true =>
    rw[hc1] at h8 h9;simp only[qph,cond_true,tupV] at h8;rw[←h8]
    have hl:cells.length=c.ρ.size:=by rw[Rep.length c.ρ hrep]
    rw[←hl,List.take_length];rfl
   | false =>
    rw[hc1] at h8 h9 hone;simp only[qph,cond_false] at h8 h9;simp only[Bool.false_or,Bool.not_eq_true'] at hone;rw[h8]
    have hne:vals.length≠1:=fun e=>by rw[←h9,e] at hone;cases hone
    match vals,hne with
    | [],_=>rfl
    | [_],hne=>exact absurd rfl hne
    | _::_::_,_=>rfl
 have:=(qsE hE hm 10000 (D c.ρ)).1 ann body _ _ r hr ⟨w,[]⟩ γ _ w (bodyPostD P fn fun e w'=>∃v,e = .returned v∧Chg [] w w'∧ResR w w' S c r v) r0 ⟨rfl,rfl⟩
  ⟨fun σ' γ' a' w' hk r' _ s'=>qdD r'.defers fun w'' hch=>hlast σ' γ' a' w'' hk (r'.ext hch) (s'.trans (Step.ext hch)),fun i σ' γ' a' w' hk=>(by cases hk),fun σ' γ' a' w' hk r' _ s'=>qdD r'.defers fun w'' hch=>hlast σ' γ' a' w'' hk (r'.ext hch) (s'.trans (Step.ext hch))⟩
 have hcalls:=calls_of_wp_defers (args:=args) hf hb (by simpa using this);exact hcalls
theorem qs6 (hE:EnvOK P env) (hm:P.follows .mixedOrders=true) {f:FuncId} {fn:Func} (hf:P.funcs[f]?=some fn) (b:Bool) (c:Con) (ann:Ann)
  (hok:(fn.body.isSome&&(Nat.ble c.ps.length fn.ntmps&&(c.ps.all Ty.pure&&((c.one || !Nat.beq c.res.length 1)&&c.ρ.nref))))=true) (hwf:c.one=false→c.ρ=stOf c.res) (htt:∀g,c.tot=some g→∀x,c.φ x=some (g x))
  (h:∀x,c.φ x=denB P env ann fn b c.ps c.one c.res c.ρ x):ConB P f b c:=by
 simp only[Bool.and_eq_true] at hok;obtain⟨hbody,hn,hpure,hone,hnr⟩:=hok;have hn:=Nat.le_of_ble_eq_true hn;refine⟨hpure,hwf,htt,fun w S args x r hS hTab hargs hr=>?_⟩;obtain⟨body,hb⟩:=Option.isSome_iff_exists.1 hbody
 have hbo:Eng.bodyOf fn=body:=by simp[Eng.bodyOf,hb]
 rw[h x] at hr;unfold denB at hr;rw[hbo] at hr
 let γ:Gh:=⟨fun _=>(undef,none),fun k=>S k∨w.heap.size≤k,S.m,[],fun _ _=>none⟩
 have hSI:Sp.le S (Imm [] γ w):=⟨fun k hk=>⟨hS k hk,.inl hk,fun o hm=>by obtain⟨ob,h1,_⟩:=hm;simp at h1,fun h=>(nomatch h)⟩,fun _ _ h=>h⟩
 have hor:ORel ⟨w,[]⟩ [] γ w:=⟨fun o ob ho=>by simp at ho,fun o o' b hm=>by obtain⟨ob,h1,_⟩:=hm;simp at h1,fun o b hm=>by obtain⟨ob,h1,_⟩:=hm;simp at h1,fun o b ho=>by simp at ho,Chg.refl _ _,fun o i e xs b ho=>by simp at ho,
  fun k hk => .inr (hk.elim id (fun h=>nomatch h)),hTab.mono hSI (fun _ _=>rfl),fun k h=>(nomatch h),fun o b hm=>by obtain⟨ob,h1,_⟩:=hm;simp at h1,fun o t p ow xs lent ho=>by simp at ho⟩
 exact quE hE hm hf hb c ann (by simpa using hone) hnr (γ:=γ) rfl hor (qrO hSI hargs) (Nat.le_trans (qof b c.ps x) hn) hr
theorem qtj (hE:EnvOK P env) (hm:P.follows .mixedOrders=true) {f:FuncId} {fn:Func} (hf:P.funcs[f]?=some fn) (c:Con) (nd:TypeId×Ty×Option TypeId) (ann:Ann)
  (hok:(fn.body.isSome&&(Nat.ble c.ps.length fn.ntmps&&(c.ps.all Ty.pure&&((c.one || !Nat.beq c.res.length 1)&&(c.ρ.nref&&c.ps.all Ty.nref)))))=true) (hwf:c.one=false→c.ρ=stOf c.res) (htt:∀g,c.tot=some g→∀x,c.φ x=some (g x))
  (h:∀x,c.φ x=denA P env ann fn nd c.ps c.one c.res c.ρ x):ConOK P f c:=by
 simp only[Bool.and_eq_true] at hok;obtain⟨hbody,hn,hpure,hone,hnr,hnp⟩:=hok;have hn:=Nat.le_of_ble_eq_true hn;refine⟨hpure,hwf,htt,fun w S args x r hS hTab hargs hr=>?_⟩;obtain⟨body,hb⟩:=Option.isSome_iff_exists.1 hbody
 have hbo:Eng.bodyOf fn=body:=by simp[Eng.bodyOf,hb]
 rw[h x] at hr;unfold denA at hr;rw[hbo] at hr
 let γ:Gh:=⟨fun _=>(undef,none),fun k=>S k∨w.heap.size≤k,fun _=>none,[],fun _ _=>none⟩
 have hnm:∀o,¬Mut [OB.ar nd.1 nd.2.1 nd.2.2 [] none] o:=fun o hm=>by
  obtain⟨ob,h1,h2⟩:=hm
  match o,h1 with
  | 0,h1=>cases h1;cases h2
  | n+1,h1=>simp at h1
 have hSI:Sp.le ⟨S.p,fun _=>none⟩ (Imm [OB.ar nd.1 nd.2.1 nd.2.2 [] none] γ w):=⟨fun k hk=>⟨hS k hk,.inl hk,fun o hm=>absurd hm (hnm o),fun h=>(nomatch h)⟩,fun _ _ h=>h⟩;have hget:∀(o:Nat) (ob:OB),([OB.ar nd.1 nd.2.1 nd.2.2 [] none]:List OB)[o]?=some ob→ob=OB.ar nd.1 nd.2.1 nd.2.2 [] none:=fun o ob ho=>by
  cases o with
  | zero=>simpa using ho.symm
  | succ n=>simp at ho
 have hor:ORel ⟨w,[]⟩ [OB.ar nd.1 nd.2.1 nd.2.2 [] none] γ w:=⟨fun o ob ho=>by rw[hget o ob ho];rfl,fun o o' b hm=>absurd hm (hnm o),fun o b hm=>absurd hm (hnm o),fun o b _ hb=>(by cases hb),Chg.refl _ _,fun o i e xs b ho=>(by cases hget o _ ho),
  fun k hk => .inr (hk.elim id (fun h=>nomatch h)),hTab.mono hSI (fun _ _=>rfl),fun k h=>(nomatch h),fun o b hm=>absurd hm (hnm o),fun o t p ow xs lent ho=>by
   cases hget o _ ho
   exact⟨[],[],ArW.mk rfl rfl rfl (fun _=>rfl) List.nodup_nil (fun i q x h h1=>by simp at h1),fun k h=>(nomatch h),fun i v h=>by simp at h,fun _ _=>rfl⟩⟩
 exact quE hE hm hf hb c ann (by simpa using hone) hnr (γ:=γ) rfl hor (qfA hSI (qqP (m:=S.m) hnp hargs)) (Nat.le_trans (Nat.le_of_eq (qcn c.ps x)) hn) hr
theorem qa (hE:EnvOK P env) (hm:P.follows .mixedOrders=true) {f:FuncId} {fn:Func} (hf:P.funcs[f]?=some fn) (c:Con) (ann:Ann)
  (hok:(fn.body.isSome&&(Nat.ble c.ps.length fn.ntmps&&(c.ps.all Ty.pure&&((c.one || !Nat.beq c.res.length 1)&&c.ρ.nref))))=true) (hwf:c.one=false→c.ρ=stOf c.res) (htt:∀g,c.tot=some g→∀x,c.φ x=some (g x))
  (h:∀x,c.φ x=denF P env ann fn c.ps c.one c.res c.ρ x):ConOK P f c:=(qs6 hE hm hf false c ann hok hwf htt h).ok
theorem qqF {T α:Type} {G:(T→Option α)→T→Option α} {x:T} {r:α} (h:fixW G x=some r):∃n,fixN G n x=some r:=by
 unfold fixW at h;split at h
 ·exact⟨_,h⟩
 ·cases h
theorem con_fix {f:FuncId} {ps:List Ty} {one:Bool} {rs:List Ty} {ρ:Ty} {G:(DL ps→Option (D ρ))→DL ps→Option (D ρ)} (hpure:ps.all Ty.pure=true) (hwf:one=false→ρ=stOf rs)
  (h:∀φ,ConOK P f ⟨ps,one,rs,ρ,φ,none⟩→ConOK P f ⟨ps,one,rs,ρ,G φ,none⟩):ConOK P f ⟨ps,one,rs,ρ,fixW G,none⟩:=by
 have key:∀n,ConOK P f ⟨ps,one,rs,ρ,fixN G n,none⟩:=by
  intro n
  induction n with
  | zero=>exact⟨hpure,hwf,fun g hg=>(by cases hg),fun w S args x r _ _ _ hr=>by simp[fixN] at hr⟩
  | succ n ih=>exact h _ ih
 exact⟨hpure,hwf,fun g hg=>(by cases hg),fun w S args x r hS hTab ha hr=>by
  obtain⟨n,hn⟩:=qqF hr
  exact(key n).calls w S args x r hS hTab ha hn⟩
end

def tyE:Eng.Ty→Ty
 | .int k => .int k
 | .bool => .bool
 | .str => .str
 | .sl e => .sl (tyE e)
 | .nil => .nil
 | .st f r => .st (tyE f) (tyE r)
def dE:(τ:Eng.Ty)→Eng.D τ→D (tyE τ)
 | .int _,n=>n
 | .bool,b=>b
 | .str,s=>s
 | .sl e,(_,_,xs)=>xs.map (dE e)
 | .nil,_=>()
 | .st f r,(x,y)=>(dE f x,dE r y)
def RngL {A:Type} (m:Nat) (R:A→Prop) (xs:List A):Prop:=xs.length≤m∧∀x∈xs,R x
def Rng:(τ:Ty)→D τ→Prop
 | .int k,n=>InR k n
 | .bool,_=>True
 | .str,s=>s.size≤maxLen
 | .sl e,xs=>RngL maxLen (Rng e) xs
 | .osl _ e,xs=>RngL maxLen (Rng e) xs
 | .obx e,x=>Rng e x
 | .onl _ _,_=>True
 | .hrl _ _ _ _ _,_=>True
 | .err,_=>True
 | .bld _ _,_=>True
 | .nil,_=>True
 | .ref,_=>True
 | .ifc _ _,_=>True
 | .omp _ _,_=>True
 | .st f r,x=>Rng f x.1∧Rng r x.2
def posE:Eng.Ty→Bool
 | .sl e=>!Nat.beq e.size 0&&posE e
 | .st f r=>posE f&&posE r
 | _=>true
theorem rng_of:∀(τ:Eng.Ty) {y:Eng.D τ} {w:World},Eng.Ok w τ y→Rng (tyE τ) (dE τ y)
 | .int _,_,_,h=>h
 | .bool,_,_,_=>trivial
 | .str,_,_,h=>h
 | .nil,_,_,_=>trivial
 | .sl e,(ao,cap,xs),w,h=>by
  obtain⟨h1,h2,h3⟩:=h;refine⟨by simp only[dE,List.length_map];omega,fun x hx=>?_⟩;obtain⟨y,hy,rfl⟩:=List.mem_map.1 hx;obtain⟨i,hi,rfl⟩:=List.mem_iff_getElem.1 hy;exact rng_of e (h3 i hi).2.2
 | .st f r,(x,y),w,h=>⟨rng_of f h.1,rng_of r h.2⟩
theorem quA:∀(τ:Eng.Ty) {y:Eng.D τ} {w:World},posE τ=true→Eng.Ok w τ y→Rep w ⟨fun k=>k<w.heap.size,fun _=>none⟩ (tyE τ) (dE τ y) [] (Eng.enc τ y)
 | .int _,_,_,_,h=>⟨rfl,rfl⟩
 | .bool,_,_,_,_=>⟨rfl,rfl⟩
 | .str,_,_,_,h=>⟨rfl,rfl⟩
 | .nil,_,_,_,_=>⟨rfl,rfl⟩
 | .sl e,(ao,cap,xs),w,hp,h=>by
  simp only[posE,Bool.and_eq_true,Bool.not_eq_true'] at hp;obtain⟨h1,h2,h3⟩:=h;have hpos:0<e.size:=by
   rcases Nat.eq_zero_or_pos e.size with h0 | h0
   ·rw[h0] at hp;cases hp.1
   ·exact h0
  refine⟨rfl,ao,cap,(xs.map (Eng.enc e)).flatten,by simp[dE,Eng.enc],by simpa[dE] using h1,?_,fun hne=>?_⟩
  ·clear h1 h2;have:∀(l:List (Eng.D e)),(∀x∈l,Eng.Ok w e x)→RepL (fun x c=>Rep w ⟨fun k=>k<w.heap.size,fun _=>none⟩ (tyE e) x [] c) (l.map (dE e)) (l.map (Eng.enc e)).flatten:=by
    intro l
    induction l with
    | nil=>intro _;rfl
    | cons x l ih=>intro hl;exact⟨_,_,rfl,quA e hp.2 (hl x List.mem_cons_self),ih fun y hy=>hl y (List.mem_cons_of_mem _ hy)⟩
   exact this xs fun x hx=>by
    obtain⟨i,hi,rfl⟩:=List.mem_iff_getElem.1 hx;exact(h3 i hi).2.2
  ·have hx:xs≠[]:=fun e=>hne (by subst e;rfl);have hl0:0<xs.length:=List.length_pos_iff.2 hx;have hs:=(h3 0 hl0).1;obtain⟨ad,rfl⟩:=Option.isSome_iff_exists.1 hs;have hcells:CellsAt w ad (xs.map (Eng.enc e)).flatten:=by
    intro j v hv;have key:∀(l:List (Eng.D e)) (j:Nat) (v:Value),((l.map (Eng.enc e)).flatten)[j]?=some v→∃i,∃hi:i<l.length,∃m,j=i*e.size+m∧(Eng.enc e l[i])[m]?=some v:=by
     intro l
     induction l with
     | nil=>intro j v h;simp at h
     | cons x l ih =>
      intro j v h;simp only[List.map_cons,List.flatten_cons] at h;by_cases hj:j<(Eng.enc e x).length
      ·rw[List.getElem?_append_left hj] at h;exact⟨0,by simp,j,by simp,h⟩
      ·rw[List.getElem?_append_right (by omega)] at h;obtain⟨i,hi,m,h4,h5⟩:=ih _ v h;rw[Eng.enc_length] at h4 hj;refine⟨i+1,by simpa using hi,m,?_,by simpa using h5⟩;rw[Nat.add_mul];omega
    obtain⟨i,hi,m,rfl,h5⟩:=key xs j v hv;have:=(h3 i hi).2.1 m v h5;rw[←qsX];exact this
   refine⟨ad,rfl,?_,hcells⟩;obtain⟨v,hv⟩:∃v,(Eng.enc e xs[0])[0]?=some v:=⟨_,List.getElem?_eq_getElem (Nat.lt_of_lt_of_le hpos (Nat.le_of_eq (Eng.enc_length e xs[0]).symm))⟩;have:=(h3 0 hl0).2.1 0 v hv;have hb:=World.block_lt_of_cell? w _ this;rw[Eng.add_block,Eng.add_block] at hb;exact hb
 | .st f r,(x,y),w,hp,h=>by
  simp only[posE,Bool.and_eq_true] at hp;exact⟨_,_,[],[],rfl,rfl,quA f hp.1 h.1,quA r hp.2 h.2⟩
theorem arg_of (τ:Eng.Ty) {y:Eng.D τ} {w:World} (hp:posE τ=true) (h:Eng.Ok w τ y):ArgR w ⟨fun k=>k<w.heap.size,fun _=>none⟩ (tyE τ) (dE τ y) (Eng.handV τ y):=by
 refine⟨_,quA τ hp h,?_⟩
 cases τ with
 | sl e=>obtain⟨ao,cap,xs⟩:=y;rfl
 | _=>rfl
theorem law_call {P:Program} {f:FuncId} {ps:List Ty} {φ:DL ps→Option Bool} {t:Option (DL ps→Bool)} (hc:ConOK P f ⟨ps,true,[],.bool,φ,t⟩) {w:World} {args:Array Value} {x:DL ps} (hT:TabR (fun k=>k<w.heap.size) w) (ha:ArgsR w ⟨fun k=>k<w.heap.size,fun _=>none⟩ ps x args.toList) (ht:φ x=some true) :
  Calls P f args w fun e w'=>e = .returned (.bool true)∧RowKit.Below w.heap.size w w':=by
 refine(hc.calls w _ args x true (fun _ h=>h) hT ha ht).mono fun e w' hh=>?_;obtain⟨v,rfl,hch,M,cs,_,_,hrep,hv⟩:=hh;refine⟨?_,hch.toBelow⟩;obtain⟨_,rfl⟩:M=[]∧cs=[.bool true]:=hrep;rw[hv];rfl
end Go.Den
namespace Go.Den
open Go.Eng (qas CellsAt Chg InR adr aggOf)
set_option linter.unusedVariables false
set_option linter.unusedSectionVars false
set_option linter.unusedSimpArgs false
variable [CT : Ctx]

section
variable {P : Program} {env : Env} [DqAll P]
theorem qk8 {objs:List OB} {γ:Gh} {w:World} {S:Sp} (hS:Sp.le S (Imm objs γ w)):∀ {ps:List Ty} {x:DL ps} {vs:List Value},ArgsR w S ps x vs→PRL objs γ w (qfP ps x) vs
 | [],_,_,h=>h
 | τ::r,x,_,⟨v,q,e,⟨cs,h1,h2⟩,h3⟩=>by
  refine⟨v,q,e,?_,qk8 hS h3⟩;have:=qJ τ (Rep.mono hS (fun _ _=>rfl) τ h1 (by simp));rw[h2];exact qdh (qcV τ x.1) this
theorem qvA (hE:EnvOK P env) (hm:P.follows .mixedOrders=true) {f:FuncId} {fn:Func} (hf:P.funcs[f]?=some fn) (c:Ioc) (ann:Ann)
  (hok:(fn.body.isSome&&(Nat.ble (c.ps.length+1) fn.ntmps&&(c.ps.all Ty.pure&&((c.one || !Nat.beq c.res.length 1)&&(c.bx.nref&&c.ρ.nref)))))=true) (hwf:c.one=false→c.ρ=stOf c.res)
  (h:∀x,c.φ x=denIO P env ann fn c.bx c.ps c.one c.res c.ρ x):IocOK P f c:=by
 simp only[Bool.and_eq_true] at hok;obtain⟨hbody,hn,hpure,hone,hnb,hnr⟩:=hok
 have hone:(c.one || !Nat.beq c.res.length 1)=true:=by simpa using hone
 have hn:=Nat.le_of_ble_eq_true hn;refine⟨hpure,hwf,fun w S b T cs M args x r hS hTab hheap hMnd hbM hrep hargs hr=>?_⟩;obtain⟨body,hb⟩:=Option.isSome_iff_exists.1 hbody
 have hbo:Eng.bodyOf fn=body:=by simp[Eng.bodyOf,hb]
 rw[h x] at hr;unfold denIO at hr;rw[hbo] at hr;have hblt:b<w.heap.size:=(Array.getElem?_eq_some_iff.1 hheap).1;have hMlt:=rep_lt c.bx hrep;obtain⟨gs,hgl,hgM,hgp⟩:=qfq c.bx hrep 1;obtain⟨q,hq⟩:∃q,cc c.bx x.1 1=q:=⟨_,rfl⟩;rw[hq] at hgl hgp hr
 let γ:Gh:=⟨fun o=>match o with
  | 0=>(.pointer (some ⟨b,0,none⟩),some b)
  | j+1=>(gs[j]?).getD (undef,none),fun k=>S k∨w.heap.size≤k∨k∈b::M,S.m,[],fun _ _=>none⟩
 have hγ:∀j g,gs[j]?=some g→γ (1+j)=g:=fun j g hj=>by
  rw[Nat.add_comm];show(gs[j]?).getD (undef,none)=g;rw[hj];rfl
 have hblocks:∀o k,o<(OB.box q.1::q.2).length→(γ o).2=some k→k∈b::M:=fun o k ho hk=>by
  cases o with
  | zero=>simp[γ] at hk;simp[hk]
  | succ j =>
   have hj:j<gs.length:=by rw[hgl];simpa using ho
   have:=hγ j _ (List.getElem?_eq_getElem hj);rw[Nat.add_comm] at this;rw[this] at hk;refine List.mem_cons_of_mem _ ?_;rw[hgM];exact List.mem_flatMap.2 ⟨_,List.getElem_mem hj,by simp[hk]⟩
 have hSI:Sp.le S (Imm (OB.box q.1::q.2) γ w):=⟨fun k hk=>⟨(hS k hk).1,.inl hk,fun o hm hb'=>by
  obtain⟨ob,h1,_⟩:=hm;rcases List.mem_cons.1 (hblocks o k (qw h1) hb') with e | e
  ·exact(hS k hk).2.1 e
  ·exact(hS k hk).2.2 e,fun h=>(nomatch h)⟩,fun _ _ h=>h⟩
 obtain⟨hv1,hv2⟩:=hgp (OB.box q.1::q.2) γ hSI hγ (by simp[hgl];omega);have hor:ORel ⟨w,b::M⟩ (OB.box q.1::q.2) γ w:=by
  refine⟨fun o ob ho=>?_,fun o o' k h1 h2 hb1 hb2=>?_,fun o k hm hk => .inr ?_,fun o k ho hk=>?_,Chg.refl _ _,fun o i e xs k ho hk=>?_,fun k hk=>?_,hTab.mono hSI (fun _ _=>rfl),fun k h=>(nomatch h),fun o k _ _ h=>(nomatch h),fun o t p ow xs lent ho=>by
   cases o with
   | zero=>simp at ho
   | succ j =>
    simp only[List.getElem?_cons_succ] at ho
    have hj:j<gs.length:=by rw[hgl];exact qw ho
    cases (hv2 j _ _ ho (List.getElem?_eq_getElem hj)).2⟩
  ·cases o with
   | zero=>simp at ho;subst ho;exact⟨b,T,cs,rfl,hheap,hv1⟩
   | succ j =>
    simp only[List.getElem?_cons_succ] at ho
    have hj:j<gs.length:=by rw[hgl];exact qw ho
    have:=(hv2 j ob _ ho (List.getElem?_eq_getElem hj)).1;have e:=hγ j _ (List.getElem?_eq_getElem hj);rw[Nat.add_comm] at e;rw[e];exact this
  ·have key:∀o k,o<(OB.box q.1::q.2).length→(γ o).2=some k→(o=0∧k=b)∨∃j g,o=j+1∧gs[j]?=some g∧g.2=some k∧k∈M:=fun o k ho hk=>by
    cases o with
    | zero=>simp[γ] at hk;exact .inl ⟨rfl,hk.symm⟩
    | succ j =>
     have hj:j<gs.length:=by rw[hgl];simpa using ho
     have e:=hγ j _ (List.getElem?_eq_getElem hj);rw[Nat.add_comm] at e;rw[e] at hk;exact .inr ⟨j,_,rfl,List.getElem?_eq_getElem hj,hk,by rw[hgM];exact List.mem_flatMap.2 ⟨_,List.getElem_mem hj,by simp[hk]⟩⟩
   rcases key o k h1.lt hb1 with ⟨rfl,e1⟩ | ⟨j1,g1,rfl,hg1,hk1,m1⟩<;>rcases key o' k h2.lt hb2 with ⟨rfl,e2⟩ | ⟨j2,g2,rfl,hg2,hk2,m2⟩
   ·rfl
   ·exact absurd (e1▸m2) hbM
   ·exact absurd (e2▸m1) hbM
   ·rw[quf (hgM▸hMnd) hg1 hg2 hk1 hk2]
  ·obtain⟨ob,h1,_⟩:=hm;exact hblocks o k (qw h1) hk
  ·rcases List.mem_cons.1 (hblocks o k ho hk) with e | e
   ·rw[e];exact hblt
   ·exact hMlt k e
  ·cases o with
   | zero=>simp at ho
   | succ j =>
    simp only[List.getElem?_cons_succ] at ho
    have hj:j<gs.length:=by rw[hgl];exact qw ho
    cases (hv2 j _ _ ho (List.getElem?_eq_getElem hj)).2
  ·rcases hk with hk | hk
   ·exact .inr (.inl hk)
   ·exact .inr (.inr hk)
 have hv:PRL (OB.box q.1::q.2) γ w (.c (.ptr 0 0)::qfP c.ps x.2) (.pointer (some ⟨b,0,none⟩)::args):=⟨_,_,rfl,⟨by simp,b,rfl,rfl⟩,qk8 hSI hargs⟩;have r00:Rel ⟨w,b::M⟩ ⟨0,[],OB.box q.1::q.2,0,0,0,[]⟩ γ { tmps:=#[],defers:=[] } w:=⟨rfl,fun d hd=>(by cases hd),fun t tg pv h=>by simp[get] at h,fun t tg pv h=>by simp[get] at h,fun t tg pv h=>by simp[get] at h,fun x hx=>(by cases hx),hor⟩;have r0:=ql8 (n:=fn.ntmps) r00 hv (by rw[List.length_cons,qcn];exact hn)
 have hlast:∀σ' γ' a' w',retIO P fn c.bx c.one c.res c.ρ σ'=some r→Rel ⟨w,b::M⟩ σ' γ' a' w'→Step ⟨fn.ntmps,qbi 0 (.c (.ptr 0 0)::qfP c.ps x.2),OB.box q.1::q.2,0,0,0,[]⟩ γ w σ' γ' w' →
   ∃v,(results fn a'.tmps).run P w' = .ok v w'∧∃v2,Ending.returned v = .returned v2∧Chg (b::M) w w'∧IoR w w' S b M c r v2:=by
  intro σ' γ' a' w' hk r' s';simp only[retIO,Option.bind_eq_some_iff] at hk;obtain⟨vs,h1,cs1,h2,ob,hob,h3⟩:=hk
  cases ob with
  | box bs =>
   simp only[chk_some,Bool.and_eq_true,Bool.not_eq_true'] at h3;obtain⟨⟨hbl,hm00⟩,h3⟩:=h3;have hbl:=Nat.eq_of_beq_eq_true hbl;obtain⟨vals,h4,h5,h6⟩:=qeL (P:=P) r' h1;refine⟨_,qhV h5 h6,_,rfl,r'.o.chg,?_⟩;obtain⟨cells,h7,h8,h9⟩:=qfi rfl h2 h4;obtain⟨b',T',cs',hg',hheap',hvb⟩:=r'.o.rep 0 _ hob;have hγ0:γ' 0=γ 0:=s'.keep.gh 0 (by simp)
   have hbb:b'=b:=by rw[hγ0] at hg';simp[γ] at hg';exact hg'.symm
   subst hbb;have hm0:Mut σ'.objs 0:=⟨_,hob,rfl⟩
   have hg0:(γ' 0).2=some b':=by rw[hg']
   have hva:=hvb.append h7;simp only[retD,chk_some,Bool.and_eq_true,List.all_eq_true,Bool.not_eq_true'] at h3;obtain⟨⟨hnd,hdis⟩,h10⟩:=h3;have hmut:=(qaS (S:=⟨fun _=>True,γ'.m⟩) r'.o ⟨fun _ _=>trivial,fun _ _ h=>h⟩ (.st c.bx c.ρ) h10 hva (fun _ _ _ _=>trivial)).2;have hSeq:γ'.S=γ.S:=s'.keep.s;have hMmem:∀k∈blocks γ' (idsO σ'.objs (.st c.bx c.ρ) (bs++cs1)),∃o∈idsO σ'.objs (.st c.bx c.ρ) (bs++cs1),(γ' o).2=some k:=fun k hk=>by
    obtain⟨o,ho,hb'⟩:=List.mem_flatMap.1 hk;exact⟨o,ho,by simpa using hb'⟩
   have hne0:∀o k,Mut σ'.objs o→o≠0→(γ' o).2=some k→k≠b':=fun o k m1 m2 m3 e=>m2 (r'.o.inj o 0 b' m1 hm0 (e▸m3) hg0);have hids0:∀o∈idsO σ'.objs (.st c.bx c.ρ) (bs++cs1),o≠0:=fun o ho e=>by
    rw[e] at ho;rw[memN_spec.2 ho] at hm00;cases hm00
   have hsplit:∀k,γ.S k→k≠b'→S k∨w.heap.size≤k∨k∈M:=fun k hk hne=>by
    rcases hk with hk | hk | hk
    ·exact .inl hk
    ·exact .inr (.inl hk)
    ·rcases List.mem_cons.1 hk with e | e
     ·exact absurd e hne
     ·exact .inr (.inr e)
   have himm:∀k,Imm σ'.objs γ' w' k→k<w'.heap.size∧(S k∨w.heap.size≤k∨k∈M)∧k∉blocks γ' (idsO σ'.objs (.st c.bx c.ρ) (bs++cs1))∧k≠b':=fun k hk=>by
    have hne:k≠b':=fun e=>hk.own 0 hm0 (by rw[e];exact hg0);refine⟨hk.lt,hsplit k (by have:=hk.s;rw[hSeq] at this;exact this) hne,fun hm=>?_,hne⟩;obtain⟨o,ho,hb2⟩:=hMmem k hm;exact hk.own o (hmut o ho) hb2
   have hrep':=(qaS (S:=⟨fun k=>k<w'.heap.size∧(S k∨w.heap.size≤k∨k∈M)∧k∉blocks γ' (idsO σ'.objs (.st c.bx c.ρ) (bs++cs1))∧k≠b',γ'.m⟩) r'.o ⟨himm,fun _ _ h=>h⟩ (.st c.bx c.ρ) h10 hva (fun o ho k hk=>by
    rcases qgg (.st c.bx c.ρ) h10 ho with ⟨i,e,xs,hobd⟩ | ⟨obd,hobd,hdb⟩
    ·exact himm k (r'.o.frz o i e xs k hobd hk)
    ·have hmo:Mut σ'.objs o:=⟨_,hobd,qjG hdb⟩
     have ho0:o≠0:=fun e0=>by rw[e0,hob] at hobd;cases hobd;cases hdb
     have hne:=hne0 o k hmo ho0 hk;refine⟨r'.o.lt o k (qw hobd) hk,?_,fun hm=>?_,hne⟩
     ·rcases r'.o.own o k hmo hk with h11 | h11
      ·exact .inr (.inl h11)
      ·rcases List.mem_cons.1 h11 with e1 | e1
       ·exact absurd e1 hne
       ·exact .inr (.inr e1)
     ·obtain⟨o',ho',hb2⟩:=hMmem k hm;have e1:=r'.o.inj o o' k hmo (hmut o' ho') hk hb2;subst e1;have:=hdis o ho;rw[memN_spec.2 ho'] at this
      cases this)).1
   obtain⟨c1,c2,M1,M2,e1,e2,hR1,hR2⟩:=hrep';have hl1:c1.length=c.bx.size:=Rep.length c.bx hR1
   have hl2:cs'.toList.length=c.bx.size:=by rw[hvb.length];exact hbl
   obtain⟨e3,e4⟩:=List.append_inj e1 (by rw[hl1,hl2]);subst e3;subst e4;rw[e2] at hR1 hR2;have hbn:(M1++M2).Nodup:=e2▸qc3 r'.o (qcR hnd) hmut;refine⟨T',cs',M1,M2,cells,hheap',hbn,fun k hk=>?_,qbU c.bx hnb hR1,qbU c.ρ hnr hR2,?_⟩
   ·obtain⟨o,ho,hb2⟩:=hMmem k (e2▸hk);have hne:=hne0 o k (hmut o ho) (hids0 o ho) hb2;refine⟨?_,hne⟩;rcases r'.o.own o k (hmut o ho) hb2 with h11 | h11
    ·exact .inr h11
    ·rcases List.mem_cons.1 h11 with e5 | e5
     ·exact absurd e5 hne
     ·exact .inl e5
   ·unfold resV
    cases hc1:c.one with
    | true =>
     rw[hc1] at h8 h9;simp only[qph,cond_true,tupV] at h8;rw[←h8]
     have hl:cells.length=c.ρ.size:=by rw[Rep.length c.ρ hR2]
     rw[←hl,List.take_length];rfl
    | false =>
     rw[hc1] at h8 h9 hone;simp only[qph,cond_false] at h8 h9;simp only[Bool.false_or,Bool.not_eq_true'] at hone;rw[h8]
     have hne:vals.length≠1:=fun e=>by rw[←h9,e] at hone;cases hone
     match vals,hne with
     | [],_=>rfl
     | [_],hne=>exact absurd rfl hne
     | _::_::_,_=>rfl
  | _=>simp at h3
 have:=(qsE hE hm 10000 (D (.st c.bx c.ρ))).1 ann body _ _ r hr ⟨w,b::M⟩ γ _ w (bodyPostD P fn fun e w'=>∃v,e = .returned v∧Chg (b::M) w w'∧IoR w w' S b M c r v) r0 ⟨rfl,rfl⟩
  ⟨fun σ' γ' a' w' hk r' _ s'=>qdD r'.defers fun w'' hch=>hlast σ' γ' a' w'' hk (r'.ext hch) (s'.trans (Step.ext hch)),fun i σ' γ' a' w' hk=>(by cases hk),fun σ' γ' a' w' hk r' _ s'=>qdD r'.defers fun w'' hch=>hlast σ' γ' a' w'' hk (r'.ext hch) (s'.trans (Step.ext hch))⟩
 have hcalls:=calls_of_wp_defers (args:=(.pointer (some ⟨b,0,none⟩)::args).toArray) hf hb (by simpa using this);exact hcalls
theorem ioc_fix {f:FuncId} {bx:Ty} {ps:List Ty} {one:Bool} {rs:List Ty} {ρ:Ty} {G:(DL (bx::ps)→Option (D (.st bx ρ)))→DL (bx::ps)→Option (D (.st bx ρ))} (hpure:ps.all Ty.pure=true) (hwf:one=false→ρ=stOf rs)
  (h:∀φ,IocOK P f ⟨bx,ps,one,rs,ρ,φ⟩→IocOK P f ⟨bx,ps,one,rs,ρ,G φ⟩):IocOK P f ⟨bx,ps,one,rs,ρ,fixW G⟩:=by
 have key:∀n,IocOK P f ⟨bx,ps,one,rs,ρ,fixN G n⟩:=by
  intro n
  induction n with
  | zero=>exact⟨hpure,hwf,fun w S b T cs M args x r _ _ _ _ _ _ _ hr=>by simp[fixN] at hr⟩
  | succ n ih=>exact h _ ih
 exact⟨hpure,hwf,fun w S b T cs M args x r h1 h1' h2 h3 h4 h5 h6 hr=>by
  obtain⟨n,hn⟩:=qqF hr
  exact(key n).calls w S b T cs M args x r h1 h1' h2 h3 h4 h5 h6 hn⟩
end
end Go.Den
namespace Go.Den
instance ctx0:Ctx:=⟨[(5,Go.Lib.pow10Tab.map (Value.int .u64))],[],false,[5,6,289,290],some 127,none⟩
abbrev ctxUp:Ctx:=⟨[],[],true,[],none,none⟩
end Go.Den
namespace Go.Proofs.YteahiolockghkaaGreatDoor
open Go.Den
set_option linter.unusedVariables false
set_option maxRecDepth 100000
noncomputable section
def qez (x:Int):Option (Bool) :=
 some (x !=x)
def qC (x:Int):Bool :=
 (x !=x)
theorem qgR (x:Int):qez x=some (qC x):=by
 unfold qez qC
 first | rfl | simp only[qW]
def qdn (x:Int) (y:Int):Option (Int) :=
 bif (qC x) then(bif (qC y) then some (0:Int)
 else some (-1:Int))
 else bif (qC y) then some (1:Int)
 else bif (decide (x<y)) then some (-1:Int)
 else bif (decide (x>y)) then some (1:Int)
 else some (0:Int)
def qG (x:Int) (y:Int):Int :=
 bif (qC x) then(bif (qC y) then(0:Int)
 else(-1:Int))
 else bif (qC y) then(1:Int)
 else bif (decide (x<y)) then(-1:Int)
 else bif (decide (x>y)) then(1:Int)
 else(0:Int)
theorem qeC (x:Int) (y:Int):qdn x y=some (qG x y):=by
 unfold qdn qG
 first | rfl | simp only[qW]
def qaL (vals:List Int) (x1:Zv72×(Unit)):Option (Zv66 ⊕ (Zv70 ⊕ Int)) :=
 bif (decide (x1.1.1<((vals.length:Nat):Int))) then(Option.bind (at? vals x1.1.1) fun d2 =>
 bif (d2 !=0) then some (Sum.inr (Sum.inr d2))
 else some (Sum.inl (((w64 (x1.1.1+1)),()),())))
 else some (Sum.inr (Sum.inl ((),())))
def qjU (vals:List Int):Option (Int) :=
 Option.bind (α:=Zv70 ⊕ Int) (iterW (qaL vals) (((0:Int),()),())) (Sum.elim (fun x3 =>
 some (0:Int)) some)
def qql (a:Int×Int×Int×Unit) (b:Int×Int×Int×Unit):Option (Int) :=
 Option.bind (qjU ([(qG a.1 b.1),(qG a.2.1 b.2.1),(qG a.2.2.1 b.2.2.1)])) fun r2 =>
 some r2
abbrev Mv:=Int×Int×Int×Unit
def mvLt (x y:Mv):Bool:=decide (x.1<y.1)||(x.1==y.1&&(decide (x.2.1<y.2.1)||(x.2.1==y.2.1&&decide (x.2.2.1<y.2.2.1))))
def qbn (xs:List Mv):List Mv:=xs.mergeSort fun x y=>!mvLt y x
end
end Go.Proofs.YteahiolockghkaaGreatDoor
namespace Go.Proofs.YteahiolockghkaaGreatDoor
def itoaS (n:Int):Option ByteArray:=bif decide (-9223372036854775808≤n)&&decide (n≤9223372036854775807) then some ⟨(Go.Lib.itoa n).toArray⟩ else none
def joinS (l:List ByteArray) (sep:ByteArray):Option ByteArray:=bif Nat.ble l.length 140737488355328&&Nat.ble (Go.Lib.join (l.map (·.data.toList)) sep.data.toList).length 140737488355328 then some ⟨(Go.Lib.join (l.map (·.data.toList)) sep.data.toList).toArray⟩ else none
def qmY (s:ByteArray) (b k:Int):Option (Int×Bool×Unit):=bif (decide (b=10)&&decide (k=32))&&(Nat.blt 0 s.size&&Nat.ble s.size 9223372036854775806) then(match Go.Lib.parseUintM 4294967295 0 s.data.toList with
 | .ok v=>some ((v:Int),(false,()))
 | _=>none) else none
def qkl (s:ByteArray) (n:Int):Option ByteArray:=bif decide (0≤n)&&(decide (n≤9223372036854775807)&&Nat.ble (s.size*n.toNat) 140737488355328) then some ⟨(Go.Lib.repeatL s.data.toList n.toNat).toArray⟩ else none
def idx1S (s sep:ByteArray):Option Int:=bif Nat.beq sep.size 1 then some (Go.Lib.indexByte s.data.toList (sep.data.toList.headD 0)) else none
def trimS (s c:ByteArray):Option ByteArray:=bif Nat.ble s.size 9223372036854775807&&(Nat.ble c.size 4294967280&&(c.data.toList.all fun b=>decide (b.toNat<128))) then some ⟨(Go.Lib.trimS s.data.toList c.data.toList).toArray⟩ else none
end Go.Proofs.YteahiolockghkaaGreatDoor
namespace Go.Proofs.YteahiolockghkaaGreatDoor
open Go.Den
set_option linter.unusedVariables false
set_option maxRecDepth 100000
noncomputable section
def qd8 (count:Int) (r:ByteArray×Int×Int×Zv16×Zv73×Bool×Bool×Zv42×Int×Int×Int×Unit) (p:Zv73×Zv50×Int×Int×Unit) (player:Int) (x2:Zv72×(Unit)) (x3:Zv63×(Unit)):Option ((Zv63×(Unit)) ⊕ Zv66) :=
 Option.bind (bif (decide (x3.1.2.2.1<count)) then(bif ((((decide (x3.1.1<0))||(decide (x3.1.1≥r.2.1)))||(decide (x3.1.2.1<0)))||(decide (x3.1.2.1≥r.2.2.1))) then some ((false,()),())
 else Option.bind (at? p.1 (w64 ((w64 (x3.1.2.1*r.2.1))+x3.1.1))) fun d4 =>
 req (imp (decide (d4>0)) true) (some ((((decide (d4>0))&&(((w64 (d4-1)).tmod 2)==player)),()),())))
 else some ((false,()),())) fun x5 =>
 bif x5.1.1 then some (Sum.inl (((w64 (x3.1.1+(getD' [(1:Int),(0:Int),(1:Int),(1:Int)] (x2.1.1).toNat 0))),(w64 (x3.1.2.1+(getD' [(0:Int),(1:Int),(1:Int),(-1:Int)] (x2.1.1).toNat 0))),(w64 (x3.1.2.2.1+1)),()),()))
 else some (Sum.inr ((x3.1.2.2.1,()),()))
def qfc (r:ByteArray×Int×Int×Zv16×Zv73×Bool×Bool×Zv42×Int×Int×Int×Unit) (count:Int) (p:Zv73×Zv50×Int×Int×Unit) (player:Int) (x1:Zv72×(Unit)) (x2:Zv72×(Unit)):Option (Zv66 ⊕ (Zv70 ⊕ (Zv70 ⊕ (Zv66 ⊕ (Zv70 ⊕ Bool))))) :=
 bif (decide (x2.1.1<4)) then(Option.bind (α:=Zv70 ⊕ (Zv66 ⊕ (Zv70 ⊕ (Zv70 ⊕ (Zv66 ⊕ (Zv70 ⊕ Bool)))))) (req (inb x2.1.1 4) (req (r.2.1 !=0) (req (r.2.1 !=0) (Option.bind (iterW (qd8 count r p player x2) (((x1.1.1.tmod r.2.1),(w64 (x1.1.1.tdiv r.2.1)),(0:Int),()),())) fun x6 =>
 bif (x6.1.1==count) then some (Sum.inr (Sum.inr (Sum.inr (Sum.inr (Sum.inr (Sum.inr true))))))
 else some (Sum.inl ((),())))))) (Sum.elim (fun x7 =>
 some (Sum.inl (((w64 (x2.1.1+1)),()),()))) some))
 else some (Sum.inr (Sum.inl ((),())))
def qfk (p:Zv73×Zv50×Int×Int×Unit) (r:ByteArray×Int×Int×Zv16×Zv73×Bool×Bool×Zv42×Int×Int×Int×Unit) (count:Int) (player:Int) (x1:Zv72×(Unit)):Option (Zv66 ⊕ (Zv70 ⊕ Bool)) :=
 bif (decide (x1.1.1<((p.1.length:Nat):Int))) then(Option.bind (α:=Zv70 ⊕ (Zv66 ⊕ (Zv70 ⊕ Bool))) (Option.bind (α:=Zv70 ⊕ (Zv70 ⊕ (Zv66 ⊕ (Zv70 ⊕ Bool)))) (iterW (qfc r count p player x1) (((0:Int),()),())) (Sum.elim (fun x8 =>
 some (Sum.inl ((),()))) some)) (Sum.elim (fun x9 =>
 some (Sum.inl (((w64 (x1.1.1+1)),()),()))) some))
 else some (Sum.inr (Sum.inl ((),())))
def qlN (r:ByteArray×Int×Int×Zv16×Zv73×Bool×Bool×Zv42×Int×Int×Int×Unit) (p:Zv73×Zv50×Int×Int×Unit) (player:Int) (count:Int):Option (Bool) :=
 Option.bind (α:=Zv70 ⊕ Bool) (iterW (qfk p r count player) (((0:Int),()),())) (Sum.elim (fun x10 =>
 some false) some)
def qdN (r:ByteArray×Int×Int×Zv16×Zv73×Bool×Bool×Zv42×Int×Int×Int×Unit) (player:Int) (square:Int):Option (Bool) :=
 bif (player==0) then req (r.2.1 !=0) (some ((w64 (square.tdiv r.2.1))==(w64 (r.2.2.1-1))))
 else req (r.2.1 !=0) (some ((w64 (square.tdiv r.2.1))==0))
def qee (p:Zv73×Zv50×Int×Int×Unit) (x:Int×Int×Int×Bool×Unit) (mover:Int) (r:ByteArray×Int×Int×Zv16×Zv73×Bool×Bool×Zv42×Int×Int×Int×Unit) (x2:Zv72×(Unit)):Option (Zv66 ⊕ (Zv70 ⊕ (Zv70 ⊕ Bool))) :=
 bif (decide (x2.1.1<((p.1.length:Nat):Int))) then(Option.bind (at? p.1 x2.1.1) fun d3 =>
 Option.bind (gopt (d3==(w64 ((w64 ((w64 ((2:Int)*x.2.1))+mover))+1))) false (qdN r mover x2.1.1)) fun r4 =>
 bif ((d3==(w64 ((w64 ((w64 ((2:Int)*x.2.1))+mover))+1)))&&r4) then some (Sum.inr (Sum.inr (Sum.inr true)))
 else some (Sum.inl (((w64 (x2.1.1+1)),()),())))
 else some (Sum.inr (Sum.inl ((),())))
def qes (p:Zv73×Zv50×Int×Int×Unit) (x:Int×Int×Int×Bool×Unit) (mover:Int) (x7:Zv69×(Unit)):Option (Zv58 ⊕ Zv66) :=
 bif (decide (x7.1.2.1<((p.1.length:Nat):Int))) then(Option.bind (at? p.1 x7.1.2.1) fun d8 =>
 Option.bind (bif (d8==(w64 ((w64 ((w64 ((w64 ((2:Int)*x.2.1))+1))-mover))+1))) then some (((w64 (x7.1.1+1)),()),())
 else some ((x7.1.1,()),())) fun x9 =>
 some (Sum.inl ((x9.1.1,(w64 (x7.1.2.1+1)),()),())))
 else some (Sum.inr ((x7.1.1,()),()))
def qi3 (r:ByteArray×Int×Int×Zv16×Zv73×Bool×Bool×Zv42×Int×Int×Int×Unit) (p:Zv73×Zv50×Int×Int×Unit) (x:Int×Int×Int×Bool×Unit) (mover:Int):Option (Bool) :=
 Option.bind (α:=Zv70 ⊕ Bool) (bif (x.1==0) then(Option.bind (qlN r p mover x.2.2.1) fun r1 =>
 some (Sum.inr r1))
 else bif (x.1==1) then(Option.bind (α:=Zv70 ⊕ (Zv70 ⊕ Bool)) (iterW (qee p x mover r) (((0:Int),()),())) (Sum.elim (fun x5 =>
 some (Sum.inr false)) some))
 else some (Sum.inl ((),()))) (Sum.elim (fun x6 =>
 Option.bind (iterW (qes p x mover) (((0:Int),(0:Int),()),())) fun x10 =>
 some (decide (x10.1.1<x.2.2.1))) some)
def qkE (player:Int):Option (Int) :=
 some (w64 ((1:Int)+player))
def qck (player:Int):Int :=
 (w64 ((1:Int)+player))
theorem qtA (player:Int):qkE player=some (qck player):=by
 unfold qkE qck
 first | rfl | simp only[qW]
def qbT (p:Zv73×Zv50×Int×Int×Unit) (r:ByteArray×Int×Int×Zv16×Zv73×Bool×Bool×Zv42×Int×Int×Int×Unit) (x1:Zv72×(Unit)):Option (Zv66 ⊕ (Zv70 ⊕ Bool)) :=
 bif (decide (x1.1.1≥0)) then(Option.bind (at? p.1 x1.1.1) fun d2 =>
 bif (d2==0) then some (Sum.inr (Sum.inr false))
 else some (Sum.inl (((w64 (x1.1.1-r.2.1)),()),())))
 else some (Sum.inr (Sum.inl ((),())))
def qfv (r:ByteArray×Int×Int×Zv16×Zv73×Bool×Bool×Zv42×Int×Int×Int×Unit) (p:Zv73×Zv50×Int×Int×Unit) (s:Int):Option (Bool) :=
 Option.bind (α:=Zv70 ⊕ Bool) (iterW (qbT p r) (((w64 (s-r.2.1)),()),())) (Sum.elim (fun x3 =>
 some true) some)
def qep (p:Zv73×Zv50×Int×Int×Unit) (x1:Zv36×(Unit)) (x4:Zv36×(Unit)):Option (Zv25 ⊕ Zv31) :=
 bif (decide (x4.1.2.1<(((getD' [p.2.1.1,p.2.1.2.1] (p.2.2.1).toNat []).length:Nat):Int))) then(Option.bind (at? (getD' [p.2.1.1,p.2.1.2.1] (p.2.2.1).toNat []) x4.1.2.1) fun d5 =>
 Option.bind (bif (decide (d5>0)) then req (room (x4.1.1.length+([((-1:Int),(x1.1.2.1,(x4.1.2.1,())))]).length) 24) (some (((x4.1.1++[((-1:Int),(x1.1.2.1,(x4.1.2.1,())))]),()),()))
 else some ((x4.1.1,()),())) fun x6 =>
 some (Sum.inl ((x6.1.1,(w64 (x4.1.2.1+1)),()),())))
 else some (Sum.inr ((x4.1.1,()),()))
def qer (p:Zv73×Zv50×Int×Int×Unit) (r:ByteArray×Int×Int×Zv16×Zv73×Bool×Bool×Zv42×Int×Int×Int×Unit) (x1:Zv36×(Unit)):Option (Zv25 ⊕ Zv31) :=
 bif (decide (x1.1.2.1<((p.1.length:Nat):Int))) then(Option.bind (Option.bind (at? p.1 x1.1.2.1) fun d2 =>
 Option.bind (gopt ((r.2.2.2.2.2.1&&(decide (x1.1.2.1≥r.2.1)))&&(!(d2 !=0))) false (qfv r p x1.1.2.1)) fun r3 =>
 bif ((d2 !=0)||((r.2.2.2.2.2.1&&(decide (x1.1.2.1≥r.2.1)))&&(!r3))) then some ((x1.1.1,()),())
 else req (inb p.2.2.1 2) (Option.bind (iterW (qep p x1) ((x1.1.1,(0:Int),()),())) fun x7 =>
 some ((x7.1.1,()),()))) fun x8 =>
 some (Sum.inl ((x8.1.1,(w64 (x1.1.2.1+1)),()),())))
 else some (Sum.inr ((x1.1.1,()),()))
def qir (r:ByteArray×Int×Int×Zv16×Zv73×Bool×Bool×Zv42×Int×Int×Int×Unit) (p:Zv73×Zv50×Int×Int×Unit):Option Zv51 :=
 Option.bind (iterW (qer p r) ((([]:List Zv63),(0:Int),()),())) fun x9 =>
 some x9.1.1
def qcL (w:Int×Int×Int×Int×Unit) (r:ByteArray×Int×Int×Zv16×Zv73×Bool×Bool×Zv42×Int×Int×Int×Unit) (x1:Zv72×(Unit)) (p:Zv73×Zv50×Int×Int×Unit) (x2:(Zv73×Int×Int×Int×Unit)×(Unit)):Option (((Zv73×Int×Int×Int×Unit)×(Unit)) ⊕ Zv56) :=
 bif (decide (x2.1.2.2.2.1<w.2.2.1)) then(bif ((((decide ((w64 (x2.1.2.1+w.1))<0))||(decide ((w64 (x2.1.2.1+w.1))≥r.2.1)))||(decide ((w64 (x2.1.2.2.1+x1.1.1))<0)))||(decide ((w64 (x2.1.2.2.1+x1.1.1))≥r.2.2.1))) then some (Sum.inr ((x2.1.1,()),()))
 else Option.bind (at? p.1 (w64 ((w64 ((w64 (x2.1.2.2.1+x1.1.1))*r.2.1))+(w64 (x2.1.2.1+w.1))))) fun d3 =>
 req (imp (decide (d3>0)) true) (Option.bind (bif ((((w.2.2.2.1==0)&&(d3==0))||((w.2.2.2.1==1)&&((d3==0)||((decide (d3>0))&&(((w64 (d3-1)).tmod 2)!=p.2.2.1)))))||((w.2.2.2.1==2)&&((decide (d3>0))&&(((w64 (d3-1)).tmod 2)!=p.2.2.1)))) then req (room (x2.1.1.length+([(w64 ((w64 ((w64 (x2.1.2.2.1+x1.1.1))*r.2.1))+(w64 (x2.1.2.1+w.1))))]).length) 8) (some (((x2.1.1++[(w64 ((w64 ((w64 (x2.1.2.2.1+x1.1.1))*r.2.1))+(w64 (x2.1.2.1+w.1))))]),()),()))
 else some ((x2.1.1,()),())) fun x4 =>
 bif (d3 !=0) then some (Sum.inr ((x4.1.1,()),()))
 else some (Sum.inl ((x4.1.1,(w64 (x2.1.2.1+w.1)),(w64 (x2.1.2.2.1+x1.1.1)),(w64 (x2.1.2.2.2.1+1)),()),()))))
 else some (Sum.inr ((x2.1.1,()),()))
def ql1 (r:ByteArray×Int×Int×Zv16×Zv73×Bool×Bool×Zv42×Int×Int×Int×Unit) (p:Zv73×Zv50×Int×Int×Unit) (s:Int) (w:Int×Int×Int×Int×Unit):Option Zv73 :=
 Option.bind (bif (p.2.2.1==1) then some (((w64 (0-w.2.1)),()),())
 else some ((w.2.1,()),())) fun x1 =>
 req (r.2.1 !=0) (req (r.2.1 !=0) (Option.bind (iterW (qcL w r x1 p) ((([]:List Int),(s.tmod r.2.1),(w64 (s.tdiv r.2.1)),(0:Int),()),())) fun x5 =>
 some x5.1.1))
def qem (r8:List Int) (r:ByteArray×Int×Int×Zv16×Zv73×Bool×Bool×Zv42×Int×Int×Int×Unit) (d4:Int) (p:Zv73×Zv50×Int×Int×Unit) (x3:Zv36×(Unit)) (x9:Zv36×(Unit)):Option (Zv25 ⊕ Zv31) :=
 bif (decide (x9.1.2.1<((r8.length:Nat):Int))) then(req (inb x9.1.2.1 r8.length) (Option.bind (at? r.2.2.2.1 (w64 ((w64 (d4-1)).tdiv 2))) fun d10 =>
 Option.bind (gopt (decide (d10.2.2.1>0)) false (qdN r p.2.2.1 (getD' r8 ((x9.1.2.1).toNat) (0:Int)))) fun r11 =>
 Option.bind (bif ((decide (d10.2.2.1>0))&&r11) then some ((),((x3.1.2.1,((getD' r8 ((x9.1.2.1).toNat) (0:Int)),((w64 (d10.2.2.1-1)),()))),()))
 else some ((),((x3.1.2.1,((getD' r8 ((x9.1.2.1).toNat) (0:Int)),((w64 ((w64 (d4-1)).tdiv 2)),()))),()))) fun x12 =>
 req (room (x9.1.1.length+([x12.2.1]).length) 24) (some (Sum.inl (((x9.1.1++[x12.2.1]),(w64 (x9.1.2.1+1)),()),())))))
 else some (Sum.inr ((x9.1.1,()),()))
def qec (d5:Int×Int×Int×Zv44×Unit) (r:ByteArray×Int×Int×Zv16×Zv73×Bool×Bool×Zv42×Int×Int×Int×Unit) (p:Zv73×Zv50×Int×Int×Unit) (x3:Zv36×(Unit)) (d4:Int) (x6:Zv36×(Unit)):Option (Zv25 ⊕ Zv31) :=
 bif (decide (x6.1.2.1<((d5.2.2.2.1.length:Nat):Int))) then(Option.bind (Option.bind (at? d5.2.2.2.1 x6.1.2.1) fun d7 =>
 Option.bind (ql1 r p x3.1.2.1 d7) fun r8 =>
 Option.bind (iterW (qem r8 r d4 p x3) ((x6.1.1,(0:Int),()),())) fun x13 =>
 some ((x13.1.1,()),())) fun x14 =>
 some (Sum.inl ((x14.1.1,(w64 (x6.1.2.1+1)),()),())))
 else some (Sum.inr ((x6.1.1,()),()))
def qc4 (p:Zv73×Zv50×Int×Int×Unit) (r:ByteArray×Int×Int×Zv16×Zv73×Bool×Bool×Zv42×Int×Int×Int×Unit) (x3:Zv36×(Unit)):Option (Zv25 ⊕ Zv31) :=
 bif (decide (x3.1.2.1<((p.1.length:Nat):Int))) then(Option.bind (Option.bind (at? p.1 x3.1.2.1) fun d4 =>
 req (imp (!(d4==0)) true) (bif ((d4==0)||(((w64 (d4-1)).tmod 2)!=p.2.2.1)) then some ((x3.1.1,()),())
 else Option.bind (at? r.2.2.2.1 (w64 ((w64 (d4-1)).tdiv 2))) fun d5 =>
 Option.bind (iterW (qec d5 r p x3 d4) ((x3.1.1,(0:Int),()),())) fun x15 =>
 some ((x15.1.1,()),()))) fun x16 =>
 some (Sum.inl ((x16.1.1,(w64 (x3.1.2.1+1)),()),())))
 else some (Sum.inr ((x3.1.1,()),()))
def qgu (x18:Zv72×Zv41) (x19:Zv69×Zv41):Option ((Zv69×Zv41) ⊕ Zv26) :=
 bif (decide (x19.1.2.1<((((((x18.2.1.length:Nat):Int)).toNat-(x18.1.1).toNat):Nat):Int))) then(req (inb x19.1.2.1 ((((x18.2.1.length:Nat):Int)).toNat-(x18.1.1).toNat)) (req (inb (w64 (x19.1.2.1-1)) ((((x18.2.1.length:Nat):Int)).toNat-(x18.1.1).toNat)) (Option.bind (bif (!(((getD' x19.2.1 ((x18.1.1).toNat+(x19.1.2.1).toNat) ((0:Int),((0:Int),((0:Int),())))).1==(getD' x19.2.1 ((x18.1.1).toNat+((w64 (x19.1.2.1-1))).toNat) ((0:Int),((0:Int),((0:Int),())))).1)&&((((getD' x19.2.1 ((x18.1.1).toNat+(x19.1.2.1).toNat) ((0:Int),((0:Int),((0:Int),())))).2).1==((getD' x19.2.1 ((x18.1.1).toNat+((w64 (x19.1.2.1-1))).toNat) ((0:Int),((0:Int),((0:Int),())))).2).1)&&(((((getD' x19.2.1 ((x18.1.1).toNat+(x19.1.2.1).toNat) ((0:Int),((0:Int),((0:Int),())))).2).2).1==(((getD' x19.2.1 ((x18.1.1).toNat+((w64 (x19.1.2.1-1))).toNat) ((0:Int),((0:Int),((0:Int),())))).2).2).1)&&true)))) then req (inb x19.1.2.1 ((((x18.2.1.length:Nat):Int)).toNat-(x18.1.1).toNat)) (req (inb x19.1.1 x19.2.1.length) (some (((w64 (x19.1.1+1)),()),((x19.2.1.set ((x19.1.1).toNat) (getD' x19.2.1 ((x18.1.1).toNat+(x19.1.2.1).toNat) ((0:Int),((0:Int),((0:Int),()))))),()))))
 else some ((x19.1.1,()),(x19.2.1,()))) fun x20 =>
 some (Sum.inl ((x20.1.1,(w64 (x19.1.2.1+1)),()),(x20.2.1,()))))))
 else some (Sum.inr ((x19.1.1,()),(x19.2.1,())))
def qei (x18:Zv72×Zv41):Option (Zv26 ⊕ (Zv32 ⊕ Zv31)) :=
 bif (decide (x18.1.1<((x18.2.1.length:Nat):Int))) then(Option.bind (α:=Zv26 ⊕ (Zv26 ⊕ (Zv32 ⊕ Zv31))) (req (inb x18.1.1 x18.2.1.length) (req (inb (w64 (x18.1.1-1)) x18.2.1.length) (bif (((getD' x18.2.1 ((x18.1.1).toNat) ((0:Int),((0:Int),((0:Int),())))).1==(getD' x18.2.1 (((w64 (x18.1.1-1))).toNat) ((0:Int),((0:Int),((0:Int),())))).1)&&((((getD' x18.2.1 ((x18.1.1).toNat) ((0:Int),((0:Int),((0:Int),())))).2).1==((getD' x18.2.1 (((w64 (x18.1.1-1))).toNat) ((0:Int),((0:Int),((0:Int),())))).2).1)&&(((((getD' x18.2.1 ((x18.1.1).toNat) ((0:Int),((0:Int),((0:Int),())))).2).2).1==(((getD' x18.2.1 (((w64 (x18.1.1-1))).toNat) ((0:Int),((0:Int),((0:Int),())))).2).2).1)&&true))) then(req (qh x18.1.1 ((x18.2.1.length:Nat):Int) x18.2.1.length) (Option.bind (iterW (qgu x18) ((x18.1.1,(1:Int),()),(x18.2.1,()))) fun x21 =>
 req (qh x21.1.1 ((x21.2.1.length:Nat):Int) x21.2.1.length) (req (qh 0 x21.1.1 (x21.2.1.take (x21.1.1).toNat++(List.replicate ((((x21.2.1.length:Nat):Int)).toNat-(x21.1.1).toNat) ((0:Int),((0:Int),((0:Int),())))++x21.2.1.drop ((x21.1.1).toNat+((((x21.2.1.length:Nat):Int)).toNat-(x21.1.1).toNat)))).length) (some (Sum.inr (Sum.inr (Sum.inr ((((x21.2.1.take (x21.1.1).toNat++(List.replicate ((((x21.2.1.length:Nat):Int)).toNat-(x21.1.1).toNat) ((0:Int),((0:Int),((0:Int),())))++x21.2.1.drop ((x21.1.1).toNat+((((x21.2.1.length:Nat):Int)).toNat-(x21.1.1).toNat)))).take (x21.1.1).toNat),()),()))))))))
 else some (Sum.inl ((x18.1.1,()),(x18.2.1,())))))) (Sum.elim (fun x22 =>
 some (Sum.inl (((w64 (x22.1.1+1)),()),(x22.2.1,())))) some))
 else some (Sum.inr (Sum.inl ((),(x18.2.1,()))))
def qc5 (r:ByteArray×Int×Int×Zv16×Zv73×Bool×Bool×Zv42×Int×Int×Int×Unit) (p:Zv73×Zv50×Int×Int×Unit):Option Zv51 :=
 Option.bind (qir r p) fun r2 =>
 Option.bind (iterW (qc4 p r) ((r2,(0:Int),()),())) fun x17 =>
 req (Nat.blt x17.1.1.length 4611686018427387904) (Option.bind (bif (decide ((((qbn x17.1.1).length:Nat):Int)<2)) then some (((qbn x17.1.1),()),())
 else Option.bind (α:=Zv32 ⊕ Zv31) (iterW (qei) (((1:Int),()),((qbn x17.1.1),()))) (Sum.elim (fun x23 =>
 some ((x23.2.1,()),())) some)) fun x24 =>
 some x24.1.1)
def qdz (r:ByteArray×Int×Int×Zv16×Zv73×Bool×Bool×Zv42×Int×Int×Int×Unit) (p:Zv73×Zv50×Int×Int×Unit) (x2:Zv72×(Unit)):Option (Zv66 ⊕ (Zv70 ⊕ Int)) :=
 bif (decide (x2.1.1<((r.2.2.2.2.2.2.2.1.length:Nat):Int))) then(Option.bind (at? r.2.2.2.2.2.2.2.1 x2.1.1) fun d3 =>
 Option.bind (qi3 r p d3 (w64 ((1:Int)-p.2.2.1))) fun r4 =>
 bif r4 then(Option.map Sum.inr (Option.map Sum.inr (bif (decide (x2.1.1≥0)) then(Option.bind (at? r.2.2.2.2.2.2.2.1 x2.1.1) fun d5 =>
 bif d5.2.2.2.1 then some (qck p.2.2.1)
 else some (qck (w64 ((1:Int)-p.2.2.1))))
 else bif ((r.2.2.2.2.2.2.2.2.2.1 !=0)&&(decide (p.2.2.2.1≥r.2.2.2.2.2.2.2.2.2.1))) then some (3:Int)
 else Option.bind (qc5 r p) fun r6 =>
 bif (decide (((r6.length:Nat):Int)>0)) then some (0:Int)
 else bif (r.2.2.2.2.2.2.2.2.1==0) then some (qck (w64 ((1:Int)-p.2.2.1)))
 else bif (r.2.2.2.2.2.2.2.2.1==1) then some (qck p.2.2.1)
 else some (3:Int))))
 else some (Sum.inl (((w64 (x2.1.1+1)),()),())))
 else some (Sum.inr (Sum.inl ((),())))
def qeM (r:ByteArray×Int×Int×Zv16×Zv73×Bool×Bool×Zv42×Int×Int×Int×Unit) (p:Zv73×Zv50×Int×Int×Unit):Option (Int) :=
 Option.bind (α:=Zv70 ⊕ Int) (iterW (qdz r p) (((0:Int),()),())) (Sum.elim (fun x7 =>
 bif ((r.2.2.2.2.2.2.2.2.2.1 !=0)&&(decide (p.2.2.2.1≥r.2.2.2.2.2.2.2.2.2.1))) then some (3:Int)
 else Option.bind (qc5 r p) fun r8 =>
 bif (decide (((r8.length:Nat):Int)>0)) then some (0:Int)
 else bif (r.2.2.2.2.2.2.2.2.1==0) then some (qck (w64 ((1:Int)-p.2.2.1)))
 else bif (r.2.2.2.2.2.2.2.2.1==1) then some (qck p.2.2.1)
 else some (3:Int)) some)
def qg2 (r:ByteArray×Int×Int×Zv16×Zv73×Bool×Bool×Zv42×Int×Int×Int×Unit) (p:Zv73×Zv50×Int×Int×Unit):Option Zv51 :=
 Option.bind (qeM r p) fun r3 =>
 bif (r3 !=0) then some ([]:List Zv63)
 else Option.bind (qc5 r p) fun r4 =>
 some r4
def qev (s:ByteArray) (x1:Zv72×(Unit)):Option (Zv66 ⊕ (Zv70 ⊕ Bool)) :=
 bif (decide (x1.1.1<((s.size:Nat):Int))) then(Option.bind (strAt s x1.1.1) fun c2 =>
 Option.bind (gopt (decide (((c2.toNat:Nat):Int)≥65)) 0 (strAt s x1.1.1)) fun c3 =>
 Option.bind (gopt ((!(x1.1.1==0))&&(!((decide (((c2.toNat:Nat):Int)≥65))&&(decide (((c3.toNat:Nat):Int)≤90))))) 0 (strAt s x1.1.1)) fun c4 =>
 Option.bind (gopt ((!((x1.1.1==0)||(decide (((c4.toNat:Nat):Int)<48))))&&(!((decide (((c2.toNat:Nat):Int)≥65))&&(decide (((c3.toNat:Nat):Int)≤90))))) 0 (strAt s x1.1.1)) fun c5 =>
 bif ((!((decide (((c2.toNat:Nat):Int)≥65))&&(decide (((c3.toNat:Nat):Int)≤90))))&&(((x1.1.1==0)||(decide (((c4.toNat:Nat):Int)<48)))||(decide (((c5.toNat:Nat):Int)>57)))) then some (Sum.inr (Sum.inr false))
 else some (Sum.inl (((w64 (x1.1.1+1)),()),())))
 else some (Sum.inr (Sum.inl ((),())))
def qjD (s:ByteArray):Option (Bool) :=
 Option.bind (α:=Zv70 ⊕ Bool) (iterW (qev s) (((0:Int),()),())) (Sum.elim (fun x6 =>
 some ((!(s.toList==(ByteArray.mk #[]).toList))&&(decide (((s.size:Nat):Int)≤8)))) some)
def qfE (n:Int) (low:Int) (high:Int):Option (Bool) :=
 some ((decide (n≥low))&&(decide (n≤high)))
def qd (n:Int) (low:Int) (high:Int):Bool :=
 ((decide (n≥low))&&(decide (n≤high)))
theorem qnX (n:Int) (low:Int) (high:Int):qfE n low high=some (qd n low high):=by
 unfold qfE qd
 first | rfl | simp only[qW]
def qog (d2:Int×Int×Int×Zv44×Unit) (x5:Zv72×(Unit)):Option (Zv66 ⊕ (Zv70 ⊕ (Zv70 ⊕ (Zv66 ⊕ (Zv70 ⊕ Int))))) :=
 bif (decide (x5.1.1<((d2.2.2.2.1.length:Nat):Int))) then(Option.bind (at? d2.2.2.2.1 x5.1.1) fun d6 =>
 bif (((((!(qd d6.1 (-7:Int) (7:Int)))||(!(qd d6.2.1 (-7:Int) (7:Int))))||((d6.1==0)&&(d6.2.1==0)))||(!(qd d6.2.2.1 (1:Int) (7:Int))))||(!(qd d6.2.2.2.1 (0:Int) (2:Int)))) then some (Sum.inr (Sum.inr (Sum.inr (Sum.inr (Sum.inr (4:Int))))))
 else some (Sum.inl (((w64 (x5.1.1+1)),()),())))
 else some (Sum.inr (Sum.inl ((),())))
def qcZ (r:ByteArray×Int×Int×Zv16×Zv73×Bool×Bool×Zv42×Int×Int×Int×Unit) (x1:Zv72×(Unit)) (d2:Int×Int×Int×Zv44×Unit) (x3:Zv72×(Unit)):Option (Zv66 ⊕ (Zv70 ⊕ (Zv70 ⊕ (Zv66 ⊕ (Zv70 ⊕ Int))))) :=
 bif (decide (x3.1.1<((((r.2.2.2.1.take (x1.1.1).toNat).drop 0).length:Nat):Int))) then(Option.bind (at? ((r.2.2.2.1.take (x1.1.1).toNat).drop 0) x3.1.1) fun d4 =>
 bif (d4.1==d2.1) then(Option.map Sum.inr (Option.map Sum.inr (bif (decide (x3.1.1≥0)) then some (Sum.inr (Sum.inr (Sum.inr (7:Int))))
 else bif ((!(qd d2.2.1 (0:Int) (64:Int)))||(!(qd d2.2.2.1 (0:Int) ((r.2.2.2.1.length:Nat):Int)))) then some (Sum.inr (Sum.inr (Sum.inr (4:Int))))
 else bif (decide (((d2.2.2.2.1.length:Nat):Int)>16)) then some (Sum.inr (Sum.inr (Sum.inr (2:Int))))
 else Option.bind (α:=Zv70 ⊕ (Zv70 ⊕ (Zv66 ⊕ (Zv70 ⊕ Int)))) (iterW (qog d2) (((0:Int),()),())) (Sum.elim (fun x7 =>
 some (Sum.inl ((),()))) some))))
 else some (Sum.inl (((w64 (x3.1.1+1)),()),())))
 else some (Sum.inr (Sum.inl ((),())))
def qc0 (d2:Int×Int×Int×Zv44×Unit) (x9:Zv72×(Unit)):Option (Zv66 ⊕ (Zv70 ⊕ (Zv70 ⊕ (Zv66 ⊕ (Zv70 ⊕ Int))))) :=
 bif (decide (x9.1.1<((d2.2.2.2.1.length:Nat):Int))) then(Option.bind (at? d2.2.2.2.1 x9.1.1) fun d10 =>
 bif (((((!(qd d10.1 (-7:Int) (7:Int)))||(!(qd d10.2.1 (-7:Int) (7:Int))))||((d10.1==0)&&(d10.2.1==0)))||(!(qd d10.2.2.1 (1:Int) (7:Int))))||(!(qd d10.2.2.2.1 (0:Int) (2:Int)))) then some (Sum.inr (Sum.inr (Sum.inr (Sum.inr (Sum.inr (4:Int))))))
 else some (Sum.inl (((w64 (x9.1.1+1)),()),())))
 else some (Sum.inr (Sum.inl ((),())))
def qc1 (r:ByteArray×Int×Int×Zv16×Zv73×Bool×Bool×Zv42×Int×Int×Int×Unit) (x1:Zv72×(Unit)):Option (Zv66 ⊕ (Zv70 ⊕ Int)) :=
 bif (decide (x1.1.1<((r.2.2.2.1.length:Nat):Int))) then(Option.bind (α:=Zv70 ⊕ (Zv66 ⊕ (Zv70 ⊕ Int))) (Option.bind (at? r.2.2.2.1 x1.1.1) fun d2 =>
 bif ((decide (d2.1<65))||(decide (d2.1>90))) then some (Sum.inr (Sum.inr (Sum.inr (6:Int))))
 else req (qh (0:Int) x1.1.1 r.2.2.2.1.length) (Option.bind (α:=Zv70 ⊕ (Zv70 ⊕ (Zv66 ⊕ (Zv70 ⊕ Int)))) (iterW (qcZ r x1 d2) (((0:Int),()),())) (Sum.elim (fun x8 =>
 bif ((!(qd d2.2.1 (0:Int) (64:Int)))||(!(qd d2.2.2.1 (0:Int) ((r.2.2.2.1.length:Nat):Int)))) then some (Sum.inr (Sum.inr (Sum.inr (4:Int))))
 else bif (decide (((d2.2.2.2.1.length:Nat):Int)>16)) then some (Sum.inr (Sum.inr (Sum.inr (2:Int))))
 else Option.bind (α:=Zv70 ⊕ (Zv70 ⊕ (Zv66 ⊕ (Zv70 ⊕ Int)))) (iterW (qc0 d2) (((0:Int),()),())) (Sum.elim (fun x11 =>
 some (Sum.inl ((),()))) some)) some))) (Sum.elim (fun x12 =>
 some (Sum.inl (((w64 (x1.1.1+1)),()),()))) some))
 else some (Sum.inr (Sum.inl ((),())))
def qfz (r:ByteArray×Int×Int×Zv16×Zv73×Bool×Bool×Zv42×Int×Int×Int×Unit):Option (Int) :=
 bif (((r.2.2.2.1.length:Nat):Int)==0) then some (8:Int)
 else bif (decide (((r.2.2.2.1.length:Nat):Int)>6)) then some (2:Int)
 else Option.bind (α:=Zv70 ⊕ Int) (iterW (qc1 r) (((0:Int),()),())) (Sum.elim (fun x13 =>
 some (0:Int)) some)
def qbk (r:ByteArray×Int×Int×Zv16×Zv73×Bool×Bool×Zv42×Int×Int×Int×Unit) (x1:Zv72×(Unit)):Option (Zv66 ⊕ (Zv70 ⊕ Int)) :=
 bif (decide (x1.1.1<((r.2.2.2.2.2.2.2.1.length:Nat):Int))) then(Option.bind (at? r.2.2.2.2.2.2.2.1 x1.1.1) fun d2 =>
 Option.bind (α:=((Bool×Bool×Unit)×(Unit)) ⊕ (Zv66 ⊕ (Zv70 ⊕ Int))) (bif (d2.1==0) then some (Sum.inl (((qd d2.2.2.1 (1:Int) (64:Int)),(d2.2.1==0),()),()))
 else Option.bind (α:=Zv64 ⊕ (((Bool×Bool×Unit)×(Unit)) ⊕ (Zv66 ⊕ (Zv70 ⊕ Int)))) (bif (d2.1==1) then some (Sum.inl (((d2.2.2.1==0),()),()))
 else bif (d2.1==2) then some (Sum.inl (((qd d2.2.2.1 (1:Int) (64:Int)),()),()))
 else some (Sum.inr (Sum.inr (Sum.inr (Sum.inr (1:Int)))))) (Sum.elim (fun x3 =>
 some (Sum.inl ((x3.1.1,(qd d2.2.1 (0:Int) (w64 (((r.2.2.2.1.length:Nat):Int)-1))),()),()))) some)) (Sum.elim (fun x4 =>
 bif ((!x4.1.1)||(!x4.1.2.1)) then some (Sum.inr (Sum.inr (4:Int)))
 else some (Sum.inl (((w64 (x1.1.1+1)),()),()))) some))
 else some (Sum.inr (Sum.inl ((),())))
def qbx (r:ByteArray×Int×Int×Zv16×Zv73×Bool×Bool×Zv42×Int×Int×Int×Unit):Option (Int) :=
 bif (decide (((r.2.2.2.2.2.2.2.1.length:Nat):Int)>6)) then some (2:Int)
 else Option.bind (α:=Zv70 ⊕ Int) (iterW (qbk r) (((0:Int),()),())) (Sum.elim (fun x5 =>
 some (0:Int)) some)
def qdB (r:ByteArray×Int×Int×Zv16×Zv73×Bool×Bool×Zv42×Int×Int×Int×Unit) (x6:Zv72×(Unit)):Option (Zv66 ⊕ (Zv70 ⊕ Int)) :=
 bif (decide (x6.1.1<((r.2.2.2.2.1.length:Nat):Int))) then(Option.bind (at? r.2.2.2.2.1 x6.1.1) fun d7 =>
 bif (!(qd d7 (0:Int) (w64 ((2:Int)*((r.2.2.2.1.length:Nat):Int))))) then(Option.map Sum.inr (Option.map Sum.inr (bif (decide (x6.1.1≥0)) then some (4:Int)
 else Option.bind (qbx r) fun r8 =>
 bif (r8 !=0) then some r8
 else bif (((!(qd r.2.2.2.2.2.2.2.2.1 (0:Int) (2:Int)))||(!(qd r.2.2.2.2.2.2.2.2.2.1 (0:Int) (200:Int))))||((r.2.2.2.2.2.2.2.2.2.2.1 !=0)&&(!(qd r.2.2.2.2.2.2.2.2.2.2.1 (2:Int) (5:Int))))) then some (4:Int)
 else some (0:Int))))
 else some (Sum.inl (((w64 (x6.1.1+1)),()),())))
 else some (Sum.inr (Sum.inl ((),())))
def qeJ (r:ByteArray×Int×Int×Zv16×Zv73×Bool×Bool×Zv42×Int×Int×Int×Unit):Option (Int) :=
 Option.bind (qjD r.1) fun r4 =>
 bif (!r4) then some (6:Int)
 else bif ((!(qd r.2.1 (1:Int) (8:Int)))||(!(qd r.2.2.1 (1:Int) (8:Int)))) then some (4:Int)
 else Option.bind (qfz r) fun r5 =>
 bif (r5 !=0) then some r5
 else bif (((r.2.2.2.2.1.length:Nat):Int)!=(w64 (r.2.1*r.2.2.1))) then some (3:Int)
 else Option.bind (α:=Zv70 ⊕ Int) (iterW (qdB r) (((0:Int),()),())) (Sum.elim (fun x9 =>
 Option.bind (qbx r) fun r10 =>
 bif (r10 !=0) then some r10
 else bif (((!(qd r.2.2.2.2.2.2.2.2.1 (0:Int) (2:Int)))||(!(qd r.2.2.2.2.2.2.2.2.2.1 (0:Int) (200:Int))))||((r.2.2.2.2.2.2.2.2.2.2.1 !=0)&&(!(qd r.2.2.2.2.2.2.2.2.2.2.1 (2:Int) (5:Int))))) then some (4:Int)
 else some (0:Int)) some)
def qM (s:List Int):Option Zv73 :=
 bif (s.isEmpty) then(agree (some ([]:List Int)) (req (room (([]:List Int).length+s.length) 8) (some (([]:List Int)++s))))
 else req (room (([]:List Int).length+s.length) 8) (some (([]:List Int)++s))
def qcu (r:ByteArray×Int×Int×Zv16×Zv73×Bool×Bool×Zv42×Int×Int×Int×Unit) (x5:Zv72×Zv18):Option ((Zv72×Zv18) ⊕ ((Unit)×Zv18)) :=
 bif (decide (x5.1.1<((r.2.2.2.1.length:Nat):Int))) then(Option.bind (at? r.2.2.2.1 x5.1.1) fun d6 =>
 Option.bind (agree (agree (req (room (x5.2.1.2.1.length+([d6.2.1]).length) 8) (req (room (x5.2.1.2.2.1.length+([d6.2.1]).length) 8) (some ((),((x5.2.1.1,((x5.2.1.2.1++[d6.2.1]),((x5.2.1.2.2.1++[d6.2.1]),x5.2.1.2.2.2))),()))))) (agree (agree (req (room (x5.2.1.2.1.length+([d6.2.1]).length) 8) (req (room (x5.2.1.2.2.1.length+([d6.2.1]).length) 8) (some ((),((x5.2.1.1,((x5.2.1.2.1++[d6.2.1]),((x5.2.1.2.2.1++[d6.2.1]),x5.2.1.2.2.2))),()))))) (agree (req (room (x5.2.1.2.1.length+([d6.2.1]).length) 8) (req (room (x5.2.1.2.2.1.length+([d6.2.1]).length) 8) (some ((),((x5.2.1.1,((x5.2.1.2.1++[d6.2.1]),((x5.2.1.2.2.1++[d6.2.1]),x5.2.1.2.2.2))),()))))) (req (room (x5.2.1.2.1.length+([d6.2.1]).length) 8) (req (room (x5.2.1.2.2.1.length+([d6.2.1]).length) 8) (some ((),((x5.2.1.1,((x5.2.1.2.1++[d6.2.1]),((x5.2.1.2.2.1++[d6.2.1]),x5.2.1.2.2.2))),()))))))) (agree (req (room (x5.2.1.2.1.length+([d6.2.1]).length) 8) (req (room (x5.2.1.2.2.1.length+([d6.2.1]).length) 8) (some ((),((x5.2.1.1,((x5.2.1.2.1++[d6.2.1]),((x5.2.1.2.2.1++[d6.2.1]),x5.2.1.2.2.2))),()))))) (agree (agree (req (room (x5.2.1.2.1.length+([d6.2.1]).length) 8) (req (room (x5.2.1.2.2.1.length+([d6.2.1]).length) 8) (some ((),((x5.2.1.1,((x5.2.1.2.1++[d6.2.1]),((x5.2.1.2.2.1++[d6.2.1]),x5.2.1.2.2.2))),()))))) (req (room (x5.2.1.2.1.length+([d6.2.1]).length) 8) (req (room (x5.2.1.2.2.1.length+([d6.2.1]).length) 8) (some ((),((x5.2.1.1,((x5.2.1.2.1++[d6.2.1]),((x5.2.1.2.2.1++[d6.2.1]),x5.2.1.2.2.2))),())))))) (agree (req (room (x5.2.1.2.1.length+([d6.2.1]).length) 8) (req (room (x5.2.1.2.2.1.length+([d6.2.1]).length) 8) (some ((),((x5.2.1.1,((x5.2.1.2.1++[d6.2.1]),((x5.2.1.2.2.1++[d6.2.1]),x5.2.1.2.2.2))),()))))) (req (room (x5.2.1.2.1.length+([d6.2.1]).length) 8) (req (room (x5.2.1.2.2.1.length+([d6.2.1]).length) 8) (some ((),((x5.2.1.1,((x5.2.1.2.1++[d6.2.1]),((x5.2.1.2.2.1++[d6.2.1]),x5.2.1.2.2.2))),())))))))))) (agree (agree (agree (req (room (x5.2.1.2.1.length+([d6.2.1]).length) 8) (req (room (x5.2.1.2.2.1.length+([d6.2.1]).length) 8) (some ((),((x5.2.1.1,((x5.2.1.2.1++[d6.2.1]),((x5.2.1.2.2.1++[d6.2.1]),x5.2.1.2.2.2))),()))))) (agree (req (room (x5.2.1.2.1.length+([d6.2.1]).length) 8) (req (room (x5.2.1.2.2.1.length+([d6.2.1]).length) 8) (some ((),((x5.2.1.1,((x5.2.1.2.1++[d6.2.1]),((x5.2.1.2.2.1++[d6.2.1]),x5.2.1.2.2.2))),()))))) (req (room (x5.2.1.2.1.length+([d6.2.1]).length) 8) (req (room (x5.2.1.2.2.1.length+([d6.2.1]).length) 8) (some ((),((x5.2.1.1,((x5.2.1.2.1++[d6.2.1]),((x5.2.1.2.2.1++[d6.2.1]),x5.2.1.2.2.2))),()))))))) (agree (agree (req (room (x5.2.1.2.1.length+([d6.2.1]).length) 8) (req (room (x5.2.1.2.2.1.length+([d6.2.1]).length) 8) (some ((),((x5.2.1.1,((x5.2.1.2.1++[d6.2.1]),((x5.2.1.2.2.1++[d6.2.1]),x5.2.1.2.2.2))),()))))) (req (room (x5.2.1.2.1.length+([d6.2.1]).length) 8) (req (room (x5.2.1.2.2.1.length+([d6.2.1]).length) 8) (some ((),((x5.2.1.1,((x5.2.1.2.1++[d6.2.1]),((x5.2.1.2.2.1++[d6.2.1]),x5.2.1.2.2.2))),())))))) (req (room (x5.2.1.2.1.length+([d6.2.1]).length) 8) (req (room (x5.2.1.2.2.1.length+([d6.2.1]).length) 8) (some ((),((x5.2.1.1,((x5.2.1.2.1++[d6.2.1]),((x5.2.1.2.2.1++[d6.2.1]),x5.2.1.2.2.2))),()))))))) (agree (agree (req (room (x5.2.1.2.1.length+([d6.2.1]).length) 8) (req (room (x5.2.1.2.2.1.length+([d6.2.1]).length) 8) (some ((),((x5.2.1.1,((x5.2.1.2.1++[d6.2.1]),((x5.2.1.2.2.1++[d6.2.1]),x5.2.1.2.2.2))),()))))) (agree (agree (req (room (x5.2.1.2.1.length+([d6.2.1]).length) 8) (req (room (x5.2.1.2.2.1.length+([d6.2.1]).length) 8) (some ((),((x5.2.1.1,((x5.2.1.2.1++[d6.2.1]),((x5.2.1.2.2.1++[d6.2.1]),x5.2.1.2.2.2))),()))))) (req (room (x5.2.1.2.1.length+([d6.2.1]).length) 8) (req (room (x5.2.1.2.2.1.length+([d6.2.1]).length) 8) (some ((),((x5.2.1.1,((x5.2.1.2.1++[d6.2.1]),((x5.2.1.2.2.1++[d6.2.1]),x5.2.1.2.2.2))),())))))) (agree (req (room (x5.2.1.2.1.length+([d6.2.1]).length) 8) (req (room (x5.2.1.2.2.1.length+([d6.2.1]).length) 8) (some ((),((x5.2.1.1,((x5.2.1.2.1++[d6.2.1]),((x5.2.1.2.2.1++[d6.2.1]),x5.2.1.2.2.2))),()))))) (req (room (x5.2.1.2.1.length+([d6.2.1]).length) 8) (req (room (x5.2.1.2.2.1.length+([d6.2.1]).length) 8) (some ((),((x5.2.1.1,((x5.2.1.2.1++[d6.2.1]),((x5.2.1.2.2.1++[d6.2.1]),x5.2.1.2.2.2))),())))))))) (agree (agree (agree (req (room (x5.2.1.2.1.length+([d6.2.1]).length) 8) (req (room (x5.2.1.2.2.1.length+([d6.2.1]).length) 8) (some ((),((x5.2.1.1,((x5.2.1.2.1++[d6.2.1]),((x5.2.1.2.2.1++[d6.2.1]),x5.2.1.2.2.2))),()))))) (req (room (x5.2.1.2.1.length+([d6.2.1]).length) 8) (req (room (x5.2.1.2.2.1.length+([d6.2.1]).length) 8) (some ((),((x5.2.1.1,((x5.2.1.2.1++[d6.2.1]),((x5.2.1.2.2.1++[d6.2.1]),x5.2.1.2.2.2))),())))))) (req (room (x5.2.1.2.1.length+([d6.2.1]).length) 8) (req (room (x5.2.1.2.2.1.length+([d6.2.1]).length) 8) (some ((),((x5.2.1.1,((x5.2.1.2.1++[d6.2.1]),((x5.2.1.2.2.1++[d6.2.1]),x5.2.1.2.2.2))),())))))) (agree (agree (req (room (x5.2.1.2.1.length+([d6.2.1]).length) 8) (req (room (x5.2.1.2.2.1.length+([d6.2.1]).length) 8) (some ((),((x5.2.1.1,((x5.2.1.2.1++[d6.2.1]),((x5.2.1.2.2.1++[d6.2.1]),x5.2.1.2.2.2))),()))))) (req (room (x5.2.1.2.1.length+([d6.2.1]).length) 8) (req (room (x5.2.1.2.2.1.length+([d6.2.1]).length) 8) (some ((),((x5.2.1.1,((x5.2.1.2.1++[d6.2.1]),((x5.2.1.2.2.1++[d6.2.1]),x5.2.1.2.2.2))),())))))) (req (room (x5.2.1.2.1.length+([d6.2.1]).length) 8) (req (room (x5.2.1.2.2.1.length+([d6.2.1]).length) 8) (some ((),((x5.2.1.1,((x5.2.1.2.1++[d6.2.1]),((x5.2.1.2.2.1++[d6.2.1]),x5.2.1.2.2.2))),())))))))))) fun x7 =>
 some (Sum.inl (((w64 (x5.1.1+1)),()),((x7.2.1.1,(x7.2.1.2.1,(x7.2.1.2.2.1,x7.2.1.2.2.2))),()))))
 else some (Sum.inr ((),((x5.2.1.1,(x5.2.1.2.1,(x5.2.1.2.2.1,x5.2.1.2.2.2))),())))
def qhl (r:ByteArray×Int×Int×Zv16×Zv73×Bool×Bool×Zv42×Int×Int×Int×Unit):Option (Zv19×Int×Unit) :=
 Option.bind (qeJ r) fun r3 =>
 bif (r3 !=0) then some ((([]:List Int),((([]:List Int),(([]:List Int),())),((0:Int),((0:Int),())))),(r3,()))
 else Option.bind (qM r.2.2.2.2.1) fun r4 =>
 Option.bind (iterW (qcu r) (((0:Int),()),((r4,(([]:List Int),(([]:List Int),((0:Int),((0:Int),()))))),()))) fun x8 =>
 some ((x8.2.1.1,((x8.2.1.2.1,(x8.2.1.2.2.1,())),x8.2.1.2.2.2)),((0:Int),()))
def qI (slices:List Zv73) (x1:Zv69×(Unit)):Option (Zv58 ⊕ Zv66) :=
 bif (decide (x1.1.2.1<((slices.length:Nat):Int))) then(Option.bind (at? slices x1.1.2.1) fun d2 =>
 bif (decide ((w64 (x1.1.1+((d2.length:Nat):Int)))<0)) then none
 else some (Sum.inl (((w64 (x1.1.1+((d2.length:Nat):Int))),(w64 (x1.1.2.1+1)),()),())))
 else some (Sum.inr ((x1.1.1,()),()))
def qH (slices:List Zv73) (x5:Zv61×(Unit)):Option (Zv45 ⊕ Zv56) :=
 bif (decide (x5.1.2.1<((slices.length:Nat):Int))) then(Option.bind (at? slices x5.1.2.1) fun d6 =>
 req (room (x5.1.1.length+d6.length) 8) (some (Sum.inl (((x5.1.1++d6),(w64 (x5.1.2.1+1)),()),()))))
 else some (Sum.inr ((x5.1.1,()),()))
def qbW (slices:List Zv73):Option Zv73 :=
 Option.bind (iterW (qI slices) (((0:Int),(0:Int),()),())) fun x3 =>
 bif (decide (x3.1.1<0)) then none
 else Option.bind (bif (decide ((w64 (x3.1.1-0))>0)) then req (decide (0<(w64 (x3.1.1-0)))&&room ((w64 (x3.1.1-0))).toNat 8) (req (qh 0 (0:Int) (List.replicate ((w64 (x3.1.1-0))).toNat (0:Int)).length) (some ((((List.replicate ((w64 (x3.1.1-0))).toNat (0:Int)).take 0),()),())))
 else some ((([]:List Int),()),())) fun x4 =>
 Option.bind (iterW (qH slices) ((x4.1.1,(0:Int),()),())) fun x7 =>
 some x7.1.1
def qpZ (r2:List Int) (p:Zv73×Zv50×Int×Int×Unit) (x5:Zv72×(Unit)):Option (Zv66 ⊕ (Zv70 ⊕ Zv64)) :=
 bif (decide (x5.1.1<((r2.length:Nat):Int))) then(req (inb x5.1.1 r2.length) (bif ((decide ((getD' r2 ((x5.1.1).toNat) (0:Int))<0))||(decide ((getD' r2 ((x5.1.1).toNat) (0:Int))>1000))) then some (Sum.inr (Sum.inr ((((((decide (x5.1.1≥0))||((p.2.2.1 !=0)&&(p.2.2.1 !=1)))||(decide (p.2.2.2.1<0)))||(decide (p.2.2.2.1>200))),()),())))
 else some (Sum.inl (((w64 (x5.1.1+1)),()),()))))
 else some (Sum.inr (Sum.inl ((),())))
def qcg (p:Zv73×Zv50×Int×Int×Unit) (r:ByteArray×Int×Int×Zv16×Zv73×Bool×Bool×Zv42×Int×Int×Int×Unit) (r2:List Int) (x3:Zv72×(Unit)):Option (Zv66 ⊕ (Zv70 ⊕ Zv64)) :=
 bif (decide (x3.1.1<((p.1.length:Nat):Int))) then(Option.bind (at? p.1 x3.1.1) fun d4 =>
 bif ((decide (d4<0))||(decide (d4>(w64 ((2:Int)*((r.2.2.2.1.length:Nat):Int)))))) then(Option.map Sum.inr (Option.map Sum.inr (bif (decide (x3.1.1≥0)) then some ((true,()),())
 else Option.bind (α:=Zv70 ⊕ Zv64) (iterW (qpZ r2 p) (((0:Int),()),())) (Sum.elim (fun x6 =>
 some ((((((p.2.2.1 !=0)&&(p.2.2.1 !=1))||(decide (p.2.2.2.1<0)))||(decide (p.2.2.2.1>200))),()),())) some))))
 else some (Sum.inl (((w64 (x3.1.1+1)),()),())))
 else some (Sum.inr (Sum.inl ((),())))
def qcm (r2:List Int) (p:Zv73×Zv50×Int×Int×Unit) (x8:Zv72×(Unit)):Option (Zv66 ⊕ (Zv70 ⊕ Zv64)) :=
 bif (decide (x8.1.1<((r2.length:Nat):Int))) then(req (inb x8.1.1 r2.length) (bif ((decide ((getD' r2 ((x8.1.1).toNat) (0:Int))<0))||(decide ((getD' r2 ((x8.1.1).toNat) (0:Int))>1000))) then some (Sum.inr (Sum.inr ((((((decide (x8.1.1≥0))||((p.2.2.1 !=0)&&(p.2.2.1 !=1)))||(decide (p.2.2.2.1<0)))||(decide (p.2.2.2.1>200))),()),())))
 else some (Sum.inl (((w64 (x8.1.1+1)),()),()))))
 else some (Sum.inr (Sum.inl ((),())))
def qpY (r2:List Int) (p:Zv73×Zv50×Int×Int×Unit) (x12:Zv72×(Unit)):Option (Zv66 ⊕ (Zv70 ⊕ Zv64)) :=
 bif (decide (x12.1.1<((r2.length:Nat):Int))) then(req (inb x12.1.1 r2.length) (bif ((decide ((getD' r2 ((x12.1.1).toNat) (0:Int))<0))||(decide ((getD' r2 ((x12.1.1).toNat) (0:Int))>1000))) then some (Sum.inr (Sum.inr ((((((decide (x12.1.1≥0))||((p.2.2.1 !=0)&&(p.2.2.1 !=1)))||(decide (p.2.2.2.1<0)))||(decide (p.2.2.2.1>200))),()),())))
 else some (Sum.inl (((w64 (x12.1.1+1)),()),()))))
 else some (Sum.inr (Sum.inl ((),())))
def qjm (p:Zv73×Zv50×Int×Int×Unit) (r:ByteArray×Int×Int×Zv16×Zv73×Bool×Bool×Zv42×Int×Int×Int×Unit) (r2:List Int) (x10:Zv72×(Unit)):Option (Zv66 ⊕ (Zv70 ⊕ Zv64)) :=
 bif (decide (x10.1.1<((p.1.length:Nat):Int))) then(Option.bind (at? p.1 x10.1.1) fun d11 =>
 bif ((decide (d11<0))||(decide (d11>(w64 ((2:Int)*((r.2.2.2.1.length:Nat):Int)))))) then(Option.map Sum.inr (Option.map Sum.inr (bif (decide (x10.1.1≥0)) then some ((true,()),())
 else Option.bind (α:=Zv70 ⊕ Zv64) (iterW (qpY r2 p) (((0:Int),()),())) (Sum.elim (fun x13 =>
 some ((((((p.2.2.1 !=0)&&(p.2.2.1 !=1))||(decide (p.2.2.2.1<0)))||(decide (p.2.2.2.1>200))),()),())) some))))
 else some (Sum.inl (((w64 (x10.1.1+1)),()),())))
 else some (Sum.inr (Sum.inl ((),())))
def qio (r2:List Int) (p:Zv73×Zv50×Int×Int×Unit) (x15:Zv72×(Unit)):Option (Zv66 ⊕ (Zv70 ⊕ Zv64)) :=
 bif (decide (x15.1.1<((r2.length:Nat):Int))) then(req (inb x15.1.1 r2.length) (bif ((decide ((getD' r2 ((x15.1.1).toNat) (0:Int))<0))||(decide ((getD' r2 ((x15.1.1).toNat) (0:Int))>1000))) then some (Sum.inr (Sum.inr ((((((decide (x15.1.1≥0))||((p.2.2.1 !=0)&&(p.2.2.1 !=1)))||(decide (p.2.2.2.1<0)))||(decide (p.2.2.2.1>200))),()),())))
 else some (Sum.inl (((w64 (x15.1.1+1)),()),()))))
 else some (Sum.inr (Sum.inl ((),())))
def qg9 (r:ByteArray×Int×Int×Zv16×Zv73×Bool×Bool×Zv42×Int×Int×Int×Unit) (p:Zv73×Zv50×Int×Int×Unit):Option (Int) :=
 bif (((((p.1.length:Nat):Int)!=(w64 (r.2.1*r.2.2.1)))||(((p.2.1.1.length:Nat):Int)!=((r.2.2.2.1.length:Nat):Int)))||(((p.2.1.2.1.length:Nat):Int)!=((r.2.2.2.1.length:Nat):Int))) then some (3:Int)
 else Option.bind (qbW ([p.2.1.1,p.2.1.2.1])) fun r2 =>
 Option.bind (agree (Option.bind (α:=Zv70 ⊕ Zv64) (iterW (qcg p r r2) (((0:Int),()),())) (Sum.elim (fun x7 =>
 Option.bind (α:=Zv70 ⊕ Zv64) (iterW (qcm r2 p) (((0:Int),()),())) (Sum.elim (fun x9 =>
 some ((((((p.2.2.1 !=0)&&(p.2.2.1 !=1))||(decide (p.2.2.2.1<0)))||(decide (p.2.2.2.1>200))),()),())) some)) some)) (Option.bind (α:=Zv70 ⊕ Zv64) (iterW (qjm p r r2) (((0:Int),()),())) (Sum.elim (fun x14 =>
 Option.bind (α:=Zv70 ⊕ Zv64) (iterW (qio r2 p) (((0:Int),()),())) (Sum.elim (fun x16 =>
 some ((((((p.2.2.1 !=0)&&(p.2.2.1 !=1))||(decide (p.2.2.2.1<0)))||(decide (p.2.2.2.1>200))),()),())) some)) some))) fun x17 =>
 bif x17.1.1 then some (4:Int)
 else some (0:Int)
def qhm (r:ByteArray×Int×Int×Zv16×Zv73×Bool×Bool×Zv42×Int×Int×Int×Unit) (p:Zv73×Zv50×Int×Int×Unit):Option (Int) :=
 Option.bind (qeJ r) fun r3 =>
 bif (r3 !=0) then some r3
 else Option.bind (qg9 r p) fun r4 =>
 some r4
def qiw (p:Zv73×Zv50×Int×Int×Unit):Option Zv19 :=
 Option.bind (qM p.1) fun r2 =>
 Option.bind (agree (Option.bind (qM p.2.1.1) fun r3 =>
 Option.bind (qM p.2.1.2.1) fun r4 =>
 some ((),((r2,(r3,(r4,p.2.2))),()))) (Option.bind (qM p.2.1.1) fun r5 =>
 Option.bind (qM p.2.1.2.1) fun r6 =>
 some ((),((r2,(r5,(r6,p.2.2))),())))) fun x7 =>
 some (x7.2.1.1,((x7.2.1.2.1,(x7.2.1.2.2.1,())),x7.2.1.2.2.2))
def qdf (r:ByteArray×Int×Int×Zv16×Zv73×Bool×Bool×Zv42×Int×Int×Int×Unit) (p:Zv73×Zv50×Int×Int×Unit) (m:Int×Int×Int×Unit):Option Zv19 :=
 Option.bind (qiw p) fun r2 =>
 req (inb m.2.1 r2.1.length) (Option.bind (bif (decide (m.1≥0)) then req (inb m.1 r2.1.length) (some ((),((r2.1.set ((m.1).toNat) (0:Int)),r2.2.1.1,r2.2.1.2.1,())))
 else Option.bind (req (inb p.2.2.1 2) (bif (p.2.2.1==0) then req (inb m.2.2.1 r2.2.1.1.length) (req (inb m.2.2.1 r2.2.1.1.length) (some ((),((r2.2.1.1.set ((m.2.2.1).toNat) (w64 ((getD' r2.2.1.1 ((m.2.2.1).toNat) (0:Int))-1))),r2.2.1.2.1,()))))
 else req (inb m.2.2.1 r2.2.1.2.1.length) (req (inb m.2.2.1 r2.2.1.2.1.length) (some ((),(r2.2.1.1,(r2.2.1.2.1.set ((m.2.2.1).toNat) (w64 ((getD' r2.2.1.2.1 ((m.2.2.1).toNat) (0:Int))-1))),())))))) fun x3 =>
 some ((),(r2.1,x3.2.1,x3.2.2.1,()))) fun x4 =>
 req (inb m.2.1 x4.2.1.length) (Option.bind (bif ((decide ((getD' r2.1 ((m.2.1).toNat) (0:Int))>0))&&r.2.2.2.2.2.2.1) then(Option.bind (req (inb p.2.2.1 2) (bif (p.2.2.1==0) then(req (inb p.2.2.1 2) (bif (p.2.2.1==0) then req (inb (w64 ((w64 ((getD' r2.1 ((m.2.1).toNat) (0:Int))-1)).tdiv 2)) x4.2.2.1.length) (req (inb (w64 ((w64 ((getD' r2.1 ((m.2.1).toNat) (0:Int))-1)).tdiv 2)) x4.2.2.1.length) (some ((),((x4.2.2.1.set (((w64 ((w64 ((getD' r2.1 ((m.2.1).toNat) (0:Int))-1)).tdiv 2))).toNat) (if (1000:Int)<(w64 ((getD' x4.2.2.1 (((w64 ((w64 ((getD' r2.1 ((m.2.1).toNat) (0:Int))-1)).tdiv 2))).toNat) (0:Int))+1)) then(1000:Int) else(w64 ((getD' x4.2.2.1 (((w64 ((w64 ((getD' r2.1 ((m.2.1).toNat) (0:Int))-1)).tdiv 2))).toNat) (0:Int))+1)))),x4.2.2.2.1,()))))
 else req (inb (w64 ((w64 ((getD' r2.1 ((m.2.1).toNat) (0:Int))-1)).tdiv 2)) x4.2.2.2.1.length) (req (inb (w64 ((w64 ((getD' r2.1 ((m.2.1).toNat) (0:Int))-1)).tdiv 2)) x4.2.2.1.length) (some ((),((x4.2.2.1.set (((w64 ((w64 ((getD' r2.1 ((m.2.1).toNat) (0:Int))-1)).tdiv 2))).toNat) (if (1000:Int)<(w64 ((getD' x4.2.2.2.1 (((w64 ((w64 ((getD' r2.1 ((m.2.1).toNat) (0:Int))-1)).tdiv 2))).toNat) (0:Int))+1)) then(1000:Int) else(w64 ((getD' x4.2.2.2.1 (((w64 ((w64 ((getD' r2.1 ((m.2.1).toNat) (0:Int))-1)).tdiv 2))).toNat) (0:Int))+1)))),x4.2.2.2.1,()))))))
 else req (inb p.2.2.1 2) (bif (p.2.2.1==0) then req (inb (w64 ((w64 ((getD' r2.1 ((m.2.1).toNat) (0:Int))-1)).tdiv 2)) x4.2.2.1.length) (req (inb (w64 ((w64 ((getD' r2.1 ((m.2.1).toNat) (0:Int))-1)).tdiv 2)) x4.2.2.2.1.length) (some ((),(x4.2.2.1,(x4.2.2.2.1.set (((w64 ((w64 ((getD' r2.1 ((m.2.1).toNat) (0:Int))-1)).tdiv 2))).toNat) (if (1000:Int)<(w64 ((getD' x4.2.2.1 (((w64 ((w64 ((getD' r2.1 ((m.2.1).toNat) (0:Int))-1)).tdiv 2))).toNat) (0:Int))+1)) then(1000:Int) else(w64 ((getD' x4.2.2.1 (((w64 ((w64 ((getD' r2.1 ((m.2.1).toNat) (0:Int))-1)).tdiv 2))).toNat) (0:Int))+1)))),()))))
 else req (inb (w64 ((w64 ((getD' r2.1 ((m.2.1).toNat) (0:Int))-1)).tdiv 2)) x4.2.2.2.1.length) (req (inb (w64 ((w64 ((getD' r2.1 ((m.2.1).toNat) (0:Int))-1)).tdiv 2)) x4.2.2.2.1.length) (some ((),(x4.2.2.1,(x4.2.2.2.1.set (((w64 ((w64 ((getD' r2.1 ((m.2.1).toNat) (0:Int))-1)).tdiv 2))).toNat) (if (1000:Int)<(w64 ((getD' x4.2.2.2.1 (((w64 ((w64 ((getD' r2.1 ((m.2.1).toNat) (0:Int))-1)).tdiv 2))).toNat) (0:Int))+1)) then(1000:Int) else(w64 ((getD' x4.2.2.2.1 (((w64 ((w64 ((getD' r2.1 ((m.2.1).toNat) (0:Int))-1)).tdiv 2))).toNat) (0:Int))+1)))),()))))))) fun x5 =>
 some ((),(x5.2.1,x5.2.2.1,())))
 else some ((),(x4.2.2.1,x4.2.2.2.1,()))) fun x6 =>
 Option.bind (bif ((decide ((getD' r2.1 ((m.2.1).toNat) (0:Int))>0))||(decide (m.1<0))) then some ((),(((x4.2.1.set ((m.2.1).toNat) (w64 ((w64 ((w64 ((2:Int)*m.2.2.1))+p.2.2.1))+1))),(x6.2.1,(x6.2.2.1,(r2.2.2.1,((0:Int),()))))),()))
 else some ((),(((x4.2.1.set ((m.2.1).toNat) (w64 ((w64 ((w64 ((2:Int)*m.2.2.1))+p.2.2.1))+1))),(x6.2.1,(x6.2.2.1,(r2.2.2.1,((if (200:Int)<(w64 (p.2.2.2.1+1)) then(200:Int) else(w64 (p.2.2.2.1+1))),()))))),()))) fun x7 =>
 some (x7.2.1.1,((x7.2.1.2.1,(x7.2.1.2.2.1,())),((w64 ((1:Int)-p.2.2.1)),x7.2.1.2.2.2.2)))))
end
noncomputable section
def qdP (n:Int):Option (Int) :=
 bif (decide (n>0)) then some (w64 (n-1))
 else bif (decide (n<0)) then some (w64 (n+1))
 else some (0:Int)
def qat (n:Int):Int :=
 bif (decide (n>0)) then(w64 (n-1))
 else bif (decide (n<0)) then(w64 (n+1))
 else(0:Int)
theorem qlL (n:Int):qdP n=some (qat n):=by
 unfold qdP qat
 first | rfl | simp only[qW]
def qff (p:Zv73×Zv50×Int×Int×Unit) (result:Int):Option (Int) :=
 bif (result==(w64 ((1:Int)+p.2.2.1))) then some (1000:Int)
 else bif (result==(w64 ((2:Int)-p.2.2.1))) then some (-1000:Int)
 else some (0:Int)
def qcC (p:Zv73×Zv50×Int×Int×Unit) (result:Int):Int :=
 bif (result==(w64 ((1:Int)+p.2.2.1))) then(1000:Int)
 else bif (result==(w64 ((2:Int)-p.2.2.1))) then(-1000:Int)
 else(0:Int)
theorem qol (p:Zv73×Zv50×Int×Int×Unit) (result:Int):qff p result=some (qcC p result):=by
 unfold qff qcC
 first | rfl | simp only[qW]
def qr (r2:List Zv63) (p:Zv73×Zv50×Int×Int×Unit) (self:Zv1→Option Zv4) (depth:Int) (x3:Zv72×Zv7):Option ((Zv72×Zv7) ⊕ (Zv3 ⊕ Zv4)) :=
 bif (decide (x3.1.1<((r2.length:Nat):Int))) then(req (inb x3.1.1 r2.length) (Option.bind (qdf (x3.2.1.1,(x3.2.1.2.1,(x3.2.1.2.2.1,(x3.2.1.2.2.2.1,(x3.2.1.2.2.2.2.1,(x3.2.1.2.2.2.2.2.1,(x3.2.1.2.2.2.2.2.2.1,(x3.2.1.2.2.2.2.2.2.2.1,(x3.2.1.2.2.2.2.2.2.2.2.1,(x3.2.1.2.2.2.2.2.2.2.2.2.1,(x3.2.1.2.2.2.2.2.2.2.2.2.2.1,()))))))))))) p (getD' r2 ((x3.1.1).toNat) ((0:Int),((0:Int),((0:Int),()))))) fun r4 =>
 Option.bind (self (((x3.2.1.1,(x3.2.1.2.1,(x3.2.1.2.2.1,(x3.2.1.2.2.2.1,(x3.2.1.2.2.2.2.1,(x3.2.1.2.2.2.2.2.1,(x3.2.1.2.2.2.2.2.2.1,(x3.2.1.2.2.2.2.2.2.2.1,(x3.2.1.2.2.2.2.2.2.2.2.1,(x3.2.1.2.2.2.2.2.2.2.2.2.1,(x3.2.1.2.2.2.2.2.2.2.2.2.2.1,()))))))))))),x3.2.1.2.2.2.2.2.2.2.2.2.2.2),(r4.1,((r4.2.1.1,(r4.2.1.2.1,())),r4.2.2)),(w64 (depth-1)),())) fun r5 =>
 bif (!r5.2) then some (Sum.inr (Sum.inr (r5.1,false)))
 else some (Sum.inl (((w64 (x3.1.1+1)),()),((r5.1.1.1,(r5.1.1.2.1,(r5.1.1.2.2.1,(r5.1.1.2.2.2.1,(r5.1.1.2.2.2.2.1,(r5.1.1.2.2.2.2.2.1,(r5.1.1.2.2.2.2.2.2.1,(r5.1.1.2.2.2.2.2.2.2.1,(r5.1.1.2.2.2.2.2.2.2.2.1,(r5.1.1.2.2.2.2.2.2.2.2.2.1,(r5.1.1.2.2.2.2.2.2.2.2.2.2.1,r5.1.2))))))))))),())))))
 else some (Sum.inr (Sum.inl ((),(x3.2.1,()))))
def qbe (self:Zv1→Option Zv4) (c:Zv10×Int×Int×Unit) (p:Zv73×Zv50×Int×Int×Unit) (depth:Int):Option Zv4 :=
 bif (decide ((w64 (c.2.1+1))>50000)) then some ((c.1,((w64 (c.2.1+1)),c.2.2)),false)
 else bif (depth==0) then some ((c.1,((w64 (c.2.1+1)),((w64 (c.2.2.1+1)),()))),true)
 else Option.bind (qg2 c.1 p) fun r2 =>
 Option.bind (α:=Zv3 ⊕ Zv4) (iterW (qr r2 p self depth) (((0:Int),()),((c.1.1,(c.1.2.1,(c.1.2.2.1,(c.1.2.2.2.1,(c.1.2.2.2.2.1,(c.1.2.2.2.2.2.1,(c.1.2.2.2.2.2.2.1,(c.1.2.2.2.2.2.2.2.1,(c.1.2.2.2.2.2.2.2.2.1,(c.1.2.2.2.2.2.2.2.2.2.1,(c.1.2.2.2.2.2.2.2.2.2.2.1,((w64 (c.2.1+1)),c.2.2)))))))))))),()))) (Sum.elim (fun x6 =>
 some (((x6.2.1.1,(x6.2.1.2.1,(x6.2.1.2.2.1,(x6.2.1.2.2.2.1,(x6.2.1.2.2.2.2.1,(x6.2.1.2.2.2.2.2.1,(x6.2.1.2.2.2.2.2.2.1,(x6.2.1.2.2.2.2.2.2.2.1,(x6.2.1.2.2.2.2.2.2.2.2.1,(x6.2.1.2.2.2.2.2.2.2.2.2.1,(x6.2.1.2.2.2.2.2.2.2.2.2.2.1,()))))))))))),x6.2.1.2.2.2.2.2.2.2.2.2.2.2),true)) some)
def qP (self:Zv1→Option Zv4) (x:Zv6×Zv19×Int×Unit):Option Zv4:=qbe self x.1 x.2.1 x.2.2.1
def qdl (c:Zv10×Int×Int×Unit) (p:Zv73×Zv50×Int×Int×Unit) (depth:Int):Option Zv4:=fixW qP (c,p,depth,())
def qg6 (r:ByteArray×Int×Int×Zv16×Zv73×Bool×Bool×Zv42×Int×Int×Int×Unit) (p:Zv73×Zv50×Int×Int×Unit) (depth:Int):Option Zv63 :=
 Option.bind (qhm r p) fun r3 =>
 bif (r3 !=0) then some ((0:Int),((0:Int),(r3,())))
 else bif ((decide (depth<0))||(decide (depth>12))) then some ((0:Int),((0:Int),((1:Int),())))
 else Option.bind (qdl (r,((0:Int),((0:Int),()))) p depth) fun r4 =>
 bif (!r4.2) then some ((0:Int),((0:Int),((17:Int),())))
 else some (r4.1.2.1,(r4.1.2.2.1,((0:Int),())))
def qiL (r:ByteArray×Int×Int×Zv16×Zv73×Bool×Bool×Zv42×Int×Int×Int×Unit) (p:Zv73×Zv50×Int×Int×Unit) (depth:Int):Option Zv69 :=
 Option.bind (qg6 r p depth) fun r2 =>
 some (r2.1,r2.2.2)
def qaN (r4:List Zv63) (r:ByteArray×Int×Int×Zv16×Zv73×Bool×Bool×Zv42×Int×Int×Int×Unit) (p:Zv73×Zv50×Int×Int×Unit) (self:Zv2→Option (Int)) (depth:Int) (x5:Zv69×Zv48):Option ((Zv69×Zv48) ⊕ (Zv72×Zv48)) :=
 bif (decide (x5.1.2.1<((r4.length:Nat):Int))) then(req (inb x5.1.2.1 r4.length) (Option.bind (agree (Option.bind (qdf r p (getD' r4 ((x5.1.2.1).toNat) ((0:Int),((0:Int),((0:Int),()))))) fun r6 =>
 Option.bind (self (r,(r6.1,((r6.2.1.1,(r6.2.1.2.1,())),r6.2.2)),(w64 (depth-1)),())) fun r7 =>
 some (((qat (w64 (0-r7))),()),())) (Option.bind (qdf r p (getD' r4 ((x5.1.2.1).toNat) ((0:Int),((0:Int),((0:Int),()))))) fun r8 =>
 Option.bind (self (r,(r8.1,((r8.2.1.1,(r8.2.1.2.1,())),r8.2.2)),(w64 (depth-1)),())) fun r9 =>
 some (((qat (w64 (0-r9))),()),()))) fun x10 =>
 Option.bind (bif (decide (x10.1.1>x5.1.1)) then some ((x10.1.1,()),((getD' r4 ((x5.1.2.1).toNat) ((0:Int),((0:Int),((0:Int),())))),()))
 else some ((x5.1.1,()),(x5.2.1,()))) fun x11 =>
 some (Sum.inl ((x11.1.1,(w64 (x5.1.2.1+1)),()),(x11.2.1,())))))
 else some (Sum.inr ((x5.1.1,()),(x5.2.1,())))
def qfm (self:Zv2→Option (Int)) (r:ByteArray×Int×Int×Zv16×Zv73×Bool×Bool×Zv42×Int×Int×Int×Unit) (p:Zv73×Zv50×Int×Int×Unit) (depth:Int):Option (Int) :=
 Option.bind (qeM r p) fun r3 =>
 bif (r3 !=0) then some (qcC p r3)
 else bif (depth==0) then some (0:Int)
 else Option.bind (qc5 r p) fun r4 =>
 Option.bind (iterW (qaN r4 r p self depth) (((-2000:Int),(0:Int),()),(((0:Int),((0:Int),((0:Int),()))),()))) fun x12 =>
 some x12.1.1
def qbZ (self:Zv2→Option (Int)) (x:Zv10×Zv19×Int×Unit):Option (Int):=qfm self x.1 x.2.1 x.2.2.1
def qmg (r:ByteArray×Int×Int×Zv16×Zv73×Bool×Bool×Zv42×Int×Int×Int×Unit) (p:Zv73×Zv50×Int×Int×Unit) (depth:Int):Option (Int):=fixW qbZ (r,p,depth,())
def qb5 (r:ByteArray×Int×Int×Zv16×Zv73×Bool×Bool×Zv42×Int×Int×Int×Unit) (p:Zv73×Zv50×Int×Int×Unit) (depth:Int):Option Zv69 :=
 Option.bind (qiL r p depth) fun r3 =>
 bif (r3.2.1 !=0) then some ((0:Int),r3.2)
 else Option.bind (qmg r p depth) fun r4 =>
 some (r4,((0:Int),()))
end
end Go.Proofs.YteahiolockghkaaGreatDoor
