/- Several texts in one: DenD, DenE, DenF, DenG, Tabs, NimsumHeapsS, CopyK, DenP, DenL, NimsumHeapsM, NimA, NimsumHeapsK, NimT, NimsumHeapsL. -/
import Derived.Test.YtcifaoaepbidoaaDenC
import Derived.Test.YtcifaoaepbidoaaMAA
import Derived.Laws.CopyRow
namespace Go.Den
open Go.Eng
set_option linter.unusedVariables false
set_option linter.unusedSectionVars false
set_option linter.unusedSimpArgs false
variable [CT : Ctx]

theorem listed_spec {o:Nat}:∀ {l:List (Nat×Option OTy)},listed o l=true↔o∈l.map Prod.fst
  | []=>by simp[listed]
  | (p,q)::r=>by
    simp only[listed,Bool.or_eq_true,List.map_cons,List.mem_cons,listed_spec (l:=r)];constructor
    · rintro (h | h)
      · exact .inl (Nat.eq_of_beq_eq_true h).symm
      · exact .inr h
    · rintro (rfl | h)
      · exact .inl (by simp)
      · exact .inr h
theorem qR {o:Nat}:∀ {l:List (Nat×Option OTy)},qI o l=true→listed o l=true
  | (p,none)::r,h=>by
    simp only[qI,Bool.or_eq_true] at h;simp only[listed,Bool.or_eq_true];exact h.imp id qR
  | (p,some _)::r,h=>by
    simp only[qI] at h;simp only[listed,Bool.or_eq_true];exact .inr (qR h)

section
variable {F : Fr} {n0 : Nat} {objs' : List OB} {γ' : Gh} {w' : World} {T : Sp}

theorem qP:∀(l:List (Nat×Option OTy)) (y:DL (tysO l)) (base:List OB),base.length≤(concO l y base).length
  | [],_,base=>Nat.le_refl _
  | (o,none)::r,y,base=>by
    have:=qP r y (base.set o .dead);simpa[concO] using this
  | (o,some (.box τ))::r,y,base=>by
    have:=qP r y.2 (base.set o (.box (cc τ y.1 base.length).1)++(cc τ y.1 base.length).2);simp only[List.length_append,List.length_set] at this;simp only[concO];omega
  | (o,some (.arr i e))::r,y,base=>by
    have:=qP r y.2 (base.set o (.arr i e y.1 false));simpa[concO] using this
  | (o,some (.mp k v))::r,y,base=>by
    have:=qP r y.2 (base.set o (.mp k v y.1));simpa[concO] using this
  | (o,some (.bld t i))::r,y,base=>by
    have:=qP r y.2 (base.set o (.bld t (.os base.length))++(cc (.osl i (.int .u8)) y.1 base.length).2);simp only[List.length_append,List.length_set] at this;simp only[concO];omega
  | (o,some (.ar t p ow))::r,y,base=>by
    have:=qP r y.2 (base.set o .dead++[.ar t p ow y.1 none]);simp only[List.length_append,List.length_set] at this;simp only[concO];omega
theorem qk:∀(l:List (Nat×Option OTy)) (y:DL (tysO l)) (base:List OB) (o:Nat),o<base.length→listed o l=false→(concO l y base)[o]?=base[o]?
  | [],_,base,o,_,_=>rfl
  | (p,none)::r,y,base,o,ho,hl=>by
    simp only[listed,Bool.or_eq_false_iff] at hl
    have hne:p≠o:=fun e=>by subst e;simp at hl
    simp only[concO];rw[qk r y (base.set p .dead) o (by simpa using ho) hl.2,qf hne]
  | (p,some (.box τ))::r,y,base,o,ho,hl=>by
    simp only[listed,Bool.or_eq_false_iff] at hl
    have hne:p≠o:=fun e=>by subst e;simp at hl
    simp only[concO];rw[qk r y.2 _ o (by simp;omega) hl.2,List.getElem?_append_left (by simpa using ho),qf hne]
  | (p,some (.arr i e))::r,y,base,o,ho,hl=>by
    simp only[listed,Bool.or_eq_false_iff] at hl
    have hne:p≠o:=fun e=>by subst e;simp at hl
    simp only[concO];rw[qk r y.2 (base.set p (.arr i e y.1 false)) o (by simpa using ho) hl.2,qf hne]
  | (p,some (.mp k v))::r,y,base,o,ho,hl=>by
    simp only[listed,Bool.or_eq_false_iff] at hl
    have hne:p≠o:=fun e=>by subst e;simp at hl
    simp only[concO];rw[qk r y.2 (base.set p (.mp k v y.1)) o (by simpa using ho) hl.2,qf hne]
  | (p,some (.bld t i))::r,y,base,o,ho,hl=>by
    simp only[listed,Bool.or_eq_false_iff] at hl
    have hne:p≠o:=fun e=>by subst e;simp at hl
    simp only[concO];rw[qk r y.2 _ o (by simp;omega) hl.2,List.getElem?_append_left (by simpa using ho),qf hne]
  | (p,some (.ar t q ow))::r,y,base,o,ho,hl=>by
    simp only[listed,Bool.or_eq_false_iff] at hl
    have hne:p≠o:=fun e=>by subst e;simp at hl
    simp only[concO];rw[qk r y.2 _ o (by simp;omega) hl.2,List.getElem?_append_left (by simpa using ho),qf hne]
theorem qa3 (r:ORel F objs' γ' w') (hT:Sp.le (Imm objs' γ' w') T):∀(l:List (Nat×Option OTy)) {y:DL (tysO l)} (base:List OB),absO objs' l=some y→(l.map Prod.fst).Nodup→(∀q∈l,q.1<n0)→n0≤base.length →
    (∀o∈qn (idsD objs') objs' l,∀b,(γ' o).2=some b→T b) →
    ∃gs:List (Value×Option Nat),(concO l y base).length=base.length+gs.length∧gs.flatMap (fun g=>g.2.toList)=blocks γ' (qn (idsO objs') objs' l)∧(∀o∈qn (idsO objs') objs' l,Mut objs' o) ∧
      (∀q∈l,Mut (concO l y base) q.1→Mut objs' q.1∧qI q.1 l=false)∧(∀q∈l,(∀i (e:Ty) (xs:List (D e)),(concO l y base)[q.1]?≠some (.arr i e xs true))∧∀ob,(concO l y base)[q.1]?=some ob→isAr ob=false) ∧
      ∀(OF:List OB) (γF:Gh),(∀o,o<(concO l y base).length→OF[o]?=(concO l y base)[o]?)→Sp.le T (Imm OF γF w')→(γF.m=γ'.m∧γF.B=γ'.B∧∀o x,n0≤o→γF.kc o x=γ'.kc ((arOf objs').getD 0) x)→(∀o,o<n0→γF o=γ' o)→(∀j g,gs[j]?=some g→γF (base.length+j)=g)→(concO l y base).length≤OF.length →
        (∀q∈l,∀ob,OF[q.1]?=some ob→ObR OF γF w' ob (γF q.1))∧(∀o ob,base.length≤o→o<(concO l y base).length→OF[o]?=some ob→ObR OF γF w' ob (γF o)∧(mutOb ob=true∨isAr ob=true)∧(∀t p ow xs lent,ob = .ar t p ow xs lent→ArO OF γF w' o t p ow xs lent))
  | [],y,base,_,_,_,_,_=>⟨[],by simp[concO],by simp[qn,blocks],fun o ho=>(by simp[qn] at ho),fun q hq=>(by cases hq),fun q hq=>(by cases hq),fun OF γF _ _ _ _ _ _=>⟨fun q hq=>(by cases hq),fun o ob h1 h2=>(by simp[concO] at h2;omega)⟩⟩
  | (p,none)::l,y,base,h,hnd,hlt,hb,hids=>by
    simp only[absO] at h;simp only[List.map_cons,List.nodup_cons] at hnd;have hpl:listed p l=false:=Bool.eq_false_iff.2 fun hh=>hnd.1 (listed_spec.1 hh);have hp:=hlt (p,none) List.mem_cons_self;obtain⟨gs,g1,g2,g3,g4,g4b,g5⟩:=qa3 r hT l (base.set p .dead) h hnd.2 (fun q hq=>hlt q (List.mem_cons_of_mem _ hq)) (by simpa using hb) (fun o ho=>hids o (by simpa[qn] using ho));have hpe:(concO l y (base.set p .dead))[p]?=some .dead:=by
      rw[qk l y _ p (by simp;simp at hp;omega) hpl,List.getElem?_set_self (by simp at hp;omega)]
    refine⟨gs,by simpa[concO] using g1,by simpa[qn] using g2,fun o ho=>g3 o (by simpa[qn] using ho),fun q hq hm=>?_,fun q hq=>?_,fun OF γF e1 e2 eg e3 e4 e5=>?_⟩
    · rcases List.mem_cons.1 hq with rfl | hq
      · obtain⟨ob,h1,h2⟩:=hm;simp only[concO] at h1;rw[hpe] at h1;cases h1;cases h2
      · obtain⟨h1,h2⟩:=g4 q hq hm;refine⟨h1,?_⟩;simp only[qI,Bool.or_eq_false_iff];refine⟨Bool.eq_false_iff.2 fun hh=>?_,h2⟩;have:=Nat.eq_of_beq_eq_true hh;exact hnd.1 (this▸List.mem_map_of_mem hq)
    · rcases List.mem_cons.1 hq with rfl | hq
      · simp only[concO];rw[hpe];exact⟨by simp,fun ob h=>by cases h;rfl⟩
      · exact g4b q hq
    · obtain⟨f1,f2⟩:=g5 OF γF e1 e2 eg e3 (by simpa using e4) e5;refine⟨fun q hq ob hob=>?_,fun o ob h1 h2=>f2 o ob (by simpa using h1) h2⟩;rcases List.mem_cons.1 hq with rfl | hq
      · have hlen:=qP l y (base.set p .dead);rw[e1 p (by simp only[concO];simp at hlen hp;omega)] at hob;simp only[concO] at hob;rw[hpe] at hob;cases hob;trivial
      · exact f1 q hq ob hob
  | (p,some (.mp kt vt))::l,y,base,h,hnd,hlt,hb,hids=>by
    simp only[absO,Option.bind_eq_some_iff] at h;obtain⟨ob,hob,h⟩:=h
    cases ob with
    | mp k' v' xs =>
        simp only[Option.bind_eq_some_iff] at h;obtain⟨x,hx,y2,hy,hyy⟩:=h;have hyy:(x,y2)=y:=Option.some.inj hyy;subst hyy;obtain⟨rfl,rfl,hx⟩:=qc4 hx;subst hx;simp only[List.map_cons,List.nodup_cons] at hnd;have hpl:listed p l=false:=Bool.eq_false_iff.2 fun hh=>hnd.1 (listed_spec.1 hh);have hp:=hlt (p,some (.mp k' v')) List.mem_cons_self;obtain⟨gs,g1,g2,g3,g4,g4b,g5⟩:=qa3 r hT l (base.set p (.mp k' v' x)) hy hnd.2 (fun q hq=>hlt q (List.mem_cons_of_mem _ hq)) (by simpa using hb) (fun o ho=>hids o (by simpa[qn] using ho));have hpe:(concO l y2 (base.set p (.mp k' v' x)))[p]?=some (.mp k' v' x):=by
          rw[qk l y2 _ p (by simp;simp at hp;omega) hpl,List.getElem?_set_self (by simp at hp;omega)]
        refine⟨gs,by simpa[concO] using g1,by simpa[qn] using g2,fun o ho=>g3 o (by simpa[qn] using ho),fun q hq hm=>?_,fun q hq=>?_,fun OF γF e1 e2 eg e3 e4 e5=>?_⟩
        · rcases List.mem_cons.1 hq with rfl | hq
          · refine⟨⟨_,hob,rfl⟩,?_⟩;simp only[qI]
            exact Bool.eq_false_iff.2 fun hh=>by rw[qR hh] at hpl;cases hpl
          · obtain⟨h1,h2⟩:=g4 q hq hm;exact⟨h1,by simpa[qI] using h2⟩
        · rcases List.mem_cons.1 hq with rfl | hq
          · simp only[concO];rw[hpe];exact⟨by simp,fun ob h=>by cases h;rfl⟩
          · exact g4b q hq
        · obtain⟨f1,f2⟩:=g5 OF γF e1 e2 eg e3 (by simpa using e4) e5;refine⟨fun q hq ob' hob'=>?_,fun o ob h1 h2=>f2 o ob (by simpa using h1) h2⟩;rcases List.mem_cons.1 hq with rfl | hq
          · have hlen:=qP l y2 (base.set p (.mp k' v' x));rw[e1 p (by simp only[concO];simp at hlen hp;omega)] at hob';simp only[concO] at hob';rw[hpe] at hob';cases hob';have h6:=r.rep p _ hob;rw[e3 p hp];exact h6
          · exact f1 q hq ob' hob'
    | _=>simp at h
  | (p,some (.arr i e))::l,y,base,h,hnd,hlt,hb,hids=>by
    simp only[absO,Option.bind_eq_some_iff] at h;obtain⟨ob,hob,h⟩:=h
    cases ob with
    | arr i' e' xs fz =>
      cases fz with
      | true=>simp at h
      | false =>
        simp only[chk_some,Option.bind_eq_some_iff] at h;obtain⟨hi,x,hx,y2,hy,hyy⟩:=h;have hyy:(x,y2)=y:=Option.some.inj hyy;subst hyy;have hi:=Nat.eq_of_beq_eq_true hi;subst hi;obtain⟨rfl,hx⟩:=qE hx;subst hx;simp only[List.map_cons,List.nodup_cons] at hnd;have hpl:listed p l=false:=Bool.eq_false_iff.2 fun hh=>hnd.1 (listed_spec.1 hh);have hp:=hlt (p,some (.arr i e')) List.mem_cons_self;obtain⟨gs,g1,g2,g3,g4,g4b,g5⟩:=qa3 r hT l (base.set p (.arr i e' xs false)) hy hnd.2 (fun q hq=>hlt q (List.mem_cons_of_mem _ hq)) (by simpa using hb) (fun o ho=>hids o (by simpa[qn] using ho));have hpe:(concO l y2 (base.set p (.arr i e' xs false)))[p]?=some (.arr i e' xs false):=by
          rw[qk l y2 _ p (by simp;simp at hp;omega) hpl,List.getElem?_set_self (by simp at hp;omega)]
        refine⟨gs,by simpa[concO] using g1,by simpa[qn] using g2,fun o ho=>g3 o (by simpa[qn] using ho),fun q hq hm=>?_,fun q hq=>?_,fun OF γF e1 e2 eg e3 e4 e5=>?_⟩
        · rcases List.mem_cons.1 hq with rfl | hq
          · refine⟨⟨_,hob,rfl⟩,?_⟩;simp only[qI]
            exact Bool.eq_false_iff.2 fun hh=>by rw[qR hh] at hpl;cases hpl
          · obtain⟨h1,h2⟩:=g4 q hq hm;exact⟨h1,by simpa[qI] using h2⟩
        · rcases List.mem_cons.1 hq with rfl | hq
          · simp only[concO];rw[hpe];exact⟨by simp,fun ob h=>by cases h;rfl⟩
          · exact g4b q hq
        · obtain⟨f1,f2⟩:=g5 OF γF e1 e2 eg e3 (by simpa using e4) e5;refine⟨fun q hq ob' hob'=>?_,fun o ob h1 h2=>f2 o ob (by simpa using h1) h2⟩;rcases List.mem_cons.1 hq with rfl | hq
          · have hlen:=qP l y2 (base.set p (.arr i e' xs false));rw[e1 p (by simp only[concO];simp at hlen hp;omega)] at hob';simp only[concO] at hob';rw[hpe] at hob';cases hob';obtain⟨us,h6,h7⟩:=r.rep p _ hob;rw[e3 p hp];exact⟨us,h6,h7.mono fun x c hx=>Rep.mono (hT.trans e2) (fun _ _=>rfl) _ hx (by simp)⟩
          · exact f1 q hq ob' hob'
    | _=>simp at h
  | (p,some (.box τ))::l,y,base,h,hnd,hlt,hb,hids=>by
    simp only[absO,Option.bind_eq_some_iff] at h;obtain⟨ob,hob,h⟩:=h
    cases ob with
    | box cs =>
      simp only[Option.bind_eq_some_iff] at h;obtain⟨x,hx,y2,hy,hyy⟩:=h;have hyy:(x,y2)=y:=Option.some.inj hyy;subst hyy;simp only[List.map_cons,List.nodup_cons] at hnd;have hpl:listed p l=false:=Bool.eq_false_iff.2 fun hh=>hnd.1 (listed_spec.1 hh);have hp:p<n0:=hlt (p,some (.box τ)) List.mem_cons_self;obtain⟨b,Tt,cells,hg,hheap,hvl⟩:=r.rep p _ hob;have hids1:∀o∈idsD objs' τ cs,∀b,(γ' o).2=some b→T b:=fun o ho=>hids o (by simp only[qn,hob,List.mem_append];exact .inl ho);obtain⟨hrep,hmo⟩:=qO (S:=T) r hT τ hx hvl hids1;obtain⟨gs0,c1,c2,c3⟩:=qbM τ hrep base.length
      obtain⟨gs,g1,g2,g3,g4,g4b,g5⟩:=qa3 r hT l (base.set p (.box (cc τ x base.length).1)++(cc τ x base.length).2) hy hnd.2 (fun q hq=>hlt q (List.mem_cons_of_mem _ hq)) (by simp;omega) (fun o ho=>hids o (by simp only[qn,hob,List.mem_append];exact .inr ho));have hpe:(concO l y2 (base.set p (.box (cc τ x base.length).1)++(cc τ x base.length).2))[p]?=some (.box (cc τ x base.length).1):=by
        rw[qk l y2 _ p (by simp;omega) hpl,List.getElem?_append_left (by simp;omega),List.getElem?_set_self (by omega)]
      have hlen0:(base.set p (.box (cc τ x base.length).1)++(cc τ x base.length).2).length=base.length+gs0.length:=by simp[c1]
      refine⟨gs0++gs,?_,?_,fun o ho=>?_,fun q hq hm=>?_,fun q hq=>?_,fun OF γF e1 e2 eg e3 e4 e5=>?_⟩
      · simp only[concO];rw[g1,hlen0,List.length_append,Nat.add_assoc]
      · rw[List.flatMap_append,←c2,g2];simp only[qn,hob,blocks,List.flatMap_append]
      · simp only[qn,hob,List.mem_append] at ho;exact ho.elim (hmo o) (g3 o)
      · rcases List.mem_cons.1 hq with rfl | hq
        · refine⟨⟨_,hob,rfl⟩,?_⟩;simp only[qI]
          exact Bool.eq_false_iff.2 fun hh=>by rw[qR hh] at hpl;cases hpl
        · obtain⟨h1,h2⟩:=g4 q hq hm;exact⟨h1,by simpa[qI] using h2⟩
      · rcases List.mem_cons.1 hq with rfl | hq
        · simp only[concO];rw[hpe];exact⟨by simp,fun ob h=>by cases h;rfl⟩
        · exact g4b q hq
      · have hle:=qP l y2 (base.set p (.box (cc τ x base.length).1)++(cc τ x base.length).2);rw[hlen0] at hle;simp only[concO] at e1 e5;have c3':=c3 OF γF e2 (fun j g hj=>e4 j g (by rw[List.getElem?_append_left (qe hj)];exact hj)) (by omega)
        obtain⟨f1,f2⟩:=g5 OF γF e1 e2 eg e3 (fun j g hj=>by
          rw[hlen0,Nat.add_assoc]
          exact e4 (gs0.length+j) g (by rw[List.getElem?_append_right (by omega)];simpa using hj)) e5
        refine⟨fun q hq ob' hob'=>?_,fun o ob' h1 h2 h3=>?_⟩
        · rcases List.mem_cons.1 hq with rfl | hq
          · rw[e1 p (by omega),hpe] at hob';cases hob';rw[e3 p hp];exact⟨b,Tt,cells,hg,hheap,c3'.1⟩
          · exact f1 q hq ob' hob'
        · simp only[concO] at h2;by_cases ho:o<base.length+gs0.length
          · rw[e1 o h2,qk l y2 _ o (by rw[hlen0];exact ho) (Bool.eq_false_iff.2 fun hh=>by
              obtain⟨q,hq,rfl⟩:=List.mem_map.1 (listed_spec.1 hh);have:=hlt q (List.mem_cons_of_mem _ hq)
              omega),List.getElem?_append_right (by simpa using h1)] at h3
            simp only[List.length_set] at h3
            have hj:o-base.length<gs0.length:=by omega
            have e6:=e4 (o-base.length) gs0[o-base.length] (by rw[List.getElem?_append_left hj];exact List.getElem?_eq_getElem hj);rw[show base.length+(o-base.length)=o by omega] at e6;rw[e6];have h4:=c3'.2 (o-base.length) ob' _ h3 (List.getElem?_eq_getElem hj);exact⟨h4.1,.inl h4.2,fun t p ow xs lent e=>by rw[e] at h4;cases h4.2⟩
          · exact f2 o ob' (by rw[hlen0];omega) h2 h3
    | _=>simp at h
  | (p,some (.bld tb i))::l,y,base,h,hnd,hlt,hb,hids=>by
    simp only[absO,Option.bind_eq_some_iff] at h;obtain⟨ob,hob,h⟩:=h
    cases ob with
    | bld tb' c =>
      simp only[chk_some,Option.bind_eq_some_iff] at h;obtain⟨htt,x,hx,y2,hy,hyy⟩:=h;obtain rfl:=Nat.eq_of_beq_eq_true htt;have hyy:(x,y2)=y:=Option.some.inj hyy;subst hyy;simp only[List.map_cons,List.nodup_cons] at hnd;have hpl:listed p l=false:=Bool.eq_false_iff.2 fun hh=>hnd.1 (listed_spec.1 hh);have hp:p<n0:=hlt (p,some (.bld tb' i)) List.mem_cons_self;obtain⟨b,pp,vv,hg,hheap,hpp,hvc⟩:=r.rep p _ hob;have hvl:VRL objs' γ' w' [c] [vv]:=⟨vv,[],rfl,hvc,rfl⟩;have hids1:∀o∈idsD objs' (.osl i (.int .u8)) [c],∀b,(γ' o).2=some b→T b:=fun o ho=>hids o (by simp only[qn,hob,List.mem_append];exact .inl ho);obtain⟨hrep,hmo⟩:=qO (S:=T) r hT (.osl i (.int .u8)) hx hvl hids1;obtain⟨gs0,c1,c2,c3⟩:=qbM (.osl i (.int .u8)) hrep base.length
      obtain⟨gs,g1,g2,g3,g4,g4b,g5⟩:=qa3 r hT l (base.set p (.bld tb' (.os base.length))++(cc (.osl i (.int .u8)) x base.length).2) hy hnd.2 (fun q hq=>hlt q (List.mem_cons_of_mem _ hq)) (by simp;omega) (fun o ho=>hids o (by simp only[qn,hob,List.mem_append];exact .inr ho));have hpe:(concO l y2 (base.set p (.bld tb' (.os base.length))++(cc (.osl i (.int .u8)) x base.length).2))[p]?=some (.bld tb' (.os base.length)):=by
        rw[qk l y2 _ p (by simp;omega) hpl,List.getElem?_append_left (by simp;omega),List.getElem?_set_self (by omega)]
      have hlen0:(base.set p (.bld tb' (.os base.length))++(cc (.osl i (.int .u8)) x base.length).2).length=base.length+gs0.length:=by simp[c1]
      refine⟨gs0++gs,?_,?_,fun o ho=>?_,fun q hq hm=>?_,fun q hq=>?_,fun OF γF e1 e2 eg e3 e4 e5=>?_⟩
      · simp only[concO];rw[g1,hlen0,List.length_append,Nat.add_assoc]
      · rw[List.flatMap_append,←c2,g2];simp only[qn,hob,blocks,List.flatMap_append]
      · simp only[qn,hob,List.mem_append] at ho;exact ho.elim (hmo o) (g3 o)
      · rcases List.mem_cons.1 hq with rfl | hq
        · refine⟨⟨_,hob,rfl⟩,?_⟩;simp only[qI]
          exact Bool.eq_false_iff.2 fun hh=>by rw[qR hh] at hpl;cases hpl
        · obtain⟨h1,h2⟩:=g4 q hq hm;exact⟨h1,by simpa[qI] using h2⟩
      · rcases List.mem_cons.1 hq with rfl | hq
        · simp only[concO];rw[hpe];exact⟨by simp,fun ob h=>by cases h;rfl⟩
        · exact g4b q hq
      · have hle:=qP l y2 (base.set p (.bld tb' (.os base.length))++(cc (.osl i (.int .u8)) x base.length).2);rw[hlen0] at hle;simp only[concO] at e1 e5;have c3':=c3 OF γF e2 (fun j g hj=>e4 j g (by rw[List.getElem?_append_left (qe hj)];exact hj)) (by omega)
        obtain⟨f1,f2⟩:=g5 OF γF e1 e2 eg e3 (fun j g hj=>by
          rw[hlen0,Nat.add_assoc]
          exact e4 (gs0.length+j) g (by rw[List.getElem?_append_right (by omega)];simpa using hj)) e5
        refine⟨fun q hq ob' hob'=>?_,fun o ob' h1 h2 h3=>?_⟩
        · rcases List.mem_cons.1 hq with rfl | hq
          · rw[e1 p (by omega),hpe] at hob';cases hob';rw[e3 p hp];obtain⟨v1,q1,e7,e8,_⟩:=c3'.1;cases e7;exact⟨b,pp,_,hg,hheap,hpp,e8⟩
          · exact f1 q hq ob' hob'
        · simp only[concO] at h2;by_cases ho:o<base.length+gs0.length
          · rw[e1 o h2,qk l y2 _ o (by rw[hlen0];exact ho) (Bool.eq_false_iff.2 fun hh=>by
              obtain⟨q,hq,rfl⟩:=List.mem_map.1 (listed_spec.1 hh);have:=hlt q (List.mem_cons_of_mem _ hq)
              omega),List.getElem?_append_right (by simpa using h1)] at h3
            simp only[List.length_set] at h3
            have hj:o-base.length<gs0.length:=by omega
            have e6:=e4 (o-base.length) gs0[o-base.length] (by rw[List.getElem?_append_left hj];exact List.getElem?_eq_getElem hj);rw[show base.length+(o-base.length)=o by omega] at e6;rw[e6];have h4:=c3'.2 (o-base.length) ob' _ h3 (List.getElem?_eq_getElem hj);exact⟨h4.1,.inl h4.2,fun t p ow xs lent e=>by rw[e] at h4;cases h4.2⟩
          · exact f2 o ob' (by rw[hlen0];omega) h2 h3
    | _=>simp at h
  | (p,some (.ar tn q ow))::l,y,base,h,hnd,hlt,hb,hids=>by
    simp only[absO,Option.bind_eq_some_iff] at h;obtain⟨n,hn,ob,hob,h⟩:=h
    cases ob with
    | ar t' p' ow' xs lent =>
      simp only[chk_some,Option.bind_eq_some_iff,Bool.and_eq_true] at h;obtain⟨⟨h1,h2,h3⟩,x,hx,y2,hy,hyy⟩:=h;have hyy:(x,y2)=y:=Option.some.inj hyy;subst hyy;obtain rfl:=Nat.eq_of_beq_eq_true h1;obtain rfl:ow'=ow:=by
        cases ow<;>cases ow'<;>first | rfl | cases h2 | skip
        rw[Nat.eq_of_beq_eq_true h2]
      cases lent with
      | some _=>cases h3
      | none =>
      unfold castE at hx;split at hx
      rotate_left
      · cases hx
      rename_i e;subst e;cases hx;simp only[List.map_cons,List.nodup_cons] at hnd;have hpl:listed p l=false:=Bool.eq_false_iff.2 fun hh=>hnd.1 (listed_spec.1 hh);have hp:p<n0:=hlt (p,some (.ar t' p' ow')) List.mem_cons_self;obtain⟨gs,g1,g2,g3,g4,g4b,g5⟩:=qa3 r hT l (base.set p .dead++[.ar t' p' ow' xs none]) hy hnd.2 (fun q hq=>hlt q (List.mem_cons_of_mem _ hq)) (by simp;omega) (fun o ho=>hids o (by simpa[qn] using ho));have hpe:(concO l y2 (base.set p .dead++[.ar t' p' ow' xs none]))[p]?=some .dead:=by
        rw[qk l y2 _ p (by simp;omega) hpl,List.getElem?_append_left (by simp;omega),List.getElem?_set_self (by omega)]
      have hlen0:(base.set p .dead++[OB.ar t' p' ow' xs none]).length=base.length+1:=by simp
      refine⟨(undef,none)::gs,?_,?_,fun o ho=>?_,fun q hq hm=>?_,fun q hq=>?_,fun OF γF e1 e2 eg e3 e4 e5=>?_⟩
      · simp only[concO];rw[g1,hlen0,List.length_cons];omega
      · rw[List.flatMap_cons,g2];simp only[qn,Option.toList,List.nil_append]
      · exact g3 o (by simpa[qn] using ho)
      · rcases List.mem_cons.1 hq with rfl | hq
        · obtain⟨ob,h1,h2⟩:=hm;simp only[concO] at h1;rw[hpe] at h1;cases h1;cases h2
        · obtain⟨h1,h2⟩:=g4 q hq hm;exact⟨h1,by simpa[qI] using h2⟩
      · rcases List.mem_cons.1 hq with rfl | hq
        · simp only[concO];rw[hpe];exact⟨by simp,fun ob h=>by cases h;rfl⟩
        · exact g4b q hq
      · have hle:=qP l y2 (base.set p .dead++[.ar t' p' ow' xs none]);rw[hlen0] at hle;simp only[concO] at e1 e5
        obtain⟨f1,f2⟩:=g5 OF γF e1 e2 eg e3 (fun j g hj=>by
          rw[hlen0,Nat.add_assoc]
          exact e4 (1+j) g (by rw[Nat.add_comm 1 j];simpa using hj)) e5
        refine⟨fun q hq ob' hob'=>?_,fun o ob' h1 h2 h3=>?_⟩
        · rcases List.mem_cons.1 hq with rfl | hq
          · rw[e1 p (by omega),hpe] at hob';cases hob';trivial
          · exact f1 q hq ob' hob'
        · simp only[concO] at h2;by_cases ho:o<base.length+1
          · have ho:o=base.length:=by omega
            subst ho
            rw[e1 _ h2,qk l y2 _ _ (by rw[hlen0];exact Nat.lt_succ_self _) (Bool.eq_false_iff.2 fun hh=>by
              obtain⟨q,hq,hqe⟩:=List.mem_map.1 (listed_spec.1 hh);have:=hlt q (List.mem_cons_of_mem _ hq)
              omega),List.getElem?_append_right (by simp)] at h3
            simp only[List.length_set,Nat.sub_self,List.getElem?_cons_zero,Option.some.injEq] at h3;subst h3;have e6:=e4 0 _ rfl;rw[Nat.add_zero] at e6;rw[e6];refine⟨rfl,.inr rfl,fun t2 p2 w2 x2 l2 e=>?_⟩;cases e;obtain⟨ls,hs,k1,k2,k3,k4⟩:=r.ar n _ _ _ _ _ hob;obtain⟨m1,m2,m3⟩:=eg
            have m4:∀x,γF.kc base.length x=γ'.kc n x:=fun x=>by rw[m3 _ _ hb,hn];rfl
            exact⟨ls,hs,k1.mono (hT.trans e2) m1 (fun _ _=>rfl) (fun _ _=>rfl),fun k hk=>by rw[m2];exact k2 k hk,fun i v hv=>by rw[m4];exact k3 i v hv,fun x hx=>by rw[m4];exact k4 x hx⟩
          · exact f2 o ob' (by rw[hlen0];omega) h2 h3
    | _=>simp at h

theorem qcQ:∀(l:List (Nat×Ty)) (x:DL (tysS l)) (σ:AState),σ.objs.length≤(concS l x σ).objs.length∧(∀o,o<σ.objs.length→(concS l x σ).objs[o]?=σ.objs[o]?)∧(concS l x σ).n=σ.n∧(concS l x σ).prS=σ.prS∧(concS l x σ).prO=σ.prO∧(concS l x σ).gs=σ.gs∧(concS l x σ).known=σ.known∧∀t,(∀q∈l,q.1≠t)→get (concS l x σ).slots t=get σ.slots t
  | [],_,σ=>⟨Nat.le_refl _,fun _ _=>rfl,rfl,rfl,rfl,rfl,rfl,fun _ _=>rfl⟩
  | (t,τ)::r,x,σ=>by
    simp only[concS];obtain⟨h1,h2,h3,h4,h5,h6,h7,h8⟩:=qcQ r x.2 { σ with slots:=(t,some ([],qaS τ.isAgg (cc τ x.1 σ.objs.length).1))::σ.slots,objs:=σ.objs++(cc τ x.1 σ.objs.length).2 };simp only[List.length_append] at h1;refine⟨by omega,fun o ho=>?_,h3,h4,h5,h6,h7,fun t' ht'=>?_⟩
    · rw[h2 o (by simp;omega)];simp only;rw[List.getElem?_append_left ho]
    · rw[h8 t' fun q hq=>ht' q (List.mem_cons_of_mem _ hq)];simp only;rw[qr,if_neg (ht' (t,τ) List.mem_cons_self)]
theorem qfr {σ':AState} {a':Act} (r':Rel F σ' γ' a' w') (hT:Sp.le (Imm σ'.objs γ' w') T):∀(l:List (Nat×Ty)) {x:DL (tysS l)} (σ1:AState),absS σ'.objs σ'.slots l=some x →
    (∀o∈qU (idsD σ'.objs) σ'.slots l,∀b,(γ' o).2=some b→T b) →
    ∃gs:List (Value×Option Nat),(concS l x σ1).objs.length=σ1.objs.length+gs.length∧gs.flatMap (fun g=>g.2.toList)=blocks γ' (qU (idsO σ'.objs) σ'.slots l)∧(∀o∈qU (idsO σ'.objs) σ'.slots l,Mut σ'.objs o) ∧
      ∀(γF:Gh),Sp.le T (Imm (concS l x σ1).objs γF w')→(∀j g,gs[j]?=some g→γF (σ1.objs.length+j)=g) →
        ∀(OF:List OB),OF=(concS l x σ1).objs →
        (∀t tg pv,get (concS l x σ1).slots t=some (tg,pv)→get σ1.slots t=some (tg,pv)∨(tg=[]∧∃v,a'.tmps[t]?=some v∧PR OF γF w' pv v)) ∧
        (∀o ob,σ1.objs.length≤o→OF[o]?=some ob→ObR OF γF w' ob (γF o)∧mutOb ob=true)
  | [],x,σ1,h,_=>⟨[],by simp[concS],by simp[qU,blocks],fun o ho=>by simp[qU] at ho,fun γF _ _ OF hOF=>⟨fun t tg pv hg => .inl hg,fun o ob h1 h2=>by subst hOF;have:=qe h2;simp only[concS] at this;omega⟩⟩
  | (t,τ)::l,x,σ1,h,hids=>by
    simp only[absS,Option.bind_eq_some_iff,chk_some] at h;obtain⟨⟨tg,pv⟩,h1,h2,cs,h3,h4,x1,h5,x2,h6,hx⟩:=h;have hx:(x1,x2)=x:=Option.some.inj hx;subst hx
    have htg:tg=[]:=by simpa using h2
    subst htg;obtain⟨v,hv,hp⟩:=r'.slots t [] pv h1 (qb _);have hvl:=qX h3 hp
    have hidd:(((get σ'.slots t).bind fun e=>qQ e.2).elim [] (idsD σ'.objs τ))=idsD σ'.objs τ cs:=by simp only[h1,Option.bind_some,h3,Option.elim_some]
    have hido:(((get σ'.slots t).bind fun e=>qQ e.2).elim [] (idsO σ'.objs τ))=idsO σ'.objs τ cs:=by simp only[h1,Option.bind_some,h3,Option.elim_some]
    obtain⟨hrep,hmo⟩:=qO (S:=T) r'.o hT τ h5 hvl (fun o ho=>hids o (by simp only[qU,hidd,List.mem_append];exact .inl ho));obtain⟨gs0,c1,c2,c3⟩:=qbM τ hrep σ1.objs.length;obtain⟨gs,g1,g2,g3,g5⟩:=qfr r' hT l { σ1 with slots:=(t,some ([],qaS τ.isAgg (cc τ x1 σ1.objs.length).1))::σ1.slots,objs:=σ1.objs++(cc τ x1 σ1.objs.length).2 } h6 (fun o ho=>hids o (by simp only[qU,hidd,List.mem_append];exact .inr ho));have hcl:=qcQ l x2 { σ1 with slots:=(t,some ([],qaS τ.isAgg (cc τ x1 σ1.objs.length).1))::σ1.slots,objs:=σ1.objs++(cc τ x1 σ1.objs.length).2 };simp only[List.length_append,←c1] at g1 g5 hcl;refine⟨gs0++gs,?_,?_,fun o ho=>?_,fun γF e2 e4 OF hOF=>?_⟩
    · simp only[concS];rw[g1,List.length_append,Nat.add_assoc]
    · rw[List.flatMap_append,←c2,g2];simp only[qU,hido,blocks,List.flatMap_append]
    · simp only[qU,hido,List.mem_append] at ho;exact ho.elim (hmo o) (g3 o)
    · simp only[concS] at e2 hOF ⊢;subst hOF;have c3':=c3 _ γF e2 (fun j g hj=>e4 j g (by rw[List.getElem?_append_left (qe hj)];exact hj)) (by omega)
      obtain⟨f1,f2⟩:=g5 γF e2 (fun j g hj=>by
        rw[Nat.add_assoc]
        exact e4 (gs0.length+j) g (by rw[List.getElem?_append_right (by omega)];simpa using hj)) _ rfl
      refine⟨fun t' tg' pv' hg=>?_,fun o ob h1' h2'=>?_⟩
      · rcases f1 t' tg' pv' hg with hg' | hg'
        · rw[qr] at hg';split at hg'
          · rename_i e;subst e;cases hg';refine .inr ⟨rfl,v,hv,?_⟩;have:=qY (τ:=τ) (qbJ τ x1 σ1.objs.length) c3'.1;rw[←qff h3 h4 hp] at this;exact this
          · exact .inl hg'
        · exact .inr hg'
      · by_cases ho:o<σ1.objs.length+gs0.length
        · rw[hcl.2.1 o ho] at h2';rw[List.getElem?_append_right h1'] at h2'
          have hj:o-σ1.objs.length<gs0.length:=by omega
          have e6:=e4 (o-σ1.objs.length) gs0[o-σ1.objs.length] (by rw[List.getElem?_append_left hj];exact List.getElem?_eq_getElem hj);rw[show σ1.objs.length+(o-σ1.objs.length)=o by omega] at e6;rw[e6];exact c3'.2 _ ob _ h2' (List.getElem?_eq_getElem hj)
        · exact f2 o ob (by omega) h2'
end

theorem qgn {slots:Slots} {t:Nat} {e:Tag×PV}:∀ {l:List Nat},get (keepF slots l) t=some e→t∈l∧kf slots t=some e
  | [],h=>by simp[keepF,get] at h
  | u::l,h=>by
    simp only[keepF] at h;rw[qr] at h;split at h
    · rename_i e1;subst e1;exact⟨List.mem_cons_self,h⟩
    · obtain⟨h1,h2⟩:=qgn h;exact⟨List.mem_cons_of_mem _ h1,h2⟩
theorem qe7 {slots:Slots} {t:Nat}:∀ {l:List Nat},t∈l→get (keepF slots l) t=kf slots t
  | u::l,h=>by
    simp only[keepF];rw[qr];split
    · rename_i e1;subst e1;rfl
    · rename_i e1;rcases List.mem_cons.1 h with rfl | h
      · exact absurd rfl e1
      · exact qe7 h
theorem qds {slots:Slots} {t:Nat} {e:Tag×PV} (h:kf slots t=some e):get slots t=some e∧e.1=[]∧stable e.2=true:=by
  simp only[kf,Option.bind_eq_some_iff,chk_some,Bool.and_eq_true,Option.some.injEq] at h;obtain⟨e',h1,⟨h2,h3⟩,rfl⟩:=h;exact⟨h1,by simpa using h2,h3⟩
theorem kf_of {slots:Slots} {t:Nat} {e:Tag×PV} (h1:get slots t=some e) (h2:e.1=[]) (h3:stable e.2=true):kf slots t=some e:=by
  simp[kf,h1,h2,h3,chk]
theorem mask_bit {t:Nat}:∀ {l:List Nat},bitB (maskN l) t=true↔t∈l
  | []=>by
    rw[qcG];simp[maskN]
  | u::l=>by
    simp only[maskN];rw[qbh,qfq,Bool.or_eq_true,mask_bit (l:=l),List.mem_cons];simp only[decide_eq_true_eq];exact⟨fun h=>h.imp Eq.symm id,fun h=>h.imp Eq.symm id⟩
theorem qeA {l:List (Nat×Option OTy)} {o:Nat}:∀ {n:Nat},o<n→listed o l=false→bitB (protO l n) o=true
  | n+1,h,hl=>by
    simp only[protO];by_cases e:o=n
    · subst e;rw[hl];exact qeX _ _
    · have:=qeA (n:=n) (by omega) hl;by_cases hn:listed n l=true
      · simp only[hn,cond_true];exact this
      · simp only[Bool.eq_false_iff.2 hn,cond_false];exact qb2 this
theorem ofSl_os {e:Ty} {objs:List OB} {o:Nat} {xs:List (D e)} (h:ofSl e objs (.os o)=some xs):∃i,∃e:Ty,∃xs:List (D e),∃fz,objs[o]?=some (.arr i e xs fz):=by
  simp only[ofSl,Option.bind_eq_some_iff] at h;obtain⟨ob,hob,h3⟩:=h
  cases ob with
  | arr i e' xs fz=>exact⟨i,e',xs,fz,hob⟩
  | _=>simp at h3
theorem qcI {objs:List OB} {o:Nat}:∀(τ:Ty) {l:List Cv} {x:D τ},toD objs τ l=some x→o∈idsD objs τ l→∃i,∃e:Ty,∃xs:List (D e),∃fz,objs[o]?=some (.arr i e xs fz)
  | .int _,l,_,_,h=>by simp[idsD] at h
  | .bool,l,_,_,h=>by simp[idsD] at h
  | .str,l,_,_,h=>by simp[idsD] at h
  | .nil,l,_,_,h=>by simp[idsD] at h
  | .osl _ _,l,_,_,h=>by simp[idsD] at h
  | .onl _ _,l,_,_,h=>by simp[idsD] at h
  | .sl e,l,x,hx,h=>by
    obtain⟨c,h1,h2⟩:=Option.bind_eq_some_iff.1 hx;simp only[idsD,h1,Option.elim_some] at h;clear hx
    cases c with
    | os p =>
      have hop:o=p:=by simpa[osId] using h
      subst hop;exact ofSl_os h2
    | _=>simp[osId] at h
  | .obx e,l,x,hx,h=>by
    obtain⟨bl,h1,h2⟩:=Option.bind_eq_some_iff.1 (show((ownB objs l).bind fun l=>toD objs e l)=some x from hx);simp only[idsD,h1,Option.getD_some] at h;exact qcI (x:=x) e h2 h
  | .st f r,l,x,hx,h=>by
    simp only[toD,Option.bind_eq_some_iff] at hx;obtain⟨x1,h1,x2,h2,_⟩:=hx;simp only[idsD,List.mem_append] at h;exact h.elim (qcI f h1) (qcI r h2)
theorem qhC {objs:List OB} {slots:Slots} {o:Nat}:∀(l:List (Nat×Ty)) {x:DL (tysS l)},absS objs slots l=some x→o∈qU (idsD objs) slots l→∃i,∃e:Ty,∃xs:List (D e),∃fz,objs[o]?=some (.arr i e xs fz)
  | [],_,_,h=>by simp[qU] at h
  | (t,τ)::l,x,hx,h=>by
    simp only[absS,Option.bind_eq_some_iff,chk_some] at hx;obtain⟨⟨tg,pv⟩,h1,h2,cs,h3,h4,x1,h5,x2,h6,_⟩:=hx;simp only[qU,h1,Option.bind_some,h3,Option.elim_some,List.mem_append] at h;exact h.elim (qcI τ h5) (qhC l h6)
theorem qcv {objs:List OB} {o:Nat}:∀(l:List (Nat×Option OTy)) {x:DL (tysO l)},absO objs l=some x→o∈qn (idsD objs) objs l→∃i,∃e:Ty,∃xs:List (D e),∃fz,objs[o]?=some (.arr i e xs fz)
  | [],_,_,h=>by simp[qn] at h
  | (p,none)::l,x,hx,h=>qcv l hx (by simpa[qn] using h)
  | (p,some (.arr i e))::l,x,hx,h=>by
    simp only[absO,Option.bind_eq_some_iff] at hx;obtain⟨ob,hob,h2⟩:=hx
    cases ob with
    | arr i' e' xs fz =>
      cases fz with
      | true=>simp at h2
      | false =>
        simp only[chk_some,Option.bind_eq_some_iff] at h2;obtain⟨_,x1,_,y2,hy,_⟩:=h2;exact qcv l hy (by simpa[qn] using h)
    | _=>simp at h2
  | (p,some (.box τ))::l,x,hx,h=>by
    simp only[absO,Option.bind_eq_some_iff] at hx;obtain⟨ob,hob,h2⟩:=hx
    cases ob with
    | box cs =>
      simp only[Option.bind_eq_some_iff] at h2;obtain⟨x1,h3,y2,hy,_⟩:=h2;simp only[qn,hob,List.mem_append] at h;exact h.elim (qcI τ h3) (qcv l hy)
    | _=>simp at h2
  | (p,some (.mp kt vt))::l,x,hx,h=>by
    simp only[absO,Option.bind_eq_some_iff] at hx;obtain⟨ob,hob,h2⟩:=hx
    cases ob with
    | mp k' v' xs =>
      simp only[Option.bind_eq_some_iff] at h2;obtain⟨x1,_,y2,hy,_⟩:=h2;exact qcv l hy (by simpa[qn] using h)
    | _=>simp at h2
  | (p,some (.bld tb i))::l,x,hx,h=>by
    simp only[absO,Option.bind_eq_some_iff] at hx;obtain⟨ob,hob,h2⟩:=hx
    cases ob with
    | bld tb' c =>
      simp only[chk_some,Option.bind_eq_some_iff] at h2;obtain⟨_,x1,h3,y2,hy,_⟩:=h2;simp only[qn,hob,List.mem_append] at h;exact h.elim (qcI (.osl i (.int .u8)) h3) (qcv l hy)
    | _=>simp at h2
  | (p,some (.ar tn q ow))::l,x,hx,h=>by
    simp only[absO,Option.bind_eq_some_iff] at hx;obtain⟨n,_,ob,hob,h2⟩:=hx
    cases ob with
    | ar t' p' ow' xs lent =>
      simp only[chk_some,Option.bind_eq_some_iff] at h2;obtain⟨_,x1,h3,y2,hy,_⟩:=h2;exact qcv l hy (by simpa[qn] using h)
    | _=>simp at h2
theorem qhD {gs:List (Value×Option Nat)} {b:Nat}:∀ {j1 j2:Nat} {g1 g2:Value×Option Nat},(gs.flatMap fun g=>g.2.toList).Nodup→gs[j1]?=some g1→gs[j2]?=some g2→g1.2=some b→g2.2=some b→j1=j2:=by
  induction gs with
  | nil=>intro j1 j2 g1 g2 _ h;simp at h
  | cons g l ih =>
    intro j1 j2 g1 g2 hn h1 h2 hb hb';simp only[List.flatMap_cons,List.nodup_append] at hn
    cases j1 with
    | zero =>
      cases j2 with
      | zero=>rfl
      | succ j2 =>
        simp at h1 h2;exact absurd rfl (hn.2.2 b (by rw[h1,hb];simp) b (List.mem_flatMap.2 ⟨g2,List.mem_of_getElem? h2,by simp[hb']⟩))
    | succ j1 =>
      cases j2 with
      | zero =>
        simp at h1 h2;exact absurd rfl (hn.2.2 b (by rw[h2,hb'];simp) b (List.mem_flatMap.2 ⟨g1,List.mem_of_getElem? h1,by simp[hb]⟩))
      | succ j2=>exact congrArg _ (ih hn.2.1 (by simpa using h1) (by simpa using h2) hb hb')
def OB.below (n:Nat):OB→Prop
  | .box l=>CvL.below n l
  | .fbx l=>CvL.below n l
  | .bld _ c=>c.below n
  | _=>True
theorem ObR.below {objs:List OB} {γ:Gh} {w:World} {ob:OB} {g:Value×Option Nat} (h:ObR objs γ w ob g):OB.below objs.length ob:=by
  cases ob with
  | box l=>obtain⟨_,_,_,_,_,h1⟩:=h;exact h1.below
  | fbx l=>obtain⟨_,_,_,_,_,h1,_⟩:=h;exact h1.below
  | bld t c=>obtain⟨_,_,_,_,_,_,h1⟩:=h;exact h1.below
  | _=>trivial
theorem ObR.keep' {objs objs':List OB} {γ γ':Gh} {w w':World} {n:Nat} (h:Keep objs γ w objs' γ' w' n) {ob:OB} {g:Value×Option Nat} (hb:∀b,g.2=some b→w'.heap[b]?=w.heap[b]?) (hbel:OB.below n ob) (hr:ObR objs γ w ob g):ObR objs' γ' w' ob g:=by
  cases ob with
  | box l =>
    obtain⟨b,T,cs,e,h1,h2⟩:=hr;exact⟨b,T,cs,e,(hb b (by simp[e])).trans h1,VRL.keep h hbel h2⟩
  | fbx l =>
    obtain⟨b,T,cs,e,h1,h2,h3⟩:=hr;exact⟨b,T,cs,e,(hb b (by simp[e])).trans h1,VRL.keep h hbel h2,h.imm _ h3⟩
  | arr i e xs fz =>
    obtain⟨us,h1,h2⟩:=hr;exact⟨us,h1.mono fun b hm=>hb b (by simpa using hm),RepL.keep h h2⟩
  | dead=>trivial
  | mbr i e x =>
    rcases hr with hr | ⟨xs,us,h0,h1,h2⟩
    · exact .inl hr
    · exact .inr ⟨xs,us,h0,h1.mono fun b hm=>hb b (by simpa using hm),RepL.keep h h2⟩
  | nilr=>exact hr
  | mp k v xs =>
    obtain⟨b,e,h1,es,clk,h2,h3⟩:=hr;exact⟨b,e,h1,es,clk,(hb b (by simp[e])).trans h2,h3⟩
  | ar t p ow xs lent=>exact hr
  | bld t c =>
    obtain⟨b,p,v,e,h1,h2,h3⟩:=hr;exact⟨b,p,v,e,(hb b (by simp[e])).trans h1,h2,VR.keep h hbel h3⟩
theorem qcY {F:Fr} {s:Shape} {σ σ':AState} {γ γ':Gh} {a a':Act} {w w':World} (r:Rel F σ γ a w) (hh:qdY s σ=true) (r':Rel F σ' γ' a' w') (hn:σ'.n=σ.n)
    (hk:∀t∈s.keep,∀e,kf σ.slots t=some e→get σ'.slots t=some e) (ho:∀o,o<σ.objs.length→listed o s.objs=false→σ'.objs[o]?=σ.objs[o]?) (K0:Keep σ.objs γ w σ'.objs γ' w' σ.objs.length)
    {x:s.T} (hx:absT s σ.objs.length σ'=some x):∃γF,Rel F (conc s σ x) γF a' w'∧Cl (conc s σ x)∧Step σ γ w (conc s σ x) γF w':=by
  simp only[absT,chk_some,Bool.and_eq_true,Option.bind_eq_some_iff] at hx;obtain⟨⟨hown,hdat⟩,x1,hx1,x2,hx2,hxx⟩:=hx;have hxx:(x1,x2)=x:=Option.some.inj hxx;subst hxx;simp only[qdY,Bool.and_eq_true,List.all_eq_true,Bool.not_eq_true'] at hh;obtain⟨⟨⟨hpm,hsl⟩,hndo,hol⟩,hg0,hkn0⟩:=hh;have hndo:=qaJ hndo;have hol':∀q∈s.objs,q.1<σ.objs.length∧bitB σ.prO q.1=false:=fun q hq=>⟨by have:=(hol q hq).1;simpa[Nat.blt_eq] using this,(hol q hq).2⟩;simp only[okOwned,Bool.and_eq_true] at hown;obtain⟨hown1,hown2⟩:=hown;have hownd:=qaJ hown1;have hownst:∀o∈qU (idsO σ'.objs) σ'.slots s.slots++qn (idsO σ'.objs) σ'.objs s.objs,stays s σ.objs.length o=false:=fun o ho=>by
    have:=List.all_eq_true.1 hown2 o ho;simpa using this
  let own:=qU (idsO σ'.objs) σ'.slots s.slots++qn (idsO σ'.objs) σ'.objs s.objs
  let T:Sp:=⟨fun k=>k<w'.heap.size∧γ'.S k∧(∀o',Mut σ'.objs o'→(o'∈own∨stays s σ.objs.length o'=true)→(γ' o').2≠some k)∧k∉γ'.B,γ'.m⟩
  have hT:Sp.le (Imm σ'.objs γ' w') T:=⟨fun k hk=>⟨hk.lt,hk.s,fun o' hm _=>hk.own o' hm,hk.nb⟩,fun _ _ h=>h⟩;have hids:∀o∈qU (idsD σ'.objs) σ'.slots s.slots++qn (idsD σ'.objs) σ'.objs s.objs,∀b,(γ' o).2=some b→T b:=fun o ho' b hb=>by
    have harr:∃i,∃e:Ty,∃xs:List (D e),∃fz,σ'.objs[o]?=some (.arr i e xs fz):=(List.mem_append.1 ho').elim (qhC _ hx1) (qcv _ hx2);obtain⟨i,e,xs,fz,hob⟩:=harr
    cases fz with
    | true=>exact hT b (r'.o.frz o i e xs b hob hb)
    | false =>
      have hd:=List.all_eq_true.1 hdat o ho';rw[hob] at hd;simp only[Bool.false_or,Bool.and_eq_true,Bool.not_eq_true'] at hd;obtain⟨hd1,hd2⟩:=hd;have hmo:Mut σ'.objs o:=⟨_,hob,rfl⟩;refine⟨r'.o.lt o b (qe hob) hb,r'.o.up b (r'.o.own o b hmo hb),fun o' hm hor hb'=>?_,r'.o.bo o b hmo hb⟩;have e1:=r'.o.inj o' o b hm hmo hb' hb;subst e1;rcases hor with hor | hor
      · have:memN o' own=true:=memN_spec.2 hor;rw[this] at hd2;cases hd2
      · rw[hor] at hd1;cases hd1
  obtain⟨gsO,p1,p2,p3,p4,p4b,p5⟩:=qa3 (n0:=σ.objs.length) r'.o hT s.objs σ.objs hx2 hndo (fun q hq=>(hol' q hq).1) (Nat.le_refl _) (fun o ho'=>hids o (List.mem_append.2 (.inr ho')));obtain⟨gsS,q1,q2,q3,q5⟩:=qfr r' hT s.slots { σ with slots:=keepF σ.slots s.keep,objs:=concO s.objs x2 σ.objs,gs:=0,known:=[] } hx1 (fun o ho'=>hids o (List.mem_append.2 (.inl ho')));have hcl:=qcQ s.slots x1 { σ with slots:=keepF σ.slots s.keep,objs:=concO s.objs x2 σ.objs,gs:=0,known:=[] };have hcO:=qP s.objs x2 σ.objs
  show ∃γF,Rel F (concS s.slots x1 { σ with slots:=keepF σ.slots s.keep,objs:=concO s.objs x2 σ.objs,gs:=0,known:=[] }) γF a' w'∧Cl (concS s.slots x1 { σ with slots:=keepF σ.slots s.keep,objs:=concO s.objs x2 σ.objs,gs:=0,known:=[] })∧Step σ γ w (concS s.slots x1 { σ with slots:=keepF σ.slots s.keep,objs:=concO s.objs x2 σ.objs,gs:=0,known:=[] }) γF w';generalize hC:concS s.slots x1 { σ with slots:=keepF σ.slots s.keep,objs:=concO s.objs x2 σ.objs,gs:=0,known:=[] }=C at *;simp only at q1 hcl q5
  have hOlen:C.objs.length=σ.objs.length+(gsO++gsS).length:=by rw[q1,p1,List.length_append,Nat.add_assoc]
  have hflat:(gsO++gsS).flatMap (fun g=>g.2.toList)=blocks γ' (qn (idsO σ'.objs) σ'.objs s.objs++qU (idsO σ'.objs) σ'.slots s.slots):=by
    rw[List.flatMap_append,p2,q2];simp[blocks]
  have hownm:∀o∈own,Mut σ'.objs o:=fun o ho'=>(List.mem_append.1 ho').elim (q3 o) (p3 o);have hndb:((gsO++gsS).flatMap fun g=>g.2.toList).Nodup:=by
    rw[hflat];refine qaO r'.o ?_ (fun o ho'=>hownm o (List.mem_append.2 ((List.mem_append.1 ho').symm)));exact(List.perm_append_comm.nodup_iff).1 hownd
  have hlow:∀o,o<σ.objs.length→C.objs[o]?=(concO s.objs x2 σ.objs)[o]?:=fun o ho'=>hcl.2.1 o (by omega)
  let kcF:Nat→Nat→Option Value:=fun o x=>if o<σ.objs.length then γ'.kc o x else γ'.kc ((arOf σ'.objs).getD 0) x
  let γ1:Gh:=γ'.arn γ'.m γ'.B kcF
  have hγlow:∀o,o<σ.objs.length→upd γ1 σ.objs.length (gsO++gsS) o=γ' o:=fun o ho'=>qcD ho';have hA:∀o,o<σ.objs.length→Mut C.objs o→Mut σ'.objs o∧stays s σ.objs.length o=true:=fun o ho' hm=>by
    have hst:qI o s.objs=false→stays s σ.objs.length o=true:=fun hd=>by
      simp only[stays,hd,Bool.not_false,Bool.and_true];simpa[Nat.blt_eq] using ho'
    obtain⟨ob,h1,h2⟩:=hm;rw[hlow o ho'] at h1;by_cases hl:listed o s.objs=true
    · obtain⟨q,hq,rfl⟩:=List.mem_map.1 (listed_spec.1 hl);obtain⟨h3,h4⟩:=p4 q hq ⟨ob,h1,h2⟩;exact⟨h3,hst h4⟩
    · have hl:=Bool.eq_false_iff.2 hl;rw[qk s.objs x2 σ.objs o ho' hl,←ho o ho' hl] at h1;exact⟨⟨ob,h1,h2⟩,hst (Bool.eq_false_iff.2 fun hd=>by rw[qR hd] at hl;cases hl)⟩
  have hB:∀o b,σ.objs.length≤o→o<C.objs.length→(upd γ1 σ.objs.length (gsO++gsS) o).2=some b→∃o'∈own,(γ' o').2=some b:=fun o b h1 h2 hb=>by
    have hj:o-σ.objs.length<(gsO++gsS).length:=by omega
    have e1:=qai (γ:=γ1) (n:=σ.objs.length) (List.getElem?_eq_getElem hj);rw[show σ.objs.length+(o-σ.objs.length)=o by omega] at e1;rw[e1] at hb;have hmem:b∈(gsO++gsS).flatMap (fun g=>g.2.toList):=List.mem_flatMap.2 ⟨_,List.getElem_mem hj,by simp[hb]⟩;rw[hflat] at hmem;obtain⟨o',ho',hb'⟩:=List.mem_flatMap.1 hmem;exact⟨o',List.mem_append.2 ((List.mem_append.1 ho').symm),by simpa using hb'⟩
  have hTI:Sp.le T (Imm C.objs (upd γ1 σ.objs.length (gsO++gsS)) w'):=⟨fun k hk=>by
    refine⟨hk.1,hk.2.1,fun o hm hb=>?_,hk.2.2.2⟩;by_cases ho':o<σ.objs.length
    · obtain⟨h1,h2⟩:=hA o ho' hm;rw[hγlow o ho'] at hb;exact hk.2.2.1 o h1 (.inr h2) hb
    · obtain⟨o',h1,h2⟩:=hB o k (by omega) hm.lt hb
      exact hk.2.2.1 o' (hownm o' h1) (.inl h1) h2,fun _ _ h=>h⟩
  have hgO:∀j g,gsO[j]?=some g→upd γ1 σ.objs.length (gsO++gsS) (σ.objs.length+j)=g:=fun j g hj=>qai (by rw[List.getElem?_append_left (qe hj)];exact hj);have hgS:∀j g,gsS[j]?=some g→upd γ1 σ.objs.length (gsO++gsS) ((concO s.objs x2 σ.objs).length+j)=g:=fun j g hj=>by
    rw[p1,Nat.add_assoc];exact qai (by rw[List.getElem?_append_right (by omega)];simpa using hj)
  obtain⟨u1,u2⟩:=p5 C.objs _ (fun o ho'=>hcl.2.1 o ho') hTI ⟨rfl,rfl,fun o x ho'=>if_neg (by omega)⟩ hγlow hgO hcl.1;obtain⟨v1,v2⟩:=q5 _ hTI hgS C.objs rfl;have K1:Keep σ'.objs γ' w' C.objs (upd γ1 σ.objs.length (gsO++gsS)) w' σ.objs.length:=⟨hT.trans hTI,fun _ _=>rfl,by omega,hγlow,Nat.le_refl _,rfl,fun o ho' x v hv=>(if_pos ho').trans hv⟩;have hlen':=K0.len;have hnew:∀o ob,σ.objs.length≤o→C.objs[o]?=some ob→ObR C.objs (upd γ1 σ.objs.length (gsO++gsS)) w' ob (upd γ1 σ.objs.length (gsO++gsS) o)∧(mutOb ob=true∨isAr ob=true)∧(∀t p ow xs lent,ob = .ar t p ow xs lent→ArO C.objs (upd γ1 σ.objs.length (gsO++gsS)) w' o t p ow xs lent):=fun o ob h1 h2=>by
    by_cases h3:o<(concO s.objs x2 σ.objs).length
    · exact u2 o ob h1 h3 h2
    · have h4:=v2 o ob (by omega) h2;exact⟨h4.1,.inl h4.2,fun t p ow xs lent e=>by rw[e] at h4;cases h4.2⟩
  have hor:ORel F C.objs (upd γ1 σ.objs.length (gsO++gsS)) w':=by
    refine⟨fun o ob hob=>?_,fun o o' b hm hm' hb hb'=>?_,fun o b hm hb=>?_,fun o b hlt hb=>?_,r'.o.chg,fun o i e xs b hob hb=>?_,r'.o.up,r'.o.tab.mono (fun k hk=>hTI k (hT k hk)) (fun _ _=>rfl),r'.o.bl,fun o b hm hb=>?_,fun o t p ow xs lent hob=>?_⟩
    · by_cases ho':o<σ.objs.length
      · by_cases hl:listed o s.objs=true
        · obtain⟨q,hq,rfl⟩:=List.mem_map.1 (listed_spec.1 hl);exact u1 q hq ob hob
        · have hl:=Bool.eq_false_iff.2 hl;rw[hlow o ho',qk s.objs x2 σ.objs o ho' hl] at hob;rw[hγlow o ho'];exact ObR.keep' K1 (fun _ _=>rfl) (r.o.rep o ob hob).below (r'.o.rep o ob (by rw[ho o ho' hl];exact hob))
      · exact(hnew o ob (by omega) hob).1
    · by_cases h1:o<σ.objs.length<;>by_cases h2:o'<σ.objs.length
      · rw[hγlow o h1] at hb;rw[hγlow o' h2] at hb';exact r'.o.inj o o' b (hA o h1 hm).1 (hA o' h2 hm').1 hb hb'
      · rw[hγlow o h1] at hb;obtain⟨o2,h3,h4⟩:=hB o' b (by omega) hm'.lt hb';have e1:=r'.o.inj o o2 b (hA o h1 hm).1 (hownm o2 h3) hb h4;subst e1;have:=hownst o h3;rw[(hA o h1 hm).2] at this;cases this
      · rw[hγlow o' h2] at hb';obtain⟨o2,h3,h4⟩:=hB o b (by omega) hm.lt hb;have e1:=r'.o.inj o' o2 b (hA o' h2 hm').1 (hownm o2 h3) hb' h4;subst e1;have:=hownst o' h3;rw[(hA o' h2 hm').2] at this;cases this
      · have l1:=hm.lt;have l2:=hm'.lt
        have hj1:o-σ.objs.length<(gsO++gsS).length:=by omega
        have hj2:o'-σ.objs.length<(gsO++gsS).length:=by omega
        have e1:=qai (γ:=γ1) (n:=σ.objs.length) (List.getElem?_eq_getElem hj1);have e2:=qai (γ:=γ1) (n:=σ.objs.length) (List.getElem?_eq_getElem hj2);rw[show σ.objs.length+(o-σ.objs.length)=o by omega] at e1;rw[show σ.objs.length+(o'-σ.objs.length)=o' by omega] at e2;rw[e1] at hb;rw[e2] at hb';have:=qhD hndb (List.getElem?_eq_getElem hj1) (List.getElem?_eq_getElem hj2) hb hb';omega
    · by_cases h1:o<σ.objs.length
      · rw[hγlow o h1] at hb;exact r'.o.own o b (hA o h1 hm).1 hb
      · obtain⟨o2,h3,h4⟩:=hB o b (by omega) hm.lt hb;exact r'.o.own o2 b (hownm o2 h3) h4
    · by_cases h1:o<σ.objs.length
      · rw[hγlow o h1] at hb;exact r'.o.lt o b (by omega) hb
      · obtain⟨o2,h3,h4⟩:=hB o b (by omega) hlt hb;exact r'.o.lt o2 b (hownm o2 h3).lt h4
    · by_cases h1:o<σ.objs.length
      · rw[hlow o h1] at hob;rw[hγlow o h1] at hb;by_cases hl:listed o s.objs=true
        · obtain⟨q,hq,rfl⟩:=List.mem_map.1 (listed_spec.1 hl);exact absurd hob ((p4b q hq).1 i e xs)
        · have hl:=Bool.eq_false_iff.2 hl;rw[qk s.objs x2 σ.objs o h1 hl,←ho o h1 hl] at hob;exact hTI b (hT b (r'.o.frz o i e xs b hob hb))
      · rcases(hnew o _ (by omega) hob).2.1 with h | h<;>cases h
    · by_cases h1:o<σ.objs.length
      · rw[hγlow o h1] at hb;exact r'.o.bo o b (hA o h1 hm).1 hb
      · obtain⟨o2,h3,h4⟩:=hB o b (by omega) hm.lt hb;exact r'.o.bo o2 b (hownm o2 h3) h4
    · by_cases h1:o<σ.objs.length
      · rw[hlow o h1] at hob;by_cases hl:listed o s.objs=true
        · obtain⟨q,hq,rfl⟩:=List.mem_map.1 (listed_spec.1 hl);cases (p4b q hq).2 _ hob
        · have hl:=Bool.eq_false_iff.2 hl;rw[qk s.objs x2 σ.objs o h1 hl,←ho o h1 hl] at hob;exact(r'.o.ar o t p ow xs lent hob).keep K1 rfl rfl (fun x=>if_pos h1) (fun _ _=>rfl)
      · exact(hnew o _ (by omega) hob).2.2 _ _ _ _ _ rfl
  have hslots:∀t tg pv,get C.slots t=some (tg,pv)→tg=[]∧∃v,a'.tmps[t]?=some v∧PR C.objs (upd γ1 σ.objs.length (gsO++gsS)) w' pv v:=fun t tg pv ht=>by
    rcases v1 t tg pv ht with h1 | h1
    · obtain⟨h2,h3⟩:=qgn h1;obtain⟨h4,h5,h6⟩:=qds h3;simp only at h5 h6;subst h5;refine⟨rfl,?_⟩;obtain⟨v,h7,h8⟩:=r'.slots t [] pv (hk t h2 _ h3) (qb _);obtain⟨v0,_,h9⟩:=r.slots t [] pv h4 (qb _);exact⟨v,h7,PR.keep K1 h9.below (.inl h6) h8⟩
    · exact h1
  refine⟨upd γ1 σ.objs.length (gsO++gsS),⟨?_,r'.defers,fun t tg pv ht _=>(hslots t tg pv ht).2,fun t tg pv ht hnT=>?_,fun t tg pv ht x hx=>?_,fun x hx=>?_,hor⟩,⟨hcl.2.2.2.2.2.1,hcl.2.2.2.2.2.2.1⟩,⟨hcl.2.2.1,hcl.2.2.2.1,hcl.2.2.2.2.1,fun t e ht he=>?_,fun o ho' hp=>?_,K0.trans K1⟩⟩
  · rw[r'.size,hn,hcl.2.2.1]
  · obtain⟨rfl,_⟩:=hslots t tg pv ht;exact absurd (qb _) hnT
  · obtain⟨rfl,_⟩:=hslots t tg pv ht;cases hx
  · rw[hcl.2.2.2.2.2.2.1] at hx;cases hx
  · have htk:t∈s.keep:=by
      have hb:=Nat.eq_of_beq_eq_true hpm;rw[qcG] at ht
      have h2:(Nat.land σ.prS (maskN s.keep)).testBit t=true:=by rw[hb];exact ht
      have h3:(σ.prS &&& maskN s.keep).testBit t=true:=h2;rw[Nat.testBit_and,Bool.and_eq_true] at h3;exact mask_bit.1 (by rw[qcG];exact h3.2)
    have hnh:∀q∈s.slots,q.1≠t:=fun q hq e1=>by
      have:=(hsl q hq).1;rw[e1,memN_spec.2 htk] at this;cases this
    obtain⟨h4,h5,h6⟩:=qds he;refine kf_of ?_ h5 h6;rw[hcl.2.2.2.2.2.2.2 t hnh,qe7 htk];exact he
  · have hl:listed o s.objs=false:=Bool.eq_false_iff.2 fun hl=>by
      obtain⟨q,hq,rfl⟩:=List.mem_map.1 (listed_spec.1 hl);rw[(hol' q hq).2] at hp;cases hp
    rw[hlow o ho',qk s.objs x2 σ.objs o ho' hl]
end Go.Den
namespace Go.Den
open Go.Eng
set_option linter.unusedVariables false
set_option linter.unusedSectionVars false
set_option linter.unusedSimpArgs false
variable [CT : Ctx]

section
variable {P : Program} {env : Env}

theorem qh2 {T α:Type} {f:T→Option (T ⊕ α)} {x:T} {r:α} (h:iterW f x=some r):∃n,iterN f n x=some r:=by
  unfold iterW at h;split at h
  · exact⟨_,h⟩
  · cases h
theorem Rel.enter {F:Fr} {σ:AState} {γ:Gh} {a:Act} {w:World} {s:Shape} {n:Nat} (r:Rel F σ γ a w):Rel F (σ.enter s n) γ a w:=⟨r.size,r.defers,r.slots,r.off,r.gs,r.known,r.o⟩
theorem Rel.leave {F:Fr} {σ σ0:AState} {γ:Gh} {a:Act} {w:World} (r:Rel F σ γ a w):Rel F (σ.leave σ0) γ a w:=⟨r.size,r.defers,r.slots,r.off,r.gs,r.known,r.o⟩
theorem Step.leave {σ σ':AState} {γ γ':Gh} {w w':World} {s:Shape} {n:Nat} (h:Step (σ.enter s n) γ w σ' γ' w'):Step σ γ w (σ'.leave σ) γ' w' :=
  ⟨h.n,rfl,rfl,fun t e ht he=>h.slots t e (qb2 ht) he,fun o ho hp=>h.objs o ho (qb2 hp),h.keep⟩

theorem Post.then {α:Type} {F:Fr} {σ σ':AState} {γ γ':Gh} {w w':World} {K:Kt α} {res:α} {Q:Exit→Act→World→Prop} (hp:Post F σ γ w K res Q) (s:Step σ γ w σ' γ' w'):Post F σ' γ' w' K res Q :=
  ⟨fun σ2 γ2 a2 w2 hk r2 hc s2=>hp.n σ2 γ2 a2 w2 hk r2 hc (s.trans s2),fun i σ2 γ2 a2 w2 hk r2 hc s2=>hp.x i σ2 γ2 a2 w2 hk r2 hc (s.trans s2),fun σ2 γ2 a2 w2 hk r2 hc s2=>hp.r σ2 γ2 a2 w2 hk r2 hc (s.trans s2)⟩
def RdOK {α:Type} (P:Program) (N:Nat) (rc:Ann→Code→AState→Kt α→Option α):Prop :=
  ∀b σ K res,rc .nil (.loop b) σ K=some res→∀F γ a w Q,Rel F σ γ a w→Cl σ→Post F σ γ w K res Q→Code.rounds P b Q N a w
theorem qau (hE:EnvOK P env) (hm:P.follows .mixedOrders=true) {α:Type} {n:Nat} {rc:Ann→Code→AState→Kt α→Option α} (hrc:RcOK P rc) (hrd:RdOK P n rc) {ann:Ann} {c:Code} {σ:AState} {K:Kt α} {res:α} (h:denP P env rc ann c σ K=some res)
    {F:Fr} {γ:Gh} {a:Act} {w:World} {Q:Exit→Act→World→Prop} (r:Rel F σ γ a w) (hcl:Cl σ) (hp:Post F σ γ w K res Q):c.wp P Q a w:=by
  have fin:∀σ' γ' a' w',K.n σ'.endR=some res→Rel F σ' γ' a' w'→Step σ γ w σ' γ' w'→Q .normal a' w':=fun σ' γ' a' w' hk r' s'=>hp.n σ'.endR γ' a' w' hk r'.endR ⟨rfl,rfl⟩ (s'.trans Step.endR);unfold denP at h;split at h
  · exact wp_skip (hp.n σ γ a w h r hcl (Step.refl _ _ _))
  · exact wp_label (hp.n σ γ a w h r hcl (Step.refl _ _ _))
  · refine wp_seq (hrc _ _ _ _ _ h F γ a w _ r hcl ⟨fun σ' γ' a' w' hk r' hc' s'=>?_,fun i σ' γ' a' w' hk r' hc' s'=>hp.x i σ' γ' a' w' hk r' hc' s',fun σ' γ' a' w' hk r' hc' s'=>hp.r σ' γ' a' w' hk r' hc' s'⟩);exact hrc _ _ _ _ _ hk F γ' a' w' Q r' hc' (hp.then s')
  · simp only[Option.bind_eq_some_iff] at h;obtain⟨v,h1,t,h2,h3⟩:=h;have hev:=ev_bool r (qb σ) h1 h2;cases t
    · exact wp_cond_false hev (hrc _ _ _ _ _ h3 F γ a w Q r hcl hp)
    · exact wp_cond_true hev (hrc _ _ _ _ _ h3 F γ a w Q r hcl hp)
  · refine wp_block (hrc _ _ _ _ _ h F γ a w _ r hcl ⟨fun σ' γ' a' w' hk r' hc' s'=>hp.n σ' γ' a' w' hk r' hc' s',fun i σ' γ' a' w' hk r' hc' s'=>?_,fun σ' γ' a' w' hk r' hc' s'=>hp.r σ' γ' a' w' hk r' hc' s'⟩);simp only[Exit.inBlock];split
    · rename_i e;subst e;simp only[Nat.beq_refl,cond_true] at hk;exact hp.n σ' γ' a' w' hk r' hc' s'
    · rename_i e;have:Nat.beq i _=false:=Bool.eq_false_iff.2 fun hb=>e (Nat.eq_of_beq_eq_true hb);simp only[this,cond_false] at hk;exact hp.x i σ' γ' a' w' hk r' hc' s'
  · refine wp_loop_rounds (n+1) ?_;rw[rounds_succ];refine hrc _ _ _ _ _ h F γ a w _ r hcl ⟨fun σ' γ' a' w' hk r' hc' s'=>?_,fun i σ' γ' a' w' hk r' hc' s'=>hp.x i σ' γ' a' w' hk r' hc' s',fun σ' γ' a' w' hk r' hc' s'=>hp.r σ' γ' a' w' hk r' hc' s'⟩;exact hrd _ _ _ _ hk F γ' a' w' Q r' hc' (hp.then s')
  · exact wp_exit (hp.x _ σ γ a w h r hcl (Step.refl _ _ _))
  · exact wp_ret (hp.r σ γ a w h r hcl (Step.refl _ _ _))
  · exact wp_region_list (qN hE hrc _ _ r h fin)
  · rename_i id ops;have hdr:Chg [] w { w with drawn:=w.drawn+1 }:=⟨rfl,rfl,rfl,Nat.le_refl _,fun _ _ _=>rfl,fun _=>Nat.le_succ _⟩;split at h
    · rename_i s g ann' _;obtain⟨hsel,h⟩:=chk_some.1 h;refine qgW hm (f:=0) (qgF hE hrc hsel (3*ops.size+20) ops.size (by simp) ?_ (r.ext hdr) h fun σ2 γ2 a2 w2 hk2 r2 s2=>fin σ2 γ2 a2 w2 hk2 r2 ((Step.ext hdr).trans s2));unfold nUn;exact Nat.le_trans List.countP_le_length (by simp)
    split at h
    · obtain⟨hB,h⟩:=chk_some.1 h;refine wp_region_quiet (C:=Chg [] w) hm hB hdr (qbb hE _ r h fun σ' a' r' s' hk w' hc=>?_);exact fin σ' γ a' w' hk (r'.ext hc) (s'.trans (Step.ext hc))
    · obtain⟨hB2,h⟩:=chk_some.1 h;refine qc9 (C:=Chg [] w) _ hm hB2 hdr (qbb hE _ r h fun σ' a' r' s' hk w' hc=>?_);exact qN hE hrc _ _ (r'.ext hc) hk fun σ2 γ2 a2 w2 hk2 r2 s2=>fin σ2 γ2 a2 w2 hk2 r2 (s'.trans ((Step.ext hc).trans s2))
  · cases h
theorem retype {F:Fr} {objs:List OB} {γ:Gh} {w:World} {p:Nat} {ob ob':OB} (r:ORel F objs γ w) (hp:objs[p]?=some ob) (hm:mutOb ob=true)
    (hnf:∀(i:TypeId) (e:Ty) (xs:List (D e)),ob' ≠ .arr i e xs true) (hob:ObR objs γ w ob' (γ p)) (hna:isAr ob'=false:=by rfl):ORel F (objs.set p ob') γ w∧Keep objs γ w (objs.set p ob') γ w objs.length:=by
  have hlt:=qe hp;have hget:∀o',(objs.set p ob')[o']?=if p=o' then some ob' else objs[o']?:=fun o'=>by
    rw[List.getElem?_set];by_cases e1:p=o'
    · subst e1;simp[hlt]
    · simp[e1]
  have hmu:∀o',Mut (objs.set p ob') o'→Mut objs o':=by
    rintro o' ⟨ob2,h1,h2⟩
    rw[hget] at h1;split at h1
    · rename_i e;subst e;exact⟨_,hp,hm⟩
    · exact⟨ob2,h1,h2⟩
  have K:Keep objs γ w (objs.set p ob') γ w objs.length:=⟨⟨fun k hk=>⟨hk.lt,hk.s,fun o' hm'=>hk.own o' (hmu o' hm'),hk.nb⟩,fun _ _ h=>h⟩,fun _ _=>rfl,by simp,fun _ _=>rfl,Nat.le_refl _,rfl,fun _ _ _ _ h=>h⟩;refine⟨⟨fun o' ob2 h1=>?_,fun o1 o2 b' h1 h2=>r.inj o1 o2 b' (hmu o1 h1) (hmu o2 h2),fun o1 b' h1=>r.own o1 b' (hmu o1 h1),fun o1 b' h1 h2=>r.lt o1 b' (by simpa using h1) h2,r.chg,fun o1 i e xs b' h1 h2=>?_,r.up,r.tab.mono K.imm K.heap,r.bl,fun o1 b' h1=>r.bo o1 b' (hmu o1 h1),fun o1 t q ow xs lent h1=>(r.ar o1 t q ow xs lent (SameAr.set objs p hna o1 t q ow xs lent h1)).keep K rfl rfl (fun _=>rfl) (fun _ _=>rfl)⟩,K⟩
  · rw[hget] at h1;split at h1
    · rename_i e;subst e;cases h1;exact ObR.keep K (fun _ _=>rfl) hob
    · exact ObR.keep K (fun _ _=>rfl) (r.rep o' _ h1)
  · rw[hget] at h1;split at h1
    · cases h1;exact absurd rfl (hnf _ _ _)
    · exact K.imm _ (r.frz o1 i e xs b' h1 h2)
theorem qgf (hE:EnvOK P env) (hm:P.follows .mixedOrders=true):∀(n:Nat) (α:Type),RcOK P (den P env n α)∧RdOK P n (den P env n α):=by
  intro n
  induction n with
  | zero=>exact fun α=>⟨fun ann c σ K res h=>by simp[den] at h,fun b σ K res h=>by simp[den] at h⟩
  | succ n ih0 =>
    intro α;have ih:=fun α=>(ih0 α).1;refine⟨?_,fun b σ K res h F γ a w Q r hcl hp=>?_⟩
    case refine_2 =>
      simp only[den,denP] at h;rw[rounds_succ];refine ih α _ _ _ _ _ h F γ a w _ r hcl ⟨fun σ' γ' a' w' hk r' hc' s'=>?_,fun i σ' γ' a' w' hk r' hc' s'=>hp.x i σ' γ' a' w' hk r' hc' s',fun σ' γ' a' w' hk r' hc' s'=>hp.r σ' γ' a' w' hk r' hc' s'⟩;exact(ih0 α).2 _ _ _ _ hk F γ' a' w' Q r' hc' (hp.then s')
    intro ann c σ K res h F γ a w Q r hcl hp
    cases ann with
    | nil=>exact qau hE hm (ih α) (ih0 α).2 h r hcl hp
    | two x y=>exact qau hE hm (ih α) (ih0 α).2 h r hcl hp
    | own x=>exact qau hE hm (ih α) (ih0 α).2 h r hcl hp
    | vw x=>exact qau hE hm (ih α) (ih0 α).2 h r hcl hp
    | tail m x=>exact qau hE hm (ih α) (ih0 α).2 h r hcl hp
    | any s g x=>exact qau hE hm (ih α) (ih0 α).2 h r hcl hp
    | ord i u x y=>exact qau hE hm (ih α) (ih0 α).2 h r hcl hp
    | alt x y=>exact qau hE hm (ih α) (ih0 α).2 h r hcl hp
    | spl d x=>exact qau hE hm (ih α) (ih0 α).2 h r hcl hp
    | sel o i x y =>
      simp only[den] at h;exact ih α _ _ _ _ _ h F γ a w Q r hcl hp
    | mbs o x1 x2 =>
      simp only[den,Option.bind_eq_some_iff] at h;obtain⟨ob,hob,h⟩:=h
      cases ob with
      | mbr i e y =>
        simp only[chk_some,Bool.not_eq_true'] at h;obtain⟨hpr,h⟩:=h;have key:∀ob':OB,(∀(i:TypeId) (e:Ty) (xs:List (D e)),ob' ≠ .arr i e xs true)→isAr ob'=false→ObR σ.objs γ w ob' (γ o)→Rel F { σ with objs:=σ.objs.set o ob' } γ a w∧Step σ γ w { σ with objs:=σ.objs.set o ob' } γ w:=fun ob' hnf hna hob'=>by
          obtain⟨q1,q2⟩:=retype r.o hob rfl hnf hob' hna;have s1:∀o',o'<σ.objs.length→bitB σ.prO o'=true→(σ.objs.set o ob')[o']?=σ.objs[o']?:=fun o' _ hp=>by
            rw[List.getElem?_set,if_neg];intro e1;subst e1;rw[hpr] at hp;cases hp
          exact⟨r.setObjsN q2 q1,⟨rfl,rfl,rfl,fun _ _ _ h=>h,s1,q2⟩⟩
        cases y with
        | none =>
          simp only[Option.elim_none] at h
          obtain⟨r1,s1⟩:=key .nilr (fun _ _ _ e=>by cases e) rfl (by
            rcases r.o.rep o _ hob with ⟨_,h1⟩ | ⟨_,_,h1,_⟩
            · exact h1
            · cases h1)
          exact ih α _ _ _ _ _ h F γ a w Q r1 hcl (hp.then s1)
        | some xs =>
          simp only[Option.elim_some] at h
          obtain⟨r1,s1⟩:=key (.arr i e xs false) (fun _ _ _ e=>by cases e) rfl (by
            rcases r.o.rep o _ hob with ⟨h1,_⟩ | ⟨xs',us,h1,h2,h3⟩
            · cases h1
            · cases h1;exact⟨us,h2,h3⟩)
          exact ih α _ _ _ _ _ h F γ a w Q r1 hcl (hp.then s1)
      | _=>simp at h
    | fra x =>
      simp only[den,Option.bind_eq_some_iff] at h;obtain⟨objs1,h1,h2⟩:=h;obtain⟨γ1,r1,s1⟩:=fra_spec r h1;exact ih α _ _ _ _ _ h2 F γ1 a w Q r1 hcl (hp.then s1)
    | slk t x y =>
      simp only[den] at h;exact ih α _ _ _ _ _ h F γ a w Q r hcl hp
    | frz l x =>
      simp only[den,Option.bind_eq_some_iff] at h;obtain⟨objs1,h1,h2⟩:=h;obtain⟨f1,_⟩:=qt r.o h1;have s1:Step σ γ w { σ with objs:=objs1 } γ w:=⟨rfl,rfl,rfl,fun _ _ _ h=>h,fun o _ hp=>f1.prot o hp,f1.keep⟩;exact ih α _ _ _ _ _ h2 F γ a w Q (r.setObjs f1.keep f1.same f1.o) hcl (hp.then s1)
    | join s x =>
      simp only[den,chk_some,Option.bind_eq_some_iff] at h;obtain⟨hho,y,h1,h2⟩:=h;refine ih s.T _ _ _ _ _ h1 F γ a w Q r.enter hcl ⟨fun σ' γ' a' w' hk r' hc' s'=>?_,fun i σ' γ' a' w' hk=>(by cases hk),fun σ' γ' a' w' hk=>(by cases hk)⟩;obtain⟨γF,rF,cF,sF⟩:=qcY r hho r' s'.n (fun t ht e he=>(qds (s'.slots t e (by rw[AState.enter];exact(by rw[qbh,mask_bit.2 ht];simp)) he)).1) (fun o ho hl=>s'.objs o ho (by rw[AState.enter];exact(by rw[qbh,qeA ho hl];simp))) s'.keep hk;exact hp.n _ γF a' w' h2 rF cF sF
    | joinE s x =>
      simp only[den,chk_some,Option.bind_eq_some_iff] at h;obtain⟨hho,y,h1,h2⟩:=h
      cases y with
      | inl y =>
        refine ih (s.T ⊕ α) _ _ _ _ _ h1 F γ a w Q r.enter hcl ⟨fun σ' γ' a' w' hk r' hc' s'=>?_,fun i σ' γ' a' w' hk=>?_,fun σ' γ' a' w' hk=>?_⟩
        · simp only[Option.map_eq_some_iff,Sum.inl.injEq,exists_eq_right] at hk;obtain⟨γF,rF,cF,sF⟩:=qcY r hho r' s'.n (fun t ht e he=>(qds (s'.slots t e (by rw[AState.enter];exact(by rw[qbh,mask_bit.2 ht];simp)) he)).1) (fun o ho hl=>s'.objs o ho (by rw[AState.enter];exact(by rw[qbh,qeA ho hl];simp))) s'.keep hk;exact hp.n _ γF a' w' h2 rF cF sF
        · simp at hk
        · simp at hk
      | inr y =>
        simp only[Sum.elim_inr,Option.some.injEq] at h2;subst h2;refine ih (s.T ⊕ α) _ _ _ _ _ h1 F γ a w Q r.enter hcl ⟨fun σ' γ' a' w' hk r' hc' s'=>?_,fun i σ' γ' a' w' hk r' hc' s'=>?_,fun σ' γ' a' w' hk r' hc' s'=>?_⟩
        · simp at hk
        · simp only[Option.map_eq_some_iff,Sum.inr.injEq,exists_eq_right] at hk;exact hp.x i _ γ' a' w' hk r'.leave hc' s'.leave
        · simp only[Option.map_eq_some_iff,Sum.inr.injEq,exists_eq_right] at hk;exact hp.r _ γ' a' w' hk r'.leave hc' s'.leave
    | loop s x =>
      cases c with
      | loop b =>
        simp only[den,chk_some,Option.bind_eq_some_iff] at h;obtain⟨hho,x0,h1,h2⟩:=h;obtain⟨N,h3⟩:=qh2 h2;refine wp_loop_rounds N ?_;obtain⟨γ0,r0,c0,s0⟩:=qcY r hho r rfl (fun t ht e he=>(qds he).1) (fun o ho hl=>rfl) (Keep.refl _ _ _) h1;clear h1 h2
        have key:∀(N:Nat) (y:s.T) (γ1:Gh) (a1:Act) (w1:World),iterN (fun x_1=>den P env n (s.T ⊕ α) x b ((conc s σ x_1).enter s σ.objs.length) ⟨fun σ'=>Option.map Sum.inl (absT s σ.objs.length σ'),fun i σ'=>Option.map Sum.inr (K.x i (σ'.leave σ)),fun σ'=>Option.map Sum.inr (K.r (σ'.leave σ))⟩) N y=some res →
            Rel F (conc s σ y) γ1 a1 w1→Cl (conc s σ y)→Step σ γ w (conc s σ y) γ1 w1→Code.rounds P b Q N a1 w1:=by
          intro N
          induction N with
          | zero=>intro y γ1 a1 w1 h;simp[iterN] at h
          | succ N ihN =>
            intro y γ1 a1 w1 h r1 c1 s1;rw[rounds_succ];simp only[iterN] at h;have hkeep:∀t∈s.keep,∀e,kf σ.slots t=some e→kf (conc s σ y).slots t=some e:=fun t ht e he=>by
              have hh:=hho;simp only[qdY,Bool.and_eq_true,List.all_eq_true,Bool.not_eq_true'] at hh;obtain⟨⟨⟨hpm,hsl⟩,hndo,hol⟩,hg0,hkn0⟩:=hh;obtain⟨k1,k2,k3⟩:=qds he;refine kf_of ?_ k2 k3;unfold conc
              rw[(qcQ s.slots y.1 _).2.2.2.2.2.2.2 t (fun q hq e1=>by
                have:=(hsl q hq).1;rw[e1,memN_spec.2 ht] at this
                cases this)]
              show get (keepF σ.slots s.keep) t=some e;rw[qe7 ht];exact he
            have hobj:∀o,o<σ.objs.length→listed o s.objs=false→(conc s σ y).objs[o]?=σ.objs[o]?:=fun o ho hl=>by
              unfold conc;rw[(qcQ s.slots y.1 _).2.1 o (Nat.lt_of_lt_of_le ho (qP s.objs y.2 σ.objs))];exact qk s.objs y.2 σ.objs o ho hl
            have hlen:σ.objs.length≤(conc s σ y).objs.length:=s1.len;split at h
            · cases h
            · rename_i z hz;refine ih (s.T ⊕ α) _ _ _ _ _ hz F γ1 a1 w1 _ r1.enter c1 ⟨fun σ' γ' a' w' hk r' hc' s'=>?_,fun i σ' γ' a' w' hk=>?_,fun σ' γ' a' w' hk=>?_⟩
              · simp only[Option.map_eq_some_iff,Sum.inl.injEq,exists_eq_right] at hk;obtain⟨γF,rF,cF,sF⟩:=qcY r hho r' (s'.n.trans s1.n) (fun t ht e he=>(qds (s'.slots t e (by rw[AState.enter];exact(by rw[qbh,mask_bit.2 ht];simp)) (hkeep t ht e he))).1)
                  (fun o ho hl=>(s'.objs o (Nat.lt_of_lt_of_le ho hlen) (by rw[AState.enter];exact(by rw[qbh,qeA ho hl];simp))).trans (hobj o ho hl)) (s1.keep.trans (s'.keep.less hlen)) hk
                exact ihN z γF a' w' h rF cF sF
              · simp at hk
              · simp at hk
            · rename_i z hz;cases h;refine ih (s.T ⊕ α) _ _ _ _ _ hz F γ1 a1 w1 _ r1.enter c1 ⟨fun σ' γ' a' w' hk r' hc' s'=>?_,fun i σ' γ' a' w' hk r' hc' s'=>?_,fun σ' γ' a' w' hk r' hc' s'=>?_⟩
              · simp at hk
              · simp only[Option.map_eq_some_iff,Sum.inr.injEq,exists_eq_right] at hk;refine hp.x i _ γ' a' w' hk r'.leave hc' (s1.trans ?_);have s2:=s'.leave;exact⟨s2.n,s1.prS.symm,s1.prO.symm,s2.slots,s2.objs,s2.keep⟩
              · simp only[Option.map_eq_some_iff,Sum.inr.injEq,exists_eq_right] at hk;refine hp.r _ γ' a' w' hk r'.leave hc' (s1.trans ?_);have s2:=s'.leave;exact⟨s2.n,s1.prS.symm,s1.prO.symm,s2.slots,s2.objs,s2.keep⟩
        exact key N x0 γ0 a w h3 r0 c0 s0
      | _=>simp[den] at h
end
end Go.Den
namespace Go.Den
open Go.Eng (qw CellsAt Chg InR adr aggOf)
set_option linter.unusedVariables false
set_option linter.unusedSectionVars false
set_option linter.unusedSimpArgs false
variable [CT : Ctx]

section
variable {P : Program} {env : Env}

def Ty.nref:Ty→Bool
  | .ref=>false
  | .sl e=>e.nref
  | .osl _ e=>e.nref
  | .obx e=>e.nref
  | .onl _ e=>e.nref
  | .st f r=>f.nref&&r.nref
  | _=>true
theorem qbz {w:World} {p:Nat→Prop} {m m':Nat→Option Nat}:∀(τ:Ty) {x:D τ} {M:List Nat} {cs:List Value},τ.nref=true→Rep w ⟨p,m⟩ τ x M cs→Rep w ⟨p,m'⟩ τ x M cs
  | .int _,_,_,_,_,h=>h
  | .bool,_,_,_,_,h=>h
  | .str,_,_,_,_,h=>h
  | .nil,_,_,_,_,h=>h
  | .ref,_,_,_,hn,_=>by cases hn
  | .sl e,xs,M,cs,hn,h=>by
    obtain⟨hM,ao,cap,us,h1,h2,h3,h4⟩:=h;exact⟨hM,ao,cap,us,h1,h2,h3.mono fun x c hx=>qbz e hn hx,h4⟩
  | .osl i e,xs,M,cs,hn,h=>by
    obtain⟨v,us,h1,h2,h3⟩:=h;exact⟨v,us,h1,h2,h3.mono fun x c hx=>qbz e hn hx⟩
  | .obx e,x,M,cs,hn,h=>by
    obtain⟨b,M',T,cells,h1,h2,h3,h4⟩:=h;exact⟨b,M',T,cells,h1,h2,h3,qbz e hn h4⟩
  | .onl i e,x,M,cs,hn,h=>by
    rcases h with h | ⟨xs,v,us,h0,h1,h2,h3⟩
    · exact .inl h
    · exact .inr ⟨xs,v,us,h0,h1,h2,h3.mono fun x c hx=>qbz e hn hx⟩
  | .err,_,_,_,_,h=>h
  | .bld t i,xs,M,cs,_,h=>h
  | .ifc _ _,_,_,_,_,h=>h
  | .omp _ _,_,_,_,_,h=>h
  | .st f r,x,M,cs,hn,h=>by
    simp only[Ty.nref,Bool.and_eq_true] at hn;obtain⟨c1,c2,M1,M2,h1,h2,h3,h4⟩:=h;exact⟨c1,c2,M1,M2,h1,h2,qbz f hn.1 h3,qbz r hn.2 h4⟩
theorem qdw {objs:List OB} {γ:Gh} {w:World} {S:Sp} (hS:Sp.le S (Imm objs γ w)):∀ {ps:List Ty} {x:DL ps} {vs:List Value},ArgsR w S ps x vs→PRL objs γ w (qcR ps x) vs
  | [],_,_,h=>h
  | τ::r,x,_,⟨v,q,e,⟨cs,h1,h2⟩,h3⟩=>by
    refine⟨v,q,e,?_,qdw hS h3⟩;have:=qu τ (Rep.mono hS (fun _ _=>rfl) τ h1 (by simp));rw[h2];exact qY (qbd τ x.1) this
theorem qbA:∀(ps:List Ty) (x:DL ps),(qcR ps x).length=ps.length
  | [],_=>rfl
  | _::r,x=>by simp[qcR,qbA r x.2]
theorem qct {objs:List OB} {γ:Gh} {w:World} {σ:AState} (hσ:σ.objs=objs):∀ {vs:List PV} {ts:List Ty} {cs:List Cv} {vals:List Value},qb6 vs ts=some cs→PRL objs γ w vs vals→∃cells,VRL objs γ w cs cells∧tupV ts cells=vals∧vals.length=ts.length
  | [],[],cs,vals,h,hv=>by
    simp only[qb6,Option.some.injEq] at h;subst h;simp only[PRL] at hv;subst hv;exact⟨[],rfl,rfl,rfl⟩
  | v::vs,τ::ts,cs,vals,h,⟨u,q,e,h1,h2⟩=>by
    simp only[qb6,Option.bind_eq_some_iff,chk_some,Bool.and_eq_true,Option.some.injEq] at h;obtain⟨l,h3,⟨h4,h5⟩,q2,h6,rfl⟩:=h;subst hσ;have hvl:=qX h3 h1
    have hl:u.cells.toList.length=τ.size:=by rw[hvl.length];exact Nat.eq_of_beq_eq_true h4
    obtain⟨cells,h7,h8,h9⟩:=qct rfl h6 h2;refine⟨u.cells.toList++cells,hvl.append h7,?_,by simp[e,h9]⟩;simp only[tupV];rw[←hl,List.take_left,List.drop_left,h8,e,←qff h3 h5 h1]
  | [],_::_,_,_,h,_=>by simp[qb6] at h
  | _::_,[],_,_,h,_=>by simp[qb6] at h
theorem qfm:∀(b:Bool) (ps:List Ty) (x:DL ps),(qfV b ps x).length≤ps.length
  | false,ps,x=>Nat.le_of_eq (qbA ps x)
  | true,[],_=>Nat.le_refl _
  | true,_::r,x=>by simp[qfV,qbA r x.2]
theorem qgt {objs:List OB} {γ:Gh} {w:World} {S:Sp} (hS:Sp.le S (Imm objs γ w)) {b:Bool} {ps:List Ty} {x:DL ps} {vs:List Value} (h:ArgsB w S b ps x vs):PRL objs γ w (qfV b ps x) vs:=by
  cases b with
  | false=>exact qdw hS h
  | true =>
    cases ps with
    | nil=>exact h.elim
    | cons τ r =>
      obtain⟨a,us,q,e,h1,h2,h3,h4,h5⟩:=h;exact⟨_,q,e,⟨a,us,rfl,h1,fun hne=>hS _ (h2 hne),h3,qu τ (Rep.mono hS (fun _ _=>rfl) τ h4 (by simp))⟩,qdw hS h5⟩
theorem con_core (hE:EnvOK P env) (hm:P.follows .mixedOrders=true) {f:FuncId} {fn:Func} (hf:P.funcs[f]?=some fn) {body:Code} (hb:fn.body=some body) (c:Con) (ann:Ann) (hone:(c.one || !Nat.beq c.res.length 1)=true) (hnr:c.ρ.nref=true)
    {w:World} {S:Sp} {args:Array Value} {r:D c.ρ} {objs0:List OB} {pvs:List PV} {γ:Gh} (hγS:γ.S=fun k=>S k∨w.heap.size≤k) (hor:ORel ⟨w,[]⟩ objs0 γ w) (hv:PRL objs0 γ w pvs args.toList) (hn:pvs.length≤fn.ntmps)
    (hr:den P env 10000 (D c.ρ) ann body ⟨fn.ntmps,qav 0 pvs,objs0,0,0,0,[]⟩ ⟨retK P fn c.one c.res c.ρ,fun _ _=>none,retK P fn c.one c.res c.ρ⟩=some r) :
    Calls P f args w (fun e w'=>∃v,e = .returned v∧Chg [] w w'∧ResR w w' S c r v):=by
  have r00:Rel ⟨w,[]⟩ ⟨0,[],objs0,0,0,0,[]⟩ γ { tmps:=#[],defers:=[] } w:=⟨rfl,rfl,fun t tg pv h=>by simp[get] at h,fun t tg pv h=>by simp[get] at h,fun t tg pv h=>by simp[get] at h,fun x hx=>(by cases hx),hor⟩;have r0:=qfg (n:=fn.ntmps) r00 hv hn
  have hlast:∀σ' γ' a' w',retK P fn c.one c.res c.ρ σ'=some r→Rel ⟨w,[]⟩ σ' γ' a' w'→Step ⟨fn.ntmps,qav 0 pvs,objs0,0,0,0,[]⟩ γ w σ' γ' w' →
      a'.defers=[]∧∃v,(results fn a'.tmps).run P w' = .ok v w'∧∃v2,Ending.returned v = .returned v2∧Chg [] w w'∧ResR w w' S c r v2:=by
    intro σ' γ' a' w' hk r' s';simp only[retK,Option.bind_eq_some_iff] at hk;obtain⟨vs,h1,cs,h2,h3⟩:=hk;obtain⟨vals,h4,h5,h6⟩:=qck (P:=P) r' h1;refine⟨r'.defers,_,qdn h5 h6,_,rfl,r'.o.chg,?_⟩;obtain⟨cells,h7,h8,h9⟩:=qct rfl h2 h4;simp only[retD,chk_some,Bool.and_eq_true,List.all_eq_true,Bool.not_eq_true'] at h3;obtain⟨⟨hnd,hdis⟩,h10⟩:=h3;have hmut:=(qO (S:=⟨fun _=>True,γ'.m⟩) r'.o ⟨fun _ _=>trivial,fun _ _ h=>h⟩ c.ρ h10 h7 (fun _ _ _ _=>trivial)).2;have hSeq:γ'.S=fun k=>S k∨w.heap.size≤k:=s'.keep.s.trans hγS;have hMmem:∀b∈blocks γ' (idsO σ'.objs c.ρ cs),∃o∈idsO σ'.objs c.ρ cs,(γ' o).2=some b:=fun b hb=>by
      obtain⟨o,ho,hb'⟩:=List.mem_flatMap.1 hb;exact⟨o,ho,by simpa using hb'⟩
    have hrep:=(qO (S:=⟨fun k=>k<w'.heap.size∧(S k∨w.heap.size≤k)∧k∉blocks γ' (idsO σ'.objs c.ρ cs),γ'.m⟩) r'.o ⟨fun k hk=>⟨hk.lt,by have:=hk.s;rw[hSeq] at this;exact this,fun hm=>by
      obtain⟨o,ho,hb⟩:=hMmem k hm
      exact hk.own o (hmut o ho) hb⟩,fun _ _ h=>h⟩ c.ρ h10 h7 (fun o ho b hb=>by
      obtain⟨i,e,xs,fz,hob⟩:=qcI c.ρ h10 ho;have hnm:b∉blocks γ' (idsO σ'.objs c.ρ cs):=fun hm=>by
        obtain⟨o',ho',hb'⟩:=hMmem b hm
        cases fz with
        | true=>exact(r'.o.frz o i e xs b hob hb).own o' (hmut o' ho') hb'
        | false =>
          have e1:=r'.o.inj o o' b ⟨_,hob,rfl⟩ (hmut o' ho') hb hb';subst e1;have:=hdis o ho;rw[memN_spec.2 ho'] at this;cases this
      refine⟨r'.o.lt o b (qe hob) hb,?_,hnm⟩
      cases fz with
      | true=>have:=(r'.o.frz o i e xs b hob hb).s;rw[hSeq] at this;exact this
      | false =>
        rcases r'.o.own o b ⟨_,hob,rfl⟩ hb with h11 | h11
        · exact .inr h11
        · cases h11)).1
    refine⟨_,cells,qaO r'.o (qaJ hnd) hmut,fun b hb=>?_,qbz c.ρ hnr hrep,?_⟩
    · obtain⟨o,ho,hb'⟩:=hMmem b hb;rcases r'.o.own o b (hmut o ho) hb' with h11 | h11
      · exact h11
      · cases h11
    · unfold resV
      cases hc1:c.one with
      | true =>
        rw[hc1] at h8 h9;simp only[qfz,cond_true,tupV] at h8;rw[←h8]
        have hl:cells.length=c.ρ.size:=by rw[Rep.length c.ρ hrep]
        rw[←hl,List.take_length];rfl
      | false =>
        rw[hc1] at h8 h9 hone;simp only[qfz,cond_false] at h8 h9;simp only[Bool.false_or,Bool.not_eq_true'] at hone;rw[h8]
        have hne:vals.length≠1:=fun e=>by rw[←h9,e] at hone;cases hone
        match vals,hne with
        | [],_=>rfl
        | [_],hne=>exact absurd rfl hne
        | _::_::_,_=>rfl
  have:=(qgf hE hm 10000 (D c.ρ)).1 ann body _ _ r hr ⟨w,[]⟩ γ _ w (bodyPost P fn fun e w'=>∃v,e = .returned v∧Chg [] w w'∧ResR w w' S c r v) r0 ⟨rfl,rfl⟩
    ⟨fun σ' γ' a' w' hk r' _ s'=>hlast σ' γ' a' w' hk r' s',fun i σ' γ' a' w' hk=>(by cases hk),fun σ' γ' a' w' hk r' _ s'=>hlast σ' γ' a' w' hk r' s'⟩
  have hcalls:=calls_of_wp (args:=args) hf hb (by simpa using this);exact hcalls
theorem qhh (hE:EnvOK P env) (hm:P.follows .mixedOrders=true) {f:FuncId} {fn:Func} (hf:P.funcs[f]?=some fn) (b:Bool) (c:Con) (ann:Ann)
    (hok:(fn.body.isSome&&(Nat.ble c.ps.length fn.ntmps&&(c.ps.all Ty.pure&&((c.one || !Nat.beq c.res.length 1)&&c.ρ.nref))))=true) (hwf:c.one=false→c.ρ=stOf c.res) (htt:∀g,c.tot=some g→∀x,c.φ x=some (g x))
    (h:∀x,c.φ x=denB P env ann fn b c.ps c.one c.res c.ρ x):ConB P f b c:=by
  simp only[Bool.and_eq_true] at hok;obtain⟨hbody,hn,hpure,hone,hnr⟩:=hok;have hn:=Nat.le_of_ble_eq_true hn;refine⟨hpure,hwf,htt,fun w S args x r hS hTab hargs hr=>?_⟩;obtain⟨body,hb⟩:=Option.isSome_iff_exists.1 hbody
  have hbo:Eng.bodyOf fn=body:=by simp[Eng.bodyOf,hb]
  rw[h x] at hr;unfold denB at hr;rw[hbo] at hr
  let γ:Gh:=⟨fun _=>(undef,none),fun k=>S k∨w.heap.size≤k,S.m,[],fun _ _=>none⟩
  have hSI:Sp.le S (Imm [] γ w):=⟨fun k hk=>⟨hS k hk,.inl hk,fun o hm=>by obtain⟨ob,h1,_⟩:=hm;simp at h1,fun h=>(nomatch h)⟩,fun _ _ h=>h⟩
  have hor:ORel ⟨w,[]⟩ [] γ w:=⟨fun o ob ho=>by simp at ho,fun o o' b hm=>by obtain⟨ob,h1,_⟩:=hm;simp at h1,fun o b hm=>by obtain⟨ob,h1,_⟩:=hm;simp at h1,fun o b ho=>by simp at ho,Chg.refl _ _,fun o i e xs b ho=>by simp at ho,
    fun k hk => .inr (hk.elim id (fun h=>nomatch h)),hTab.mono hSI (fun _ _=>rfl),fun k h=>(nomatch h),fun o b hm=>by obtain⟨ob,h1,_⟩:=hm;simp at h1,fun o t p ow xs lent ho=>by simp at ho⟩
  exact con_core hE hm hf hb c ann (by simpa using hone) hnr (γ:=γ) rfl hor (qgt hSI hargs) (Nat.le_trans (qfm b c.ps x) hn) hr
theorem qaP (hE:EnvOK P env) (hm:P.follows .mixedOrders=true) {f:FuncId} {fn:Func} (hf:P.funcs[f]?=some fn) (c:Con) (ann:Ann)
    (hok:(fn.body.isSome&&(Nat.ble c.ps.length fn.ntmps&&(c.ps.all Ty.pure&&((c.one || !Nat.beq c.res.length 1)&&c.ρ.nref))))=true) (hwf:c.one=false→c.ρ=stOf c.res) (htt:∀g,c.tot=some g→∀x,c.φ x=some (g x))
    (h:∀x,c.φ x=denF P env ann fn c.ps c.one c.res c.ρ x):ConOK P f c:=(qhh hE hm hf false c ann hok hwf htt h).ok
theorem fixW_some {T α:Type} {G:(T→Option α)→T→Option α} {x:T} {r:α} (h:fixW G x=some r):∃n,fixN G n x=some r:=by
  unfold fixW at h;split at h
  · exact⟨_,h⟩
  · cases h
end

def tyE:Eng.Ty→Ty
  | .int k => .int k
  | .bool => .bool
  | .str => .str
  | .sl e => .sl (tyE e)
  | .nil => .nil
  | .st f r => .st (tyE f) (tyE r)
def dE:(τ:Eng.Ty)→Eng.D τ→D (tyE τ)
  | .int _,n=>n
  | .bool,b=>b
  | .str,s=>s
  | .sl e,(_,_,xs)=>xs.map (dE e)
  | .nil,_=>()
  | .st f r,(x,y)=>(dE f x,dE r y)
def RngL {A:Type} (m:Nat) (R:A→Prop) (xs:List A):Prop:=xs.length≤m∧∀x∈xs,R x
def Rng:(τ:Ty)→D τ→Prop
  | .int k,n=>InR k n
  | .bool,_=>True
  | .str,s=>s.size≤maxLen
  | .sl e,xs=>RngL maxLen (Rng e) xs
  | .osl _ e,xs=>RngL maxLen (Rng e) xs
  | .obx e,x=>Rng e x
  | .onl _ _,_=>True
  | .err,_=>True
  | .bld _ _,_=>True
  | .nil,_=>True
  | .ref,_=>True
  | .ifc _ _,_=>True
  | .omp _ _,_=>True
  | .st f r,x=>Rng f x.1∧Rng r x.2
def posE:Eng.Ty→Bool
  | .sl e=>!Nat.beq e.size 0&&posE e
  | .st f r=>posE f&&posE r
  | _=>true
theorem rng_of:∀(τ:Eng.Ty) {y:Eng.D τ} {w:World},Eng.Ok w τ y→Rng (tyE τ) (dE τ y)
  | .int _,_,_,h=>h
  | .bool,_,_,_=>trivial
  | .str,_,_,h=>h
  | .nil,_,_,_=>trivial
  | .sl e,(ao,cap,xs),w,h=>by
    obtain⟨h1,h2,h3⟩:=h;refine⟨by simp only[dE,List.length_map];omega,fun x hx=>?_⟩;obtain⟨y,hy,rfl⟩:=List.mem_map.1 hx;obtain⟨i,hi,rfl⟩:=List.mem_iff_getElem.1 hy;exact rng_of e (h3 i hi).2.2
  | .st f r,(x,y),w,h=>⟨rng_of f h.1,rng_of r h.2⟩
theorem qho:∀(τ:Eng.Ty) {y:Eng.D τ} {w:World},posE τ=true→Eng.Ok w τ y→Rep w ⟨fun k=>k<w.heap.size,fun _=>none⟩ (tyE τ) (dE τ y) [] (Eng.enc τ y)
  | .int _,_,_,_,h=>⟨rfl,rfl⟩
  | .bool,_,_,_,_=>⟨rfl,rfl⟩
  | .str,_,_,_,h=>⟨rfl,rfl⟩
  | .nil,_,_,_,_=>⟨rfl,rfl⟩
  | .sl e,(ao,cap,xs),w,hp,h=>by
    simp only[posE,Bool.and_eq_true,Bool.not_eq_true'] at hp;obtain⟨h1,h2,h3⟩:=h;have hpos:0<e.size:=by
      rcases Nat.eq_zero_or_pos e.size with h0 | h0
      · rw[h0] at hp;cases hp.1
      · exact h0
    refine⟨rfl,ao,cap,(xs.map (Eng.enc e)).flatten,by simp[dE,Eng.enc],by simpa[dE] using h1,?_,fun hne=>?_⟩
    · clear h1 h2;have:∀(l:List (Eng.D e)),(∀x∈l,Eng.Ok w e x)→RepL (fun x c=>Rep w ⟨fun k=>k<w.heap.size,fun _=>none⟩ (tyE e) x [] c) (l.map (dE e)) (l.map (Eng.enc e)).flatten:=by
        intro l
        induction l with
        | nil=>intro _;rfl
        | cons x l ih=>intro hl;exact⟨_,_,rfl,qho e hp.2 (hl x List.mem_cons_self),ih fun y hy=>hl y (List.mem_cons_of_mem _ hy)⟩
      exact this xs fun x hx=>by
        obtain⟨i,hi,rfl⟩:=List.mem_iff_getElem.1 hx;exact(h3 i hi).2.2
    · have hx:xs≠[]:=fun e=>hne (by subst e;rfl);have hl0:0<xs.length:=List.length_pos_iff.2 hx;have hs:=(h3 0 hl0).1;obtain⟨ad,rfl⟩:=Option.isSome_iff_exists.1 hs;have hcells:CellsAt w ad (xs.map (Eng.enc e)).flatten:=by
        intro j v hv;have key:∀(l:List (Eng.D e)) (j:Nat) (v:Value),((l.map (Eng.enc e)).flatten)[j]?=some v→∃i,∃hi:i<l.length,∃m,j=i*e.size+m∧(Eng.enc e l[i])[m]?=some v:=by
          intro l
          induction l with
          | nil=>intro j v h;simp at h
          | cons x l ih =>
            intro j v h;simp only[List.map_cons,List.flatten_cons] at h;by_cases hj:j<(Eng.enc e x).length
            · rw[List.getElem?_append_left hj] at h;exact⟨0,by simp,j,by simp,h⟩
            · rw[List.getElem?_append_right (by omega)] at h;obtain⟨i,hi,m,h4,h5⟩:=ih _ v h;rw[Eng.enc_length] at h4 hj;refine⟨i+1,by simpa using hi,m,?_,by simpa using h5⟩;rw[Nat.add_mul];omega
        obtain⟨i,hi,m,rfl,h5⟩:=key xs j v hv;have:=(h3 i hi).2.1 m v h5;rw[←qhd];exact this
      refine⟨ad,rfl,?_,hcells⟩;obtain⟨v,hv⟩:∃v,(Eng.enc e xs[0])[0]?=some v:=⟨_,List.getElem?_eq_getElem (Nat.lt_of_lt_of_le hpos (Nat.le_of_eq (Eng.enc_length e xs[0]).symm))⟩;have:=(h3 0 hl0).2.1 0 v hv;have hb:=World.block_lt_of_cell? w _ this;rw[Eng.add_block,Eng.add_block] at hb;exact hb
  | .st f r,(x,y),w,hp,h=>by
    simp only[posE,Bool.and_eq_true] at hp;exact⟨_,_,[],[],rfl,rfl,qho f hp.1 h.1,qho r hp.2 h.2⟩
theorem arg_of (τ:Eng.Ty) {y:Eng.D τ} {w:World} (hp:posE τ=true) (h:Eng.Ok w τ y):ArgR w ⟨fun k=>k<w.heap.size,fun _=>none⟩ (tyE τ) (dE τ y) (Eng.handV τ y):=by
  refine⟨_,qho τ hp h,?_⟩
  cases τ with
  | sl e=>obtain⟨ao,cap,xs⟩:=y;rfl
  | _=>rfl
theorem law_call {P:Program} {f:FuncId} {ps:List Ty} {φ:DL ps→Option Bool} {t:Option (DL ps→Bool)} (hc:ConOK P f ⟨ps,true,[],.bool,φ,t⟩) {w:World} {args:Array Value} {x:DL ps} (hT:TabR (fun k=>k<w.heap.size) w) (ha:ArgsR w ⟨fun k=>k<w.heap.size,fun _=>none⟩ ps x args.toList) (ht:φ x=some true) :
    Calls P f args w fun e w'=>e = .returned (.bool true)∧RowKit.Below w.heap.size w w':=by
  refine(hc.calls w _ args x true (fun _ h=>h) hT ha ht).mono fun e w' hh=>?_;obtain⟨v,rfl,hch,M,cs,_,_,hrep,hv⟩:=hh;refine⟨?_,hch.toBelow⟩;obtain⟨_,rfl⟩:M=[]∧cs=[.bool true]:=hrep;rw[hv];rfl
end Go.Den
namespace Go.Den
open Go.Eng (qw CellsAt Chg InR adr aggOf)
set_option linter.unusedVariables false
set_option linter.unusedSectionVars false
set_option linter.unusedSimpArgs false
variable [CT : Ctx]

section
variable {P : Program} {env : Env}
theorem qen {objs:List OB} {γ:Gh} {w:World} {S:Sp} (hS:Sp.le S (Imm objs γ w)):∀ {ps:List Ty} {x:DL ps} {vs:List Value},ArgsR w S ps x vs→PRL objs γ w (qcR ps x) vs
  | [],_,_,h=>h
  | τ::r,x,_,⟨v,q,e,⟨cs,h1,h2⟩,h3⟩=>by
    refine⟨v,q,e,?_,qen hS h3⟩;have:=qu τ (Rep.mono hS (fun _ _=>rfl) τ h1 (by simp));rw[h2];exact qY (qbd τ x.1) this
theorem qfv (hE:EnvOK P env) (hm:P.follows .mixedOrders=true) {f:FuncId} {fn:Func} (hf:P.funcs[f]?=some fn) (c:Ioc) (ann:Ann)
    (hok:(fn.body.isSome&&(Nat.ble (c.ps.length+1) fn.ntmps&&(c.ps.all Ty.pure&&((c.one || !Nat.beq c.res.length 1)&&(c.bx.nref&&c.ρ.nref)))))=true) (hwf:c.one=false→c.ρ=stOf c.res)
    (h:∀x,c.φ x=denIO P env ann fn c.bx c.ps c.one c.res c.ρ x):IocOK P f c:=by
  simp only[Bool.and_eq_true] at hok;obtain⟨hbody,hn,hpure,hone,hnb,hnr⟩:=hok
  have hone:(c.one || !Nat.beq c.res.length 1)=true:=by simpa using hone
  have hn:=Nat.le_of_ble_eq_true hn;refine⟨hpure,hwf,fun w S b T cs M args x r hS hTab hheap hMnd hbM hrep hargs hr=>?_⟩;obtain⟨body,hb⟩:=Option.isSome_iff_exists.1 hbody
  have hbo:Eng.bodyOf fn=body:=by simp[Eng.bodyOf,hb]
  rw[h x] at hr;unfold denIO at hr;rw[hbo] at hr;have hblt:b<w.heap.size:=(Array.getElem?_eq_some_iff.1 hheap).1;have hMlt:=rep_lt c.bx hrep;obtain⟨gs,hgl,hgM,hgp⟩:=qbM c.bx hrep 1;obtain⟨q,hq⟩:∃q,cc c.bx x.1 1=q:=⟨_,rfl⟩;rw[hq] at hgl hgp hr
  let γ:Gh:=⟨fun o=>match o with
    | 0=>(.pointer (some ⟨b,0,none⟩),some b)
    | j+1=>(gs[j]?).getD (undef,none),fun k=>S k∨w.heap.size≤k∨k∈b::M,S.m,[],fun _ _=>none⟩
  have hγ:∀j g,gs[j]?=some g→γ (1+j)=g:=fun j g hj=>by
    rw[Nat.add_comm];show(gs[j]?).getD (undef,none)=g;rw[hj];rfl
  have hblocks:∀o k,o<(OB.box q.1::q.2).length→(γ o).2=some k→k∈b::M:=fun o k ho hk=>by
    cases o with
    | zero=>simp[γ] at hk;simp[hk]
    | succ j =>
      have hj:j<gs.length:=by rw[hgl];simpa using ho
      have:=hγ j _ (List.getElem?_eq_getElem hj);rw[Nat.add_comm] at this;rw[this] at hk;refine List.mem_cons_of_mem _ ?_;rw[hgM];exact List.mem_flatMap.2 ⟨_,List.getElem_mem hj,by simp[hk]⟩
  have hSI:Sp.le S (Imm (OB.box q.1::q.2) γ w):=⟨fun k hk=>⟨(hS k hk).1,.inl hk,fun o hm hb'=>by
    obtain⟨ob,h1,_⟩:=hm;rcases List.mem_cons.1 (hblocks o k (qe h1) hb') with e | e
    · exact(hS k hk).2.1 e
    · exact(hS k hk).2.2 e,fun h=>(nomatch h)⟩,fun _ _ h=>h⟩
  obtain⟨hv1,hv2⟩:=hgp (OB.box q.1::q.2) γ hSI hγ (by simp[hgl];omega);have hor:ORel ⟨w,b::M⟩ (OB.box q.1::q.2) γ w:=by
    refine⟨fun o ob ho=>?_,fun o o' k h1 h2 hb1 hb2=>?_,fun o k hm hk => .inr ?_,fun o k ho hk=>?_,Chg.refl _ _,fun o i e xs k ho hk=>?_,fun k hk=>?_,hTab.mono hSI (fun _ _=>rfl),fun k h=>(nomatch h),fun o k _ _ h=>(nomatch h),fun o t p ow xs lent ho=>by
      cases o with
      | zero=>simp at ho
      | succ j =>
        simp only[List.getElem?_cons_succ] at ho
        have hj:j<gs.length:=by rw[hgl];exact qe ho
        cases (hv2 j _ _ ho (List.getElem?_eq_getElem hj)).2⟩
    · cases o with
      | zero=>simp at ho;subst ho;exact⟨b,T,cs,rfl,hheap,hv1⟩
      | succ j =>
        simp only[List.getElem?_cons_succ] at ho
        have hj:j<gs.length:=by rw[hgl];exact qe ho
        have:=(hv2 j ob _ ho (List.getElem?_eq_getElem hj)).1;have e:=hγ j _ (List.getElem?_eq_getElem hj);rw[Nat.add_comm] at e;rw[e];exact this
    · have key:∀o k,o<(OB.box q.1::q.2).length→(γ o).2=some k→(o=0∧k=b)∨∃j g,o=j+1∧gs[j]?=some g∧g.2=some k∧k∈M:=fun o k ho hk=>by
        cases o with
        | zero=>simp[γ] at hk;exact .inl ⟨rfl,hk.symm⟩
        | succ j =>
          have hj:j<gs.length:=by rw[hgl];simpa using ho
          have e:=hγ j _ (List.getElem?_eq_getElem hj);rw[Nat.add_comm] at e;rw[e] at hk;exact .inr ⟨j,_,rfl,List.getElem?_eq_getElem hj,hk,by rw[hgM];exact List.mem_flatMap.2 ⟨_,List.getElem_mem hj,by simp[hk]⟩⟩
      rcases key o k h1.lt hb1 with ⟨rfl,e1⟩ | ⟨j1,g1,rfl,hg1,hk1,m1⟩<;>rcases key o' k h2.lt hb2 with ⟨rfl,e2⟩ | ⟨j2,g2,rfl,hg2,hk2,m2⟩
      · rfl
      · exact absurd (e1▸m2) hbM
      · exact absurd (e2▸m1) hbM
      · rw[qhD (hgM▸hMnd) hg1 hg2 hk1 hk2]
    · obtain⟨ob,h1,_⟩:=hm;exact hblocks o k (qe h1) hk
    · rcases List.mem_cons.1 (hblocks o k ho hk) with e | e
      · rw[e];exact hblt
      · exact hMlt k e
    · cases o with
      | zero=>simp at ho
      | succ j =>
        simp only[List.getElem?_cons_succ] at ho
        have hj:j<gs.length:=by rw[hgl];exact qe ho
        cases (hv2 j _ _ ho (List.getElem?_eq_getElem hj)).2
    · rcases hk with hk | hk
      · exact .inr (.inl hk)
      · exact .inr (.inr hk)
  have hv:PRL (OB.box q.1::q.2) γ w (.c (.ptr 0 0)::qcR c.ps x.2) (.pointer (some ⟨b,0,none⟩)::args):=⟨_,_,rfl,⟨by simp,b,rfl,rfl⟩,qen hSI hargs⟩;have r00:Rel ⟨w,b::M⟩ ⟨0,[],OB.box q.1::q.2,0,0,0,[]⟩ γ { tmps:=#[],defers:=[] } w:=⟨rfl,rfl,fun t tg pv h=>by simp[get] at h,fun t tg pv h=>by simp[get] at h,fun t tg pv h=>by simp[get] at h,fun x hx=>(by cases hx),hor⟩;have r0:=qfg (n:=fn.ntmps) r00 hv (by rw[List.length_cons,qbA];exact hn)
  have hlast:∀σ' γ' a' w',retIO P fn c.bx c.one c.res c.ρ σ'=some r→Rel ⟨w,b::M⟩ σ' γ' a' w'→Step ⟨fn.ntmps,qav 0 (.c (.ptr 0 0)::qcR c.ps x.2),OB.box q.1::q.2,0,0,0,[]⟩ γ w σ' γ' w' →
      a'.defers=[]∧∃v,(results fn a'.tmps).run P w' = .ok v w'∧∃v2,Ending.returned v = .returned v2∧Chg (b::M) w w'∧IoR w w' S b M c r v2:=by
    intro σ' γ' a' w' hk r' s';simp only[retIO,Option.bind_eq_some_iff] at hk;obtain⟨vs,h1,cs1,h2,ob,hob,h3⟩:=hk
    cases ob with
    | box bs =>
      simp only[chk_some,Bool.and_eq_true,Bool.not_eq_true'] at h3;obtain⟨⟨hbl,hm00⟩,h3⟩:=h3;have hbl:=Nat.eq_of_beq_eq_true hbl;obtain⟨vals,h4,h5,h6⟩:=qck (P:=P) r' h1;refine⟨r'.defers,_,qdn h5 h6,_,rfl,r'.o.chg,?_⟩;obtain⟨cells,h7,h8,h9⟩:=qct rfl h2 h4;obtain⟨b',T',cs',hg',hheap',hvb⟩:=r'.o.rep 0 _ hob;have hγ0:γ' 0=γ 0:=s'.keep.gh 0 (by simp)
      have hbb:b'=b:=by rw[hγ0] at hg';simp[γ] at hg';exact hg'.symm
      subst hbb;have hm0:Mut σ'.objs 0:=⟨_,hob,rfl⟩
      have hg0:(γ' 0).2=some b':=by rw[hg']
      have hva:=hvb.append h7;simp only[retD,chk_some,Bool.and_eq_true,List.all_eq_true,Bool.not_eq_true'] at h3;obtain⟨⟨hnd,hdis⟩,h10⟩:=h3;have hmut:=(qO (S:=⟨fun _=>True,γ'.m⟩) r'.o ⟨fun _ _=>trivial,fun _ _ h=>h⟩ (.st c.bx c.ρ) h10 hva (fun _ _ _ _=>trivial)).2;have hSeq:γ'.S=γ.S:=s'.keep.s;have hMmem:∀k∈blocks γ' (idsO σ'.objs (.st c.bx c.ρ) (bs++cs1)),∃o∈idsO σ'.objs (.st c.bx c.ρ) (bs++cs1),(γ' o).2=some k:=fun k hk=>by
        obtain⟨o,ho,hb'⟩:=List.mem_flatMap.1 hk;exact⟨o,ho,by simpa using hb'⟩
      have hne0:∀o k,Mut σ'.objs o→o≠0→(γ' o).2=some k→k≠b':=fun o k m1 m2 m3 e=>m2 (r'.o.inj o 0 b' m1 hm0 (e▸m3) hg0);have hids0:∀o∈idsO σ'.objs (.st c.bx c.ρ) (bs++cs1),o≠0:=fun o ho e=>by
        rw[e] at ho;rw[memN_spec.2 ho] at hm00;cases hm00
      have hsplit:∀k,γ.S k→k≠b'→S k∨w.heap.size≤k∨k∈M:=fun k hk hne=>by
        rcases hk with hk | hk | hk
        · exact .inl hk
        · exact .inr (.inl hk)
        · rcases List.mem_cons.1 hk with e | e
          · exact absurd e hne
          · exact .inr (.inr e)
      have himm:∀k,Imm σ'.objs γ' w' k→k<w'.heap.size∧(S k∨w.heap.size≤k∨k∈M)∧k∉blocks γ' (idsO σ'.objs (.st c.bx c.ρ) (bs++cs1))∧k≠b':=fun k hk=>by
        have hne:k≠b':=fun e=>hk.own 0 hm0 (by rw[e];exact hg0);refine⟨hk.lt,hsplit k (by have:=hk.s;rw[hSeq] at this;exact this) hne,fun hm=>?_,hne⟩;obtain⟨o,ho,hb2⟩:=hMmem k hm;exact hk.own o (hmut o ho) hb2
      have hrep':=(qO (S:=⟨fun k=>k<w'.heap.size∧(S k∨w.heap.size≤k∨k∈M)∧k∉blocks γ' (idsO σ'.objs (.st c.bx c.ρ) (bs++cs1))∧k≠b',γ'.m⟩) r'.o ⟨himm,fun _ _ h=>h⟩ (.st c.bx c.ρ) h10 hva (fun o ho k hk=>by
        obtain⟨i,e,xs,fz,hobd⟩:=qcI (.st c.bx c.ρ) h10 ho
        cases fz with
        | true=>exact himm k (r'.o.frz o i e xs k hobd hk)
        | false =>
          have hmo:Mut σ'.objs o:=⟨_,hobd,rfl⟩
          have ho0:o≠0:=fun e0=>by rw[e0,hob] at hobd;cases hobd
          have hne:=hne0 o k hmo ho0 hk;refine⟨r'.o.lt o k (qe hobd) hk,?_,fun hm=>?_,hne⟩
          · rcases r'.o.own o k hmo hk with h11 | h11
            · exact .inr (.inl h11)
            · rcases List.mem_cons.1 h11 with e1 | e1
              · exact absurd e1 hne
              · exact .inr (.inr e1)
          · obtain⟨o',ho',hb2⟩:=hMmem k hm;have e1:=r'.o.inj o o' k hmo (hmut o' ho') hk hb2;subst e1;have:=hdis o ho;rw[memN_spec.2 ho'] at this
            cases this)).1
      obtain⟨c1,c2,M1,M2,e1,e2,hR1,hR2⟩:=hrep';have hl1:c1.length=c.bx.size:=Rep.length c.bx hR1
      have hl2:cs'.toList.length=c.bx.size:=by rw[hvb.length];exact hbl
      obtain⟨e3,e4⟩:=List.append_inj e1 (by rw[hl1,hl2]);subst e3;subst e4;rw[e2] at hR1 hR2;have hbn:(M1++M2).Nodup:=e2▸qaO r'.o (qaJ hnd) hmut;refine⟨T',cs',M1,M2,cells,hheap',hbn,fun k hk=>?_,qbz c.bx hnb hR1,qbz c.ρ hnr hR2,?_⟩
      · obtain⟨o,ho,hb2⟩:=hMmem k (e2▸hk);have hne:=hne0 o k (hmut o ho) (hids0 o ho) hb2;refine⟨?_,hne⟩;rcases r'.o.own o k (hmut o ho) hb2 with h11 | h11
        · exact .inr h11
        · rcases List.mem_cons.1 h11 with e5 | e5
          · exact absurd e5 hne
          · exact .inl e5
      · unfold resV
        cases hc1:c.one with
        | true =>
          rw[hc1] at h8 h9;simp only[qfz,cond_true,tupV] at h8;rw[←h8]
          have hl:cells.length=c.ρ.size:=by rw[Rep.length c.ρ hR2]
          rw[←hl,List.take_length];rfl
        | false =>
          rw[hc1] at h8 h9 hone;simp only[qfz,cond_false] at h8 h9;simp only[Bool.false_or,Bool.not_eq_true'] at hone;rw[h8]
          have hne:vals.length≠1:=fun e=>by rw[←h9,e] at hone;cases hone
          match vals,hne with
          | [],_=>rfl
          | [_],hne=>exact absurd rfl hne
          | _::_::_,_=>rfl
    | _=>simp at h3
  have:=(qgf hE hm 10000 (D (.st c.bx c.ρ))).1 ann body _ _ r hr ⟨w,b::M⟩ γ _ w (bodyPost P fn fun e w'=>∃v,e = .returned v∧Chg (b::M) w w'∧IoR w w' S b M c r v) r0 ⟨rfl,rfl⟩
    ⟨fun σ' γ' a' w' hk r' _ s'=>hlast σ' γ' a' w' hk r' s',fun i σ' γ' a' w' hk=>(by cases hk),fun σ' γ' a' w' hk r' _ s'=>hlast σ' γ' a' w' hk r' s'⟩
  have hcalls:=calls_of_wp (args:=(.pointer (some ⟨b,0,none⟩)::args).toArray) hf hb (by simpa using this);exact hcalls
theorem ioc_fix {f:FuncId} {bx:Ty} {ps:List Ty} {one:Bool} {rs:List Ty} {ρ:Ty} {G:(DL (bx::ps)→Option (D (.st bx ρ)))→DL (bx::ps)→Option (D (.st bx ρ))} (hpure:ps.all Ty.pure=true) (hwf:one=false→ρ=stOf rs)
    (h:∀φ,IocOK P f ⟨bx,ps,one,rs,ρ,φ⟩→IocOK P f ⟨bx,ps,one,rs,ρ,G φ⟩):IocOK P f ⟨bx,ps,one,rs,ρ,fixW G⟩:=by
  have key:∀n,IocOK P f ⟨bx,ps,one,rs,ρ,fixN G n⟩:=by
    intro n
    induction n with
    | zero=>exact⟨hpure,hwf,fun w S b T cs M args x r _ _ _ _ _ _ _ hr=>by simp[fixN] at hr⟩
    | succ n ih=>exact h _ ih
  exact⟨hpure,hwf,fun w S b T cs M args x r h1 h1' h2 h3 h4 h5 h6 hr=>by
    obtain⟨n,hn⟩:=fixW_some hr
    exact(key n).calls w S b T cs M args x r h1 h1' h2 h3 h4 h5 h6 hn⟩
end
end Go.Den
namespace Go.Den
instance ctx0:Ctx:=⟨[],[],false,[],none⟩
end Go.Den
namespace Go.Proofs.Ytcifaoaepbidoaa
open Go.Den
set_option linter.unusedVariables false
set_option maxRecDepth 100000
noncomputable section
def qaw (n:Int) (h:Int×Unit) (x1:Zv14×(Unit)):Option (Zv11 ⊕ Zv13) :=
  bif ((decide (x1.1.2.1≤n))&&((decide (h.1≤0))||(decide (x1.1.2.1≤h.1)))) then req (room (x1.1.1.length+([(w64 (n-x1.1.2.1))]).length) 8) (some (Sum.inl (((x1.1.1++[(w64 (n-x1.1.2.1))]),(w64 (x1.1.2.1+1)),()),())))
  else some (Sum.inr ((x1.1.1,()),()))
def qba (h:Int×Unit) (n:Int):Option (List Int) :=
  bif (decide (n>20000)) then some ([]:List Int)
  else Option.bind (iterW (qaw n h) ((([]:List Int),(1:Int),()),())) fun x2 =>
  some x2.1.1
def qo (s:List Int):Option (List Int) :=
  bif (s.isEmpty) then(agree (some ([]:List Int)) (req (room (([]:List Int).length+s.length) 1) (some (([]:List Int)++s))))
  else req (room (([]:List Int).length+s.length) 1) (some (([]:List Int)++s))
def qbU (l:List Int) (x:Int) (x1:Zv17×(Unit)):Option (Zv15 ⊕ (((Unit)×(Unit)) ⊕ (List Int))) :=
  bif (decide (x1.1.1<((l.length:Nat):Int))) then(Option.bind (at? l x1.1.1) fun d2 =>
  bif (decide (d2≥x)) then(Option.map Sum.inr (Option.map Sum.inr (Option.bind (bif (decide (x1.1.1<0)) then some ((((l.length:Nat):Int),()),())
  else some ((x1.1.1,()),())) fun x3 =>
  Option.bind (agree (Option.bind (qo l) fun r4 =>
  req (decide (0≤x3.1.1)&&(decide (x3.1.1≤((r4.length:Nat):Int))&&(Nat.blt 0 ([x]).length&&room (r4.length+([x]).length) 1))) (some (((r4.take (x3.1.1).toNat++([x]++r4.drop (x3.1.1).toNat)),()),()))) (agree (Option.bind (qo l) fun r5 =>
  req (decide (0≤x3.1.1)&&(decide (x3.1.1≤((r5.length:Nat):Int))&&(Nat.blt 0 ([x]).length&&room (r5.length+([x]).length) 1))) (some (((r5.take (x3.1.1).toNat++([x]++r5.drop (x3.1.1).toNat)),()),()))) (Option.bind (qo l) fun r6 =>
  req (decide (0≤x3.1.1)&&(decide (x3.1.1≤((r6.length:Nat):Int))&&(Nat.blt 0 ([x]).length&&room (r6.length+([x]).length) 1))) (some (((r6.take (x3.1.1).toNat++([x]++r6.drop (x3.1.1).toNat)),()),()))))) fun x7 =>
  some x7.1.1)))
  else some (Sum.inl (((w64 (x1.1.1+1)),()),())))
  else some (Sum.inr (Sum.inl ((),())))
def qat (l:List Int) (x:Int):Option (List Int) :=
  Option.bind (α:=((Unit)×(Unit)) ⊕ (List Int)) (iterW (qbU l x) (((0:Int),()),())) (Sum.elim (fun x8 =>
  Option.bind (some ((((l.length:Nat):Int),()),())) fun x9 =>
  Option.bind (agree (Option.bind (qo l) fun r10 =>
  req (decide (0≤x9.1.1)&&(decide (x9.1.1≤((r10.length:Nat):Int))&&(Nat.blt 0 ([x]).length&&room (r10.length+([x]).length) 1))) (some (((r10.take (x9.1.1).toNat++([x]++r10.drop (x9.1.1).toNat)),()),()))) (agree (Option.bind (qo l) fun r11 =>
  req (decide (0≤x9.1.1)&&(decide (x9.1.1≤((r11.length:Nat):Int))&&(Nat.blt 0 ([x]).length&&room (r11.length+([x]).length) 1))) (some (((r11.take (x9.1.1).toNat++([x]++r11.drop (x9.1.1).toNat)),()),()))) (Option.bind (qo l) fun r12 =>
  req (decide (0≤x9.1.1)&&(decide (x9.1.1≤((r12.length:Nat):Int))&&(Nat.blt 0 ([x]).length&&room (r12.length+([x]).length) 1))) (some (((r12.take (x9.1.1).toNat++([x]++r12.drop (x9.1.1).toNat)),()),()))))) fun x13 =>
  some x13.1.1) some)
def qaV (s:ByteArray) (x1:(Int×Int×Unit)×(Unit)):Option (((Int×Int×Unit)×(Unit)) ⊕ Zv15) :=
  bif (decide (x1.1.2.1<((s.size:Nat):Int))) then(Option.bind (strAt s x1.1.2.1) fun c2 =>
  some (Sum.inl (((w64 (x1.1.1+(w64 ((c2.toNat:Nat):Int)))),(w64 (x1.1.2.1+1)),()),())))
  else some (Sum.inr ((x1.1.1,()),()))
def qaW (s:ByteArray) (x4:Zv12×(Unit)) (x5:Zv12×(Unit)):Option ((Zv12×(Unit)) ⊕ (((List ByteArray)×Unit)×(Unit))) :=
  Option.bind (strAt s x4.1.2.1) fun c6 =>
  bif (decide ((w64 ((2:Int)*x5.1.2.1))<(w64 ((c6.toNat:Nat):Int)))) then(Option.bind (Option.bind (strAt s x4.1.2.1) fun c7 =>
  agree (Option.bind (qat (qL ((s.extract 0 (x4.1.2.1).toNat)++(s.extract ((w64 (x4.1.2.1+1))).toNat (((s.size:Nat):Int)).toNat))) (wu8 x5.1.2.1)) fun r8 =>
  Option.bind (qat r8 (wu8 (((c7.toNat:Nat):Int)-(wu8 x5.1.2.1)))) fun r9 =>
  req (room (x5.1.1.length+([(strOf r9)]).length) 16) (some (((x5.1.1++[(strOf r9)]),()),()))) (Option.bind (qat (qL ((s.extract 0 (x4.1.2.1).toNat)++(s.extract ((w64 (x4.1.2.1+1))).toNat (((s.size:Nat):Int)).toNat))) (wu8 x5.1.2.1)) fun r10 =>
  Option.bind (qat r10 (wu8 (((c7.toNat:Nat):Int)-(wu8 x5.1.2.1)))) fun r11 =>
  req (room (x5.1.1.length+([(strOf r11)]).length) 16) (some (((x5.1.1++[(strOf r11)]),()),())))) fun x12 =>
  some (Sum.inl ((x12.1.1,(w64 (x5.1.2.1+1)),()),())))
  else some (Sum.inr ((x5.1.1,()),()))
def qaU (s:ByteArray) (x4:Zv12×(Unit)):Option ((Zv12×(Unit)) ⊕ (((List ByteArray)×Unit)×(Unit))) :=
  bif (decide (x4.1.2.1<((s.size:Nat):Int))) then(Option.bind (req (qaB (0:Int) x4.1.2.1 s.size) (req (qaB (w64 (x4.1.2.1+1)) ((s.size:Nat):Int) s.size) (req (qgS (s.extract 0 (x4.1.2.1).toNat) (s.extract ((w64 (x4.1.2.1+1))).toNat (((s.size:Nat):Int)).toNat)) (req (Nat.ble ((s.extract 0 (x4.1.2.1).toNat)++(s.extract ((w64 (x4.1.2.1+1))).toNat (((s.size:Nat):Int)).toNat)).size 140737488355328) (Option.bind (iterW (qaW s x4) ((x4.1.1,(1:Int),()),())) fun x13 =>
  some ((x13.1.1,()),())))))) fun x14 =>
  some (Sum.inl ((x14.1.1,(w64 (x4.1.2.1+1)),()),())))
  else some (Sum.inr ((x4.1.1,()),()))
def qaX (a0:Unit) (s:ByteArray):Option (List ByteArray) :=
  Option.bind (iterW (qaV s) (((0:Int),(0:Int),()),())) fun x3 =>
  bif ((decide (((s.size:Nat):Int)>64))||(decide (x3.1.1>64))) then some ([]:List ByteArray)
  else Option.bind (iterW (qaU s) ((([]:List ByteArray),(0:Int),()),())) fun x15 =>
  some x15.1.1
def qg (r3:List Int) (self:Zv8→Option Zv5) (x4:Zv17×Zv3):Option ((Zv17×Zv3) ⊕ (Zv1 ⊕ Zv5)) :=
  bif (decide (x4.1.1<((r3.length:Nat):Int))) then(req (inb x4.1.1 r3.length) (Option.bind (self ((x4.2.1.1,(x4.2.1.2.1,(x4.2.1.2.2.1,()))),(getD' r3 ((x4.1.1).toNat) (0:Int)),())) fun r5 =>
  bif (r5.2.2.1 !=0) then some (Sum.inr (Sum.inr ((r5.1.1,(r5.1.2.1,(r5.1.2.2.1,()))),((0:Int),r5.2.2))))
  else some (Sum.inl (((w64 (x4.1.1+1)),()),((r5.1.1,(r5.1.2.1,(r5.1.2.2.1,()))),(mpSet eqI x4.2.2.1 r5.2.1 true),())))))
  else some (Sum.inr (Sum.inl ((),((x4.2.1.1,(x4.2.1.2.1,(x4.2.1.2.2.1,()))),x4.2.2.1,()))))
def qp (x6:(Unit)×Zv3) (x7:Zv17×(Unit)):Option (Zv15 ⊕ Zv15) :=
  bif ((mpGet eqI x6.2.2.1 x7.1.1).getD false) then some (Sum.inl (((w64 (x7.1.1+1)),()),()))
  else some (Sum.inr ((x7.1.1,()),()))
def qC (self:Zv8→Option Zv5) (v:Zv17×Int×(List (Int×Int))×Unit) (s:Int):Option Zv5 :=
  bif (mpGet eqI v.2.2.1 s).isSome then(bif (decide (((mpGet eqI v.2.2.1 s).getD (0:Int))<0)) then some ((v.1,(v.2.1,(v.2.2.1,()))),((0:Int),((19:Int),())))
  else some ((v.1,(v.2.1,(v.2.2.1,()))),(((mpGet eqI v.2.2.1 s).getD (0:Int)),((0:Int),()))))
  else Option.bind (agree (some (((((v.2.2.1.length:Nat):Int)==v.2.1),()),())) (some (((((v.2.2.1.length:Nat):Int)==v.2.1),()),()))) fun x2 =>
  bif x2.1.1 then some ((v.1,(v.2.1,(v.2.2.1,()))),((0:Int),((17:Int),())))
  else Option.bind (qba v.1 s) fun r3 =>
  Option.bind (α:=Zv1 ⊕ Zv5) (iterW (qg r3 self) (((0:Int),()),((v.1,(v.2.1,((mpSet eqI v.2.2.1 s (-1:Int)),()))),([]:List (Int×Bool)),()))) (Sum.elim (fun x6 =>
  Option.bind (iterW (qp x6) (((0:Int),()),())) fun x8 =>
  some ((x6.2.1.1,(x6.2.1.2.1,((mpSet eqI x6.2.1.2.2.1 s x8.1.1),()))),(x8.1.1,((0:Int),())))) some)
def qd (self:Zv8→Option Zv5) (x:Zv9×Int×Unit):Option Zv5:=qC self x.1 x.2.1
def qs (v:Zv17×Int×(List (Int×Int))×Unit) (s:Int):Option Zv5:=fixW qd (v,s,())
def qj (r3:List ByteArray) (self:Zv6→Option Zv7) (x4:Zv17×Zv4):Option ((Zv17×Zv4) ⊕ (Zv2 ⊕ Zv7)) :=
  bif (decide (x4.1.1<((r3.length:Nat):Int))) then(req (inb x4.1.1 r3.length) (Option.bind (self ((x4.2.1.1,(x4.2.1.2.1,(x4.2.1.2.2.1,()))),(getD' r3 ((x4.1.1).toNat) ByteArray.empty),())) fun r5 =>
  bif (r5.2.2.1 !=0) then some (Sum.inr (Sum.inr ((r5.1.1,(r5.1.2.1,(r5.1.2.2.1,()))),((0:Int),r5.2.2))))
  else some (Sum.inl (((w64 (x4.1.1+1)),()),((r5.1.1,(r5.1.2.1,(r5.1.2.2.1,()))),(mpSet eqI x4.2.2.1 r5.2.1 true),())))))
  else some (Sum.inr (Sum.inl ((),((x4.2.1.1,(x4.2.1.2.1,(x4.2.1.2.2.1,()))),x4.2.2.1,()))))
def qF (x6:(Unit)×Zv4) (x7:Zv17×(Unit)):Option (Zv15 ⊕ Zv15) :=
  bif ((mpGet eqI x6.2.2.1 x7.1.1).getD false) then some (Sum.inl (((w64 (x7.1.1+1)),()),()))
  else some (Sum.inr ((x7.1.1,()),()))
def qK (self:Zv6→Option Zv7) (v:Unit×Int×(List Zv16)×Unit) (s:ByteArray):Option Zv7 :=
  bif (mpGet eqS v.2.2.1 s).isSome then(bif (decide (((mpGet eqS v.2.2.1 s).getD (0:Int))<0)) then some ((v.1,(v.2.1,(v.2.2.1,()))),((0:Int),((19:Int),())))
  else some ((v.1,(v.2.1,(v.2.2.1,()))),(((mpGet eqS v.2.2.1 s).getD (0:Int)),((0:Int),()))))
  else Option.bind (agree (some (((((v.2.2.1.length:Nat):Int)==v.2.1),()),())) (some (((((v.2.2.1.length:Nat):Int)==v.2.1),()),()))) fun x2 =>
  bif x2.1.1 then some ((v.1,(v.2.1,(v.2.2.1,()))),((0:Int),((17:Int),())))
  else Option.bind (qaX () s) fun r3 =>
  Option.bind (α:=Zv2 ⊕ Zv7) (iterW (qj r3 self) (((0:Int),()),((v.1,(v.2.1,((mpSet eqS v.2.2.1 s (-1:Int)),()))),([]:List (Int×Bool)),()))) (Sum.elim (fun x6 =>
  Option.bind (iterW (qF x6) (((0:Int),()),())) fun x8 =>
  some ((x6.2.1.1,(x6.2.1.2.1,((mpSet eqS x6.2.1.2.2.1 s x8.1.1),()))),(x8.1.1,((0:Int),())))) some)
def qh (self:Zv6→Option Zv7) (x:Zv10×ByteArray×Unit):Option Zv7:=qK self x.1 x.2.1
def ql (v:Unit×Int×(List Zv16)×Unit) (s:ByteArray):Option Zv7:=fixW qh (v,s,())
def qal (l:List Int) (x1:Zv17×(Unit)) (x2:(Bool×Int×Unit)×(Unit)):Option (((Bool×Int×Unit)×(Unit)) ⊕ ((Bool×Unit)×(Unit))) :=
  bif (decide (x2.1.2.1<((l.length:Nat):Int))) then(Option.bind (at? l x2.1.2.1) fun d3 =>
  some (Sum.inl (((x2.1.1||(d3==x1.1.1)),(w64 (x2.1.2.1+1)),()),())))
  else some (Sum.inr ((x2.1.1,()),()))
def qaN (l:List Int) (x1:Zv17×(Unit)):Option (Zv15 ⊕ Int) :=
  Option.bind (α:=((Unit)×(Unit)) ⊕ (Zv15 ⊕ Int)) (Option.bind (iterW (qal l x1) ((false,(0:Int),()),())) fun x4 =>
  bif (!x4.1.1) then some (Sum.inr (Sum.inr x1.1.1))
  else some (Sum.inl ((),()))) (Sum.elim (fun x5 =>
  some (Sum.inl (((w64 (x1.1.1+1)),()),()))) some)
def qbi (l:List Int):Option (Int) :=
  iterW (qaN l) (((0:Int),()),())
def qac (x1:Zv14×(Unit)) (most:Int) (x2:Zv14×(Unit)):Option (Zv11 ⊕ Zv13) :=
  bif ((decide (x2.1.2.1≤x1.1.2.1))&&((decide (most≤0))||(decide (x2.1.2.1≤most)))) then req (inb (w64 (x1.1.2.1-x2.1.2.1)) x1.1.1.length) (req (room (x2.1.1.length+([(getD' x1.1.1 (((w64 (x1.1.2.1-x2.1.2.1))).toNat) (0:Int))]).length) 8) (some (Sum.inl (((x2.1.1++[(getD' x1.1.1 (((w64 (x1.1.2.1-x2.1.2.1))).toNat) (0:Int))]),(w64 (x2.1.2.1+1)),()),()))))
  else some (Sum.inr ((x2.1.1,()),()))
def qaI (n:Int) (most:Int) (x1:Zv14×(Unit)):Option (Zv11 ⊕ Zv13) :=
  bif (decide (x1.1.2.1<(w64 (n+1)))) then(Option.bind (Option.bind (iterW (qac x1 most) ((([]:List Int),(1:Int),()),())) fun x3 =>
  Option.bind (qbi x3.1.1) fun r4 =>
  req (room (x1.1.1.length+([r4]).length) 8) (some (((x1.1.1++[r4]),()),()))) fun x5 =>
  some (Sum.inl ((x5.1.1,(w64 (x1.1.2.1+1)),()),())))
  else some (Sum.inr ((x1.1.1,()),()))
def qbw (n:Int) (most:Int):Option (Int) :=
  Option.bind (iterW (qaI n most) ((([]:List Int),(0:Int),()),())) fun x6 =>
  req (inb n x6.1.1.length) (some (getD' x6.1.1 ((n).toNat) (0:Int)))
def qa8 (x1:Zv14×(Unit)) (x2:Zv14×(Unit)):Option (Zv11 ⊕ Zv13) :=
  bif (decide ((w64 ((2:Int)*x2.1.2.1))<x1.1.2.1)) then req (inb x2.1.2.1 x1.1.1.length) (req (inb (w64 (x1.1.2.1-x2.1.2.1)) x1.1.1.length) (req (room (x2.1.1.length+([(ixor .i64 (getD' x1.1.1 ((x2.1.2.1).toNat) (0:Int)) (getD' x1.1.1 (((w64 (x1.1.2.1-x2.1.2.1))).toNat) (0:Int)))]).length) 8) (some (Sum.inl (((x2.1.1++[(ixor .i64 (getD' x1.1.1 ((x2.1.2.1).toNat) (0:Int)) (getD' x1.1.1 (((w64 (x1.1.2.1-x2.1.2.1))).toNat) (0:Int)))]),(w64 (x2.1.2.1+1)),()),())))))
  else some (Sum.inr ((x2.1.1,()),()))
def qa9 (n:Int) (x1:Zv14×(Unit)):Option (Zv11 ⊕ Zv13) :=
  bif (decide (x1.1.2.1≤n)) then(Option.bind (Option.bind (iterW (qa8 x1) ((([]:List Int),(1:Int),()),())) fun x3 =>
  Option.bind (qbi x3.1.1) fun r4 =>
  req (room (x1.1.1.length+([r4]).length) 8) (some (((x1.1.1++[r4]),()),()))) fun x5 =>
  some (Sum.inl ((x5.1.1,(w64 (x1.1.2.1+1)),()),())))
  else some (Sum.inr ((x1.1.1,()),()))
def qaF (n:Int):Option (Int) :=
  Option.bind (iterW (qa9 n) (([(0:Int)],(1:Int),()),())) fun x6 =>
  req (inb n x6.1.1.length) (some (getD' x6.1.1 ((n).toNat) (0:Int)))
def qbO (n:Int) (most:Int) (split:Int):Option (Bool) :=
  Option.bind (qs (((2:Int),()),((100:Int),(([]:List (Int×Int)),()))) (5:Int)) fun r7 =>
  bif ((r7.2.2.1 !=0)||(r7.2.1 !=2)) then some false
  else Option.bind (ql ((),((100:Int),(([]:List Zv16),()))) (ByteArray.mk #[3])) fun r8 =>
  bif ((r8.2.2.1 !=0)||(r8.2.1 !=1)) then some false
  else Option.bind (qs ((((w64 ((most.tmod 12)+12)).tmod 12),()),((100:Int),(([]:List (Int×Int)),()))) ((w64 ((n.tmod 60)+60)).tmod 60)) fun r9 =>
  Option.bind (ql ((),((20000:Int),(([]:List Zv16),()))) (strOf ([(wu8 ((w64 ((split.tmod 15)+15)).tmod 15))]))) fun r10 =>
  Option.bind (gopt (r9.2.2.1==0) (0:Int) (qbw ((w64 ((n.tmod 60)+60)).tmod 60) ((w64 ((most.tmod 12)+12)).tmod 12))) fun r11 =>
  Option.bind (gopt (((r9.2.2.1==0)&&(r9.2.1==r11))&&(r10.2.2.1==0)) (0:Int) (qaF ((w64 ((split.tmod 15)+15)).tmod 15))) fun r12 =>
  some ((((r9.2.2.1==0)&&(r9.2.1==r11))&&(r10.2.2.1==0))&&(r10.2.1==r12))
end
end Go.Proofs.Ytcifaoaepbidoaa
namespace Go
variable (P : Program)
theorem qbx (w:World) (dT sT ty elem:TypeId) (g o dLen dCap:Nat) (a:Addr) (sLen sCap k:Nat) (cur:Array Value) (t:TypeId) (cs:List Value)
    (hu:P.underlying dT=some (.slice elem)) (hs:(P.info? elem).map (·.size)=some k)
    (hg:w.heap[g]?=some (.cells cur t (0,0))) (hn:cs.length=Nat.min sLen dLen*k)
    (hsrc:∀j v,cs[j]?=some v→w.cell? (a.add j)=some v) (hfit:o+cs.length≤cur.size) (h1:∀v∈cs,v.oneCell'=true) :
    (Builtin.copy_ #[dT,sT] ty #[.slice (some ⟨g,o,none⟩) dLen dCap,.slice (some a) sLen sCap]).run P w =
      .ok (goInt (Nat.min sLen dLen)) (w.setRow g (cur.toList.take o++cs++cur.toList.drop (o+cs.length)).toArray):=by
  have hl:=run_loadCells_list (P:=P) w a cs hsrc;have hst:=run_storeCells_at P g o t cs 0 cur w hg (by simpa using hfit) h1
  cases hq:P.info? elem with
  | none=>simp[hq] at hs
  | some i =>
    have hi:i.size=k:=by simpa[hq] using hs
    simp[Builtin.copy_,run_underlying hu,Builtin.lenOf,Builtin.firstCells,sizeOf,typeInfo,hq,hi,←hn,hl,hst]
end Go
namespace Go.Den
set_option linter.unusedVariables false
set_option linter.unusedSimpArgs false

theorem qd6 {T α:Type} {f:T→Option (T ⊕ α)}:∀ {n m:Nat} {x:T} {r:α},iterN f n x=some r→n≤m→iterN f m x=some r
  | 0,_,_,_,h,_=>by simp[iterN] at h
  | n+1,0,_,_,_,h=>by omega
  | n+1,m+1,x,r,h,hm=>by
    simp only[iterN] at h ⊢
    match hf:f x with
    | none=>simp[hf] at h
    | some (.inr q)=>simp only[hf] at h ⊢;exact h
    | some (.inl y)=>simp only[hf] at h ⊢;exact qd6 h (by omega)
theorem qez {T α:Type} {f:T→Option (T ⊕ α)} {n:Nat} {x:T} {r:α} (h:iterN f n x=some r):iterW f x=some r:=by
  have hx:∃n,(iterN f n x).isSome=true:=⟨n,by rw[h];rfl⟩;unfold iterW;rw[dif_pos hx];obtain⟨q,hq⟩:=Option.isSome_iff_exists.1 (Classical.choose_spec hx);rw[hq];rcases Nat.le_total n (Classical.choose hx) with hl | hl
  · rw[←hq,qd6 h hl]
  · rw[←h,qd6 hq hl]
theorem qeJ {T α:Type} {f:T→Option (T ⊕ α)} {x:T} {r:α} (h:iterW f x=some r):∃n,iterN f n x=some r:=by
  unfold iterW at h;split at h
  · exact⟨_,h⟩
  · cases h
theorem iterW_inl {T α:Type} {f:T→Option (T ⊕ α)} {x y:T} (h:f x=some (.inl y)):iterW f x=iterW f y:=by
  cases hy:iterW f y with
  | some r =>
    obtain⟨n,hn⟩:=qeJ hy;exact qez (n:=n+1) (by simp[iterN,h,hn])
  | none =>
    cases hx:iterW f x with
    | none=>rfl
    | some r =>
      obtain⟨n,hn⟩:=qeJ hx
      cases n with
      | zero=>simp[iterN] at hn
      | succ n =>
        simp only[iterN,h] at hn;rw[qez hn] at hy;cases hy
theorem qgN {T α:Type} {f:T→Option (T ⊕ α)} {x:T} {r:α} (h:f x=some (.inr r)):iterW f x=some r:=qez (n:=1) (by simp[iterN,h])
theorem qar {T α:Type} {f:T→Option (T ⊕ α)} (n:Nat) (st:Nat→T) (r:α) (hs:∀i,i<n→f (st i)=some (.inl (st (i+1)))) (he:f (st n)=some (.inr r)):iterW f (st 0)=some r:=by
  have key:∀k,k≤n→iterW f (st (n-k))=some r:=by
    intro k
    induction k with
    | zero=>intro _;exact qgN he
    | succ k ih =>
      intro hk;have:=hs (n-(k+1)) (by omega);rw[show n-(k+1)+1=n-k by omega] at this;rw[iterW_inl this];exact ih (by omega)
  have:=key n (Nat.le_refl _)
  rwa [Nat.sub_self] at this
theorem qcA {n:Int} (h1 : -9223372036854775808≤n) (h2:n≤9223372036854775807):w64 n=n:=by
  simp[w64,IntKind.wrap,IntKind.signed,IntKind.bits];omega
theorem qgY {n b:Nat} (h:n*b≤140737488355328):room n b=true:=Nat.ble_eq_true_of_le h
theorem beq_f {α:Type} [BEq α] [LawfulBEq α] {a b:α} (h:¬a=b):(a==b)=false:=by simpa using h
theorem qc2 {α:Type} (x:Option α):req true x=x:=rfl
theorem at?_eq {α:Type} (xs:List α) (i:Int) (h0:0≤i) (h1:i<(xs.length:Int)):at? xs i=some (xs[i.toNat]'(by omega)):=by
  simp[at?,h0,List.getElem?_eq_getElem (show i.toNat<xs.length by omega)]
theorem inb_iff {i:Int} {n:Nat}:inb i n=true↔0≤i∧i<(n:Int):=by simp[inb]
def Le {α:Type} (a b:Option α):Prop:=∀r,a=some r→b=some r
theorem Le.refl {α:Type} (a:Option α):Le a a:=fun _ h=>h
theorem Le.bind {α β:Type} {a b:Option α} {f g:α→Option β} (h:Le a b) (hf:∀x,Le (f x) (g x)):Le (Option.bind a f) (Option.bind b g):=fun r hr=>by
  obtain⟨x,h1,h2⟩:=Option.bind_eq_some_iff.1 hr;rw[h x h1];exact hf x r h2
theorem Le.elim {α β γ:Type} {f g:α→Option γ} {f' g':β→Option γ} (h:∀x,Le (f x) (g x)) (h':∀x,Le (f' x) (g' x)):∀x,Le (Sum.elim f f' x) (Sum.elim g g' x)
  | .inl x=>h x
  | .inr x=>h' x
theorem Le.cond {α:Type} {c:Bool} {a b a' b':Option α} (h:Le a a') (h':Le b b'):Le (bif c then a else b) (bif c then a' else b'):=by
  cases c
  · exact h'
  · exact h
theorem Le.req {α:Type} {c:Bool} {a b:Option α} (h:Le a b):Le (req c a) (req c b):=by
  cases c
  · exact Le.refl _
  · exact h
theorem Le.gopt {α:Type} {c:Bool} {d:α} {a b:Option α} (h:Le a b):Le (gopt c d a) (gopt c d b):=by
  cases c
  · exact Le.refl _
  · exact h
theorem Le.map {α β:Type} {f:α→β} {a b:Option α} (h:Le a b):Le (Option.map f a) (Option.map f b):=fun r hr=>by
  obtain⟨x,h1,h2⟩:=Option.map_eq_some_iff.1 hr;rw[h x h1,←h2];rfl
def qdz {α:Type} [DecidableEq α] (a b:Option α):Option α:=if a=b then a else none
theorem Le.agree {α:Type} [DecidableEq α] {a b a' b':Option α} (h:Le a a') (h':Le b b'):Le (qdz a b) (agree a' b'):=fun r hr=>by
  unfold qdz at hr;split at hr
  · rename_i e;have h1:=h r hr;have h2:=h' r (e▸hr);unfold Go.Den.agree;rw[h1,h2,if_pos rfl]
  · cases hr
theorem Le.iter {T α:Type} {f g:T→Option (T ⊕ α)} (h:∀x,Le (f x) (g x)) (n:Nat) (x:T):Le (iterN f n x) (iterW g x):=by
  have key:∀n x,Le (iterN f n x) (iterN g n x):=by
    intro n
    induction n with
    | zero=>intro x;exact Le.refl _
    | succ n ih =>
      intro x r hr;simp only[iterN] at hr ⊢
      match hf:f x with
      | none=>rw[hf] at hr;cases hr
      | some (.inl y)=>rw[hf] at hr;rw[h x _ hf];exact ih y r hr
      | some (.inr q)=>rw[hf] at hr;rw[h x _ hf];exact hr
  exact fun r hr=>qez (key n x r hr)
def Mono {T α:Type} (G:(T→Option α)→T→Option α):Prop:=∀φ ψ,(∀x,Le (φ x) (ψ x))→∀x,Le (G φ x) (G ψ x)
theorem Le.fix {T α:Type} {F G:(T→Option α)→T→Option α} (h:∀φ ψ,(∀x,Le (φ x) (ψ x))→∀x,Le (F φ x) (G ψ x)) (hG:Mono G) (n:Nat) (x:T):Le (fixN F n x) (fixW G x):=by
  have key:∀n x,Le (fixN F n x) (fixN G n x):=by
    intro n
    induction n with
    | zero=>intro x;exact Le.refl _
    | succ n ih=>intro x;exact h _ _ ih x
  have up:∀n x,Le (fixN G n x) (fixN G (n+1) x):=by
    intro n
    induction n with
    | zero=>intro x r hr;cases hr
    | succ n ih=>intro x;exact hG _ _ ih x
  have mono:∀k n x,Le (fixN G n x) (fixN G (n+k) x):=by
    intro k
    induction k with
    | zero=>intro n x;exact Le.refl _
    | succ k ih=>intro n x r hr;exact up _ x r (ih n x r hr)
  intro r hr;have h1:=key n x r hr;have hx:∃n,(fixN G n x).isSome=true:=⟨n,by rw[h1];rfl⟩;unfold fixW;rw[dif_pos hx];obtain⟨q,hq⟩:=Option.isSome_iff_exists.1 (Classical.choose_spec hx);rw[hq];rcases Nat.le_total n (Classical.choose hx) with hl | hl
  · have:=mono (Classical.choose hx-n) n x r h1;rw[show n+(Classical.choose hx-n)=Classical.choose hx by omega,hq] at this;exact this
  · have:=mono (n-Classical.choose hx) (Classical.choose hx) x q hq;rw[show Classical.choose hx+(n-Classical.choose hx)=n by omega,h1] at this;exact this.symm

theorem Le.iterW {T α:Type} {f g:T→Option (T ⊕ α)} (h:∀x,Le (f x) (g x)) (x:T):Le (Go.Den.iterW f x) (Go.Den.iterW g x):=fun r hr=>by
  obtain⟨n,hn⟩:=qeJ hr;exact Le.iter h n x r hn
theorem Le.agreeW {α:Type} {a b a' b':Option α} (h:Le a a') (h':Le b b'):Le (Go.Den.agree a b) (Go.Den.agree a' b'):=fun r hr=>by
  unfold Go.Den.agree at hr ⊢;split at hr
  · rename_i e;rw[h r hr,h' r (e▸hr),if_pos rfl]
  · cases hr
end Go.Den
namespace Go.Proofs.Ytcifaoaepbidoaa
open Go.Den
set_option linter.unusedVariables false
set_option maxRecDepth 100000
theorem qbq (self self':Zv8→Option Zv5) (hself:∀x,Le (self x) (self' x)) (r3:List Int) (x4:Zv17×Zv3):Le (qg r3 self x4) (qg r3 self' x4):=by
  unfold qg
  repeat (first | exact Le.refl _ | assumption | apply hself | apply Le.cond | apply Le.req | apply Le.gopt | apply Le.map | apply Le.agreeW | refine Le.iterW (fun _=>?_) _ | refine Le.bind ?_ (Le.elim (fun _=>?_) (fun _=>?_)) | refine Le.bind ?_ (fun _=>?_))
theorem qax:Mono qd:=by
  intro self self' hself x
  unfold qd qC
  repeat (first | exact Le.refl _ | assumption | apply qbq | apply hself | apply Le.cond | apply Le.req | apply Le.gopt | apply Le.map | apply Le.agreeW | refine Le.iterW (fun _=>?_) _ | refine Le.bind ?_ (Le.elim (fun _=>?_) (fun _=>?_)) | refine Le.bind ?_ (fun _=>?_))
theorem qa0 (self self':Zv6→Option Zv7) (hself:∀x,Le (self x) (self' x)) (r3:List ByteArray) (x4:Zv17×Zv4):Le (qj r3 self x4) (qj r3 self' x4):=by
  unfold qj
  repeat (first | exact Le.refl _ | assumption | apply hself | apply Le.cond | apply Le.req | apply Le.gopt | apply Le.map | apply Le.agreeW | refine Le.iterW (fun _=>?_) _ | refine Le.bind ?_ (Le.elim (fun _=>?_) (fun _=>?_)) | refine Le.bind ?_ (fun _=>?_))
theorem qbs:Mono qh:=by
  intro self self' hself x
  unfold qh qK
  repeat (first | exact Le.refl _ | assumption | apply qa0 | apply hself | apply Le.cond | apply Le.req | apply Le.gopt | apply Le.map | apply Le.agreeW | refine Le.iterW (fun _=>?_) _ | refine Le.bind ?_ (Le.elim (fun _=>?_) (fun _=>?_)) | refine Le.bind ?_ (fun _=>?_))
set_option linter.unusedSimpArgs false
theorem eqI_t (a:Int):eqI a a=true:=by simp[eqI]
theorem eqI_f {a b:Int} (h:a≠b):eqI a b=false:=by simpa[eqI] using h
theorem qf4 {V:Type} (k:Int) (v:V):∀m:List (Int×V),mpGet eqI (mpSet eqI m k v) k=some v
  | []=>by simp[mpSet,mpGet,eqI_t]
  | e::r=>by
    by_cases h:k=e.1
    · simp[mpSet,mpGet,h,eqI_t]
    · simp[mpSet,mpGet,eqI_f h,qf4 k v r]
theorem qcF {V:Type} {k k':Int} (h:k'≠k) (v:V):∀m:List (Int×V),mpGet eqI (mpSet eqI m k v) k'=mpGet eqI m k'
  | []=>by simp[mpSet,mpGet,eqI_f h]
  | e::r=>by
    by_cases h1:k=e.1
    · simp[mpSet,mpGet,h1,eqI_t,eqI_f (h1▸h:k'≠e.1)]
    · by_cases h2:k'=e.1
      · simp[mpSet,mpGet,eqI_f h1,h2,eqI_t]
      · simp[mpSet,mpGet,eqI_f h1,eqI_f h2,qcF h v r]
def valN (M t:Nat):Nat:=if M=0 then t else t % (M+1)
def cnt (M s:Nat):Nat:=if M=0 then s else min M s
theorem qgH (M s:Nat):cnt M s≤s:=by unfold cnt;split<;>omega
theorem cnt_pos {M s:Nat} (h:0<s):0<cnt M s:=by unfold cnt;split<;>omega
theorem mex_all:(List.range 12).all (fun M=>(List.range 60).all fun s=>((List.range (valN M s)).all fun k=>(List.range (cnt M s)).any fun j=>valN M (s-1-j)==k)&&((List.range (cnt M s)).all fun j=>valN M (s-1-j)!=valN M s))=true:=by decide +kernel
theorem mex_in {M s k:Nat} (hM:M<12) (hs:s<60) (hk:k<valN M s):∃j,j<cnt M s∧valN M (s-1-j)=k:=by
  have h:=List.all_eq_true.1 (List.all_eq_true.1 mex_all M (List.mem_range.2 hM)) s (List.mem_range.2 hs);simp only[Bool.and_eq_true] at h;have h1:=List.all_eq_true.1 h.1 k (List.mem_range.2 hk);obtain⟨j,hj,h2⟩:=List.any_eq_true.1 h1;exact⟨j,List.mem_range.1 hj,by simpa using h2⟩
theorem mex_out {M s j:Nat} (hM:M<12) (hs:s<60) (hj:j<cnt M s):valN M (s-1-j)≠valN M s:=by
  have h:=List.all_eq_true.1 (List.all_eq_true.1 mex_all M (List.mem_range.2 hM)) s (List.mem_range.2 hs);simp only[Bool.and_eq_true] at h;have h1:=List.all_eq_true.1 h.2 j (List.mem_range.2 hj);simpa using h1
theorem val_lt {M s:Nat} (hs:s<60):valN M s<60:=by
  unfold valN;split
  · exact hs
  · exact Nat.lt_of_le_of_lt (Nat.mod_le _ _) hs
def nexts (s n:Nat):List Int:=(List.range n).map fun i=>((s-1-i:Nat):Int)
theorem qdE (s n:Nat):(nexts s n).length=n:=by simp[nexts]
theorem next_spec {M s:Nat} (hs:s<60):qba ((M:Int),()) (s:Int)=some (nexts s (cnt M s)):=by
  unfold qba;rw[show decide ((s:Int)>20000)=false by simp;omega];simp only[cond_false];have hc:=qgH M s
  have:=qar (f:=qaw (s:Int) ((M:Int),())) (cnt M s) (fun i=>((nexts s i,((i:Int)+1),()),())) ((nexts s (cnt M s),()),()) (fun i hi=>by
    unfold qaw
    have h1:decide (((i:Int)+1)≤(s:Int))=true:=by simp;omega
    have h2:(decide (((M:Int))≤0)||decide (((i:Int)+1)≤(M:Int)))=true:=by
      unfold cnt at hi
      split at hi<;>simp<;>omega
    simp only[h1,h2,Bool.true_and,cond_true];rw[qgY (by simp[qdE];omega),qc2,qcA (by omega) (by omega),qcA (by omega) (by omega)];have h3:nexts s (i+1)=nexts s i++[((s:Int)-((i:Int)+1))]:=by
      unfold nexts;rw[List.range_succ,List.map_append,List.map_singleton];congr 2;omega
    rw[h3]
    simp only[Int.natCast_add,Int.natCast_one]) (by
    unfold qaw;have h1:(decide (((cnt M s:Nat):Int)+1≤(s:Int))&&(decide (((M:Int))≤0)||decide (((cnt M s:Nat):Int)+1≤(M:Int))))=false:=by
      unfold cnt
      split<;>simp<;>omega
    simp only[h1,cond_false])
  have h0:nexts s 0=[]:=rfl;simp only[h0,Int.natCast_zero,Int.zero_add] at this;rw[this];rfl
theorem nexts_get {s n i:Nat} (h:i<n):getD' (nexts s n) i (0:Int)=((s-1-i:Nat):Int):=by
  have:(nexts s n)[i]?=some ((s-1-i:Nat):Int):=by simp[nexts,h]
  simp[getD',this]
def seenN (M s:Nat):Nat→List (Int×Bool)
  | 0=>[]
  | n+1=>mpSet eqI (seenN M s n) ((valN M (s-1-n):Nat):Int) true
theorem seen_in {M s:Nat} {k:Int}:∀ {n:Nat},(∃j,j<n∧((valN M (s-1-j):Nat):Int)=k)→mpGet eqI (seenN M s n) k=some true
  | 0,⟨j,hj,_⟩=>by omega
  | n+1,⟨j,hj,h⟩=>by
    by_cases e:k=((valN M (s-1-n):Nat):Int)
    · rw[e];exact qf4 _ _ _
    · simp only[seenN];rw[qcF e];refine seen_in ⟨j,?_,h⟩;rcases Nat.lt_succ_iff_lt_or_eq.1 hj with h1 | rfl
      · exact h1
      · exact absurd h.symm e
theorem qhJ {M s:Nat} {k:Int}:∀ {n:Nat},(∀j,j<n→((valN M (s-1-j):Nat):Int)≠k)→mpGet eqI (seenN M s n) k=none
  | 0,_=>rfl
  | n+1,h=>by
    simp only[seenN];rw[qcF (fun e=>h n (Nat.lt_succ_self _) e.symm)];exact qhJ fun j hj=>h j (by omega)
theorem qh5 {M s:Nat} (hM:M<12) (hs:s<60) (x6:(Unit)×(((Int×Unit)×Int×(List (Int×Int))×Unit)×(List (Int×Bool))×Unit)) (hx:x6.2.2.1=seenN M s (cnt M s)) :
    iterW (qp x6) (((0:Int),()),())=some ((((valN M s:Nat):Int),()),()):=by
  have hv:=val_lt (M:=M) hs
  have:=qar (f:=qp x6) (valN M s) (fun i=>(((i:Int),()),())) ((((valN M s:Nat):Int),()),()) (fun i hi=>by
    unfold qp;obtain⟨j,hj,he⟩:=mex_in hM hs hi;rw[hx,seen_in ⟨j,hj,by rw[he]⟩];simp only[Option.getD_some,cond_true];rw[qcA (by omega) (by omega)]
    simp only[Int.natCast_add,Int.natCast_one]) (by
    unfold qp;rw[hx,qhJ fun j hj=>fun e=>mex_out hM hs hj (Int.ofNat_inj.1 e)]
    rfl)
  exact this
abbrev Cfg:=(Int×Unit)×Int×(List (Int×Int))×Unit
abbrev cfg (M:Nat) (mp:List (Int×Int)):Cfg:=(((M:Int),()),((100:Int),(mp,())))
theorem look {self:(Cfg×Int×Unit)→Option (Cfg×Int×Int×Unit)} {M:Nat} {mp:List (Int×Int)} {t u:Int} (h:mpGet eqI mp t=some u) (hu:0≤u):qd self (cfg M mp,t,())=some (cfg M mp,u,0,()):=by
  unfold qd qC;simp only[h,Option.isSome_some,cond_true,Option.getD_some];rw[show decide (u<0)=false by simp;omega];rfl
theorem qih {α:Type} (x:Option α):agree x x=x:=by unfold agree;rw[if_pos rfl]
theorem qfN {M:Nat} (hM:M<12):∀(s n:Nat) (mp:List (Int×Int)),s<60→s<n→(∀t:Nat,t≤s→mpGet eqI mp (t:Int)=none)→mp.length+s<100 →
    ∃mp',fixN qd n (cfg M mp,(s:Int),())=some (cfg M mp',((valN M s:Nat):Int),0,())∧∀t:Nat,t≤s→mpGet eqI mp' (t:Int)=some ((valN M t:Nat):Int)
  | s,0,mp,_,h,_,_=>by omega
  | s,n+1,mp,hs,hn,hnone,hlen=>by
    have h1:mpGet eqI mp (s:Int)=none:=hnone s (Nat.le_refl _);have h2:((((mp.length:Nat):Int)==(100:Int)):Bool)=false:=beq_f (by omega);show ∃mp',qd (fixN qd n) (cfg M mp,(s:Int),())=_∧_;obtain⟨self,hself⟩:∃self,self=fixN qd n:=⟨_,rfl⟩;rw[←hself];unfold qd qC;simp only[h1,Option.isSome_none,cond_false,qih,h2,Option.bind_some,next_spec hs];have loop:∃mp',(∀t:Nat,t<s→mpGet eqI mp' (t:Int)=some ((valN M t:Nat):Int))∧iterW (qg (nexts s (cnt M s)) self) (((0:Int),()),((((M:Int),()),((100:Int),((mpSet eqI mp (s:Int) (-1:Int)),()))),([]:List (Int×Bool)),()))=some (.inl ((),(cfg M mp',seenN M s (cnt M s),()))):=by
      cases s with
      | zero =>
        refine⟨mpSet eqI mp ((0:Nat):Int) (-1:Int),fun t ht=>by omega,qgN ?_⟩;unfold qg;have:cnt M 0=0:=Nat.le_zero.1 (qgH M 0);simp[this,nexts,seenN]
      | succ s =>
        obtain⟨mp',e1,e2⟩:=qfN hM s n (mpSet eqI mp ((s+1:Nat):Int) (-1:Int)) (by omega) (by omega) (fun t ht=>by
          rw[qcF (by omega)];exact hnone t (by omega)) (by
          have:∀(m:List (Int×Int)) (k v:Int),(mpSet eqI m k v).length≤m.length+1:=by
            intro m k v
            induction m with
            | nil=>simp[mpSet]
            | cons e r ih=>simp only[mpSet];cases eqI k e.1<;>simp<;>omega
          have:=this mp ((s+1:Nat):Int) (-1)
          omega)
        refine⟨mp',fun t ht=>e2 t (by omega),?_⟩;have hpos:=cnt_pos (M:=M) (s:=s+1) (by omega);have hcs:=qgH M (s+1);have hn':∃m,n=m+1:=⟨n-1,by omega⟩
        have:=qar (f:=qg (nexts (s+1) (cnt M (s+1))) self) (cnt M (s+1)) (fun i=>(((i:Int),()),(cfg M (if i=0 then mpSet eqI mp ((s+1:Nat):Int) (-1:Int) else mp'),seenN M (s+1) i,()))) (.inl ((),(cfg M mp',seenN M (s+1) (cnt M (s+1)),()))) (fun i hi=>by
          unfold qg
          have a1:decide ((i:Int)<(((nexts (s+1) (cnt M (s+1))).length:Nat):Int))=true:=by rw[qdE];simp;omega
          have a2:inb (i:Int) (nexts (s+1) (cnt M (s+1))).length=true:=inb_iff.2 ⟨by omega,by rw[qdE];omega⟩;simp only[a1,cond_true,a2,qc2,Int.toNat_natCast,nexts_get hi];have a3:self (cfg M (if i=0 then mpSet eqI mp ((s+1:Nat):Int) (-1:Int) else mp'),((s+1-1-i:Nat):Int),())=some (cfg M mp',((valN M (s+1-1-i):Nat):Int),0,()):=by
            rw[hself];by_cases h0:i=0
            · subst h0;rw[if_pos rfl];exact e1
            · rw[if_neg h0];obtain⟨m,rfl⟩:=hn';exact look (e2 (s+1-1-i) (by omega)) (by omega)
          rw[a3];simp only[Option.bind_some];rw[show(((0:Int)!=(0:Int)):Bool)=false from rfl,qcA (by omega) (by omega)]
          simp only[cond_false,if_neg (Nat.succ_ne_zero i),seenN,Int.natCast_add,Int.natCast_one]) (by
          unfold qg
          have a1:decide (((cnt M (s+1):Nat):Int)<(((nexts (s+1) (cnt M (s+1))).length:Nat):Int))=false:=by rw[qdE];simp
          simp only[a1,cond_false,if_neg (Nat.pos_iff_ne_zero.1 hpos)])
        exact this
    obtain⟨mp',l1,l2⟩:=loop;rw[l2];simp only[Option.bind_some,Sum.elim_inl];rw[qh5 hM hs _ rfl];refine⟨mpSet eqI mp' (s:Int) ((valN M s:Nat):Int),rfl,fun t ht=>?_⟩;by_cases e:t=s
    · subst e;exact qf4 _ _ _
    · rw[qcF (by omega)];exact l1 t (by omega)
theorem qfs {M s:Nat} (hM:M<12) (hs:s<60):∃mp,qs (((M:Int),()),((100:Int),(([]:List (Int×Int)),()))) (s:Int)=some (cfg M mp,((valN M s:Nat):Int),0,()):=by
  obtain⟨mp,h,_⟩:=qfN hM s (s+1) [] hs (Nat.lt_succ_self _) (fun _ _=>rfl) (by simp;omega);exact⟨mp,Le.fix (fun φ ψ hs y=>qax φ ψ hs y) qax (s+1) _ _ h⟩
theorem qhl (l:List Int) (n:Int) (hl:l.length<1000):iterW (qal l ((n,()),())) ((false,(0:Int),()),())=some ((l.any (· == n),()),()):=by
  have:=qar (f:=qal l ((n,()),())) l.length (fun i=>(((l.take i).any (· == n),(i:Int),()),())) ((l.any (· == n),()),()) (fun i hi=>by
    unfold qal
    have a1:decide ((i:Int)<((l.length:Nat):Int))=true:=by simp;omega
    simp only[a1,cond_true];rw[at?_eq l (i:Int) (by omega) (by omega)];simp only[Option.bind_some,Int.toNat_natCast];rw[qcA (by omega) (by omega),List.take_succ_eq_append_getElem hi,List.any_append]
    simp) (by
    unfold qal
    simp)
  simpa using this
theorem mex_ref {l:List Int} {v:Nat} (hl:l.length<1000) (hv:v<1000) (h1:∀k:Nat,k<v→(k:Int)∈l) (h2:(v:Int)∉l):qbi l=some (v:Int):=by
  unfold qbi
  have:=qar (f:=qaN l) v (fun i=>(((i:Int),()),())) (v:Int) (fun i hi=>by
    unfold qaN;rw[qhl l (i:Int) hl];have:(l.any (· == (i:Int)))=true:=List.any_eq_true.2 ⟨_,h1 i hi,by simp⟩;simp only[Option.bind_some,this,Bool.not_true,cond_false,Sum.elim_inl];rw[qcA (by omega) (by omega)]
    simp only[Int.natCast_add,Int.natCast_one]) (by
    unfold qaN;rw[qhl l (v:Int) hl];have:(l.any (· == (v:Int)))=false:=by
      refine Bool.eq_false_iff.2 fun h=>?_;obtain⟨x,hx,he⟩:=List.any_eq_true.1 h;exact h2 (by rw[←(by simpa using he:x=(v:Int))];exact hx)
    simp only[Option.bind_some,this,Bool.not_false,cond_true,Sum.elim_inr])
  exact this
def vals (M n:Nat):List Int:=(List.range n).map fun i=>((valN M i:Nat):Int)
def afters (M k n:Nat):List Int:=(List.range n).map fun j=>((valN M (k-1-j):Nat):Int)
theorem qhq (M n:Nat):(vals M n).length=n:=by simp[vals]
theorem qhO {M n i:Nat} (h:i<n):getD' (vals M n) i (0:Int)=((valN M i:Nat):Int):=by
  have:(vals M n)[i]?=some ((valN M i:Nat):Int):=by simp[vals,h]
  simp[getD',this]
theorem qh3 {M k:Nat} (hk:k<60):iterW (qac ((vals M k,(k:Int),()),()) (M:Int)) ((([]:List Int),(1:Int),()),())=some ((afters M k (cnt M k),()),()):=by
  have hc:=qgH M k
  have:=qar (f:=qac ((vals M k,(k:Int),()),()) (M:Int)) (cnt M k) (fun i=>((afters M k i,((i:Int)+1),()),())) ((afters M k (cnt M k),()),()) (fun i hi=>by
    unfold qac
    have h1:decide (((i:Int)+1)≤(k:Int))=true:=by simp;omega
    have h2:(decide (((M:Int))≤0)||decide (((i:Int)+1)≤(M:Int)))=true:=by
      unfold cnt at hi
      split at hi<;>simp<;>omega
    simp only[h1,h2,Bool.true_and,cond_true];rw[qcA (n:=(k:Int)-((i:Int)+1)) (by omega) (by omega),qcA (by omega) (by omega)]
    have h3:((k:Int)-((i:Int)+1))=((k-1-i:Nat):Int):=by omega
    rw[h3,Int.toNat_natCast,qhO (by omega),inb_iff.2 ⟨by omega,by rw[qhq];omega⟩,qc2,qgY (by simp[afters];omega),qc2];have h4:afters M k (i+1)=afters M k i++[((valN M (k-1-i):Nat):Int)]:=by
      unfold afters;rw[List.range_succ,List.map_append,List.map_singleton]
    rw[h4]
    simp only[Int.natCast_add,Int.natCast_one]) (by
    unfold qac;have h1:(decide (((cnt M k:Nat):Int)+1≤(k:Int))&&(decide (((M:Int))≤0)||decide (((cnt M k:Nat):Int)+1≤(M:Int))))=false:=by
      unfold cnt
      split<;>simp<;>omega
    simp only[h1,cond_false])
  have h0:afters M k 0=[]:=rfl;simp only[h0,Int.natCast_zero,Int.zero_add] at this;exact this
theorem heap_ref {M n:Nat} (hM:M<12) (hn:n<60):qbw (n:Int) (M:Int)=some ((valN M n:Nat):Int):=by
  unfold qbw
  have:=qar (f:=qaI (n:Int) (M:Int)) (n+1) (fun k=>((vals M k,(k:Int),()),())) ((vals M (n+1),()),()) (fun k hk=>by
    unfold qaI;rw[qcA (n:=(n:Int)+1) (by omega) (by omega)]
    have h1:decide ((k:Int)<(n:Int)+1)=true:=by simp;omega
    simp only[h1,cond_true];rw[qh3 (by omega)];simp only[Option.bind_some]
    have hm:qbi (afters M k (cnt M k))=some ((valN M k:Nat):Int):=mex_ref (by simp[afters];have:=qgH M k;omega) (by have:=val_lt (M:=M) (s:=k) (by omega);omega) (fun q hq=>by
      obtain⟨j,hj,he⟩:=mex_in hM (by omega) hq;exact List.mem_map.2 ⟨j,List.mem_range.2 hj,by rw[he]⟩) (fun h=>by
      obtain⟨j,hj,he⟩:=List.mem_map.1 h
      exact mex_out hM (by omega) (List.mem_range.1 hj) (by exact_mod_cast he))
    rw[hm];simp only[Option.bind_some];rw[qgY (by simp[vals];omega),qc2];simp only[Option.bind_some];rw[qcA (by omega) (by omega)];have h4:vals M (k+1)=vals M k++[((valN M k:Nat):Int)]:=by
      unfold vals;rw[List.range_succ,List.map_append,List.map_singleton]
    rw[h4]
    simp only[Int.natCast_add,Int.natCast_one]) (by
    unfold qaI;rw[qcA (n:=(n:Int)+1) (by omega) (by omega)]
    have h1:decide (((n+1:Nat):Int)<(n:Int)+1)=false:=by simp
    simp only[h1,cond_false])
  have h0:vals M 0=[]:=rfl;simp only[h0,Int.natCast_zero] at this;rw[this];simp only[Option.bind_some];rw[inb_iff.2 ⟨by omega,by rw[qhq];omega⟩,qc2,Int.toNat_natCast,qhO (by omega)]
set_option synthInstance.maxSize 4096
set_option synthInstance.maxHeartbeats 400000
def qm (fu:Nat) (s:List Int):Option (List Int) :=
  bif (s.isEmpty) then(qdz (some ([]:List Int)) (req (room (([]:List Int).length+s.length) 1) (some (([]:List Int)++s))))
  else req (room (([]:List Int).length+s.length) 1) (some (([]:List Int)++s))
theorem qb4 (fu:Nat) (s:List Int):Le (qm fu s) (qo s):=by
  unfold qm qo
  repeat (first | (with_reducible exact Le.refl _) | assumption | apply Le.cond | apply Le.req | apply Le.gopt | apply Le.map | apply Le.agree | refine Le.iter (fun _=>?_) _ _ | refine Le.bind ?_ (Le.elim (fun _=>?_) (fun _=>?_)) | refine Le.bind ?_ (fun _=>?_) | apply hself)
def qa4 (fu:Nat) (l:List Int) (x:Int) (x1:(Int×Unit)×(Unit)):Option (((Int×Unit)×(Unit)) ⊕ (((Unit)×(Unit)) ⊕ (List Int))) :=
  bif (decide (x1.1.1<((l.length:Nat):Int))) then(Option.bind (at? l x1.1.1) fun d2 =>
  bif (decide (d2≥x)) then(Option.map Sum.inr (Option.map Sum.inr (Option.bind (bif (decide (x1.1.1<(0:Int))) then some ((((l.length:Nat):Int),()),())
  else some ((x1.1.1,()),())) fun x3 =>
  Option.bind (qdz (Option.bind (qm fu l) fun r4 =>
  req (decide (0≤x3.1.1)&&(decide (x3.1.1≤((r4.length:Nat):Int))&&(Nat.blt 0 ([x]).length&&room (r4.length+([x]).length) 1))) (some (((r4.take (x3.1.1).toNat++([x]++r4.drop (x3.1.1).toNat)),()),()))) (qdz (Option.bind (qm fu l) fun r5 =>
  req (decide (0≤x3.1.1)&&(decide (x3.1.1≤((r5.length:Nat):Int))&&(Nat.blt 0 ([x]).length&&room (r5.length+([x]).length) 1))) (some (((r5.take (x3.1.1).toNat++([x]++r5.drop (x3.1.1).toNat)),()),()))) (Option.bind (qm fu l) fun r6 =>
  req (decide (0≤x3.1.1)&&(decide (x3.1.1≤((r6.length:Nat):Int))&&(Nat.blt 0 ([x]).length&&room (r6.length+([x]).length) 1))) (some (((r6.take (x3.1.1).toNat++([x]++r6.drop (x3.1.1).toNat)),()),()))))) fun x7 =>
  some x7.1.1)))
  else some (Sum.inl (((w64 (x1.1.1+(1:Int))),()),())))
  else some (Sum.inr (Sum.inl ((),())))
theorem qdX (fu:Nat) (l:List Int) (x:Int) (x1:(Int×Unit)×(Unit)):Le (qa4 fu l x x1) (qbU l x x1):=by
  unfold qa4 qbU
  repeat (first | (with_reducible exact Le.refl _) | assumption | apply qb4 | apply Le.cond | apply Le.req | apply Le.gopt | apply Le.map | apply Le.agree | refine Le.iter (fun _=>?_) _ _ | refine Le.bind ?_ (Le.elim (fun _=>?_) (fun _=>?_)) | refine Le.bind ?_ (fun _=>?_) | apply hself)
def qaf (fu:Nat) (l:List Int) (x:Int):Option (List Int) :=
  Option.bind (α:=((Unit)×(Unit)) ⊕ (List Int)) (iterN (qa4 fu l x) fu (((0:Int),()),())) (Sum.elim (fun x8 =>
  Option.bind (some ((((l.length:Nat):Int),()),())) fun x9 =>
  Option.bind (qdz (Option.bind (qm fu l) fun r10 =>
  req (decide (0≤x9.1.1)&&(decide (x9.1.1≤((r10.length:Nat):Int))&&(Nat.blt 0 ([x]).length&&room (r10.length+([x]).length) 1))) (some (((r10.take (x9.1.1).toNat++([x]++r10.drop (x9.1.1).toNat)),()),()))) (qdz (Option.bind (qm fu l) fun r11 =>
  req (decide (0≤x9.1.1)&&(decide (x9.1.1≤((r11.length:Nat):Int))&&(Nat.blt 0 ([x]).length&&room (r11.length+([x]).length) 1))) (some (((r11.take (x9.1.1).toNat++([x]++r11.drop (x9.1.1).toNat)),()),()))) (Option.bind (qm fu l) fun r12 =>
  req (decide (0≤x9.1.1)&&(decide (x9.1.1≤((r12.length:Nat):Int))&&(Nat.blt 0 ([x]).length&&room (r12.length+([x]).length) 1))) (some (((r12.take (x9.1.1).toNat++([x]++r12.drop (x9.1.1).toNat)),()),()))))) fun x13 =>
  some x13.1.1) some)
theorem qfi (fu:Nat) (l:List Int) (x:Int):Le (qaf fu l x) (qat l x):=by
  unfold qaf qat
  repeat (first | (with_reducible exact Le.refl _) | assumption | apply qdX | apply qb4 | apply Le.cond | apply Le.req | apply Le.gopt | apply Le.map | apply Le.agree | refine Le.iter (fun _=>?_) _ _ | refine Le.bind ?_ (Le.elim (fun _=>?_) (fun _=>?_)) | refine Le.bind ?_ (fun _=>?_) | apply hself)
def qaC (fu:Nat) (s:ByteArray) (x1:(Int×Int×Unit)×(Unit)):Option (((Int×Int×Unit)×(Unit)) ⊕ ((Int×Unit)×(Unit))) :=
  bif (decide (x1.1.2.1<((s.size:Nat):Int))) then(Option.bind (strAt s x1.1.2.1) fun c2 =>
  some (Sum.inl (((w64 (x1.1.1+(w64 ((c2.toNat:Nat):Int)))),(w64 (x1.1.2.1+(1:Int))),()),())))
  else some (Sum.inr ((x1.1.1,()),()))
theorem qdb (fu:Nat) (s:ByteArray) (x1:(Int×Int×Unit)×(Unit)):Le (qaC fu s x1) (qaV s x1):=by
  unfold qaC qaV
  repeat (first | (with_reducible exact Le.refl _) | assumption | apply Le.cond | apply Le.req | apply Le.gopt | apply Le.map | apply Le.agree | refine Le.iter (fun _=>?_) _ _ | refine Le.bind ?_ (Le.elim (fun _=>?_) (fun _=>?_)) | refine Le.bind ?_ (fun _=>?_) | apply hself)
def qaz (fu:Nat) (s:ByteArray) (x4:((List ByteArray)×Int×Unit)×(Unit)) (x5:((List ByteArray)×Int×Unit)×(Unit)):Option ((((List ByteArray)×Int×Unit)×(Unit)) ⊕ (((List ByteArray)×Unit)×(Unit))) :=
  Option.bind (strAt s x4.1.2.1) fun c6 =>
  bif (decide ((w64 ((2:Int)*x5.1.2.1))<(w64 ((c6.toNat:Nat):Int)))) then(Option.bind (Option.bind (strAt s x4.1.2.1) fun c7 =>
  qdz (Option.bind (qaf fu (qL ((s.extract 0 (x4.1.2.1).toNat)++(s.extract ((w64 (x4.1.2.1+(1:Int)))).toNat (((s.size:Nat):Int)).toNat))) (wu8 x5.1.2.1)) fun r8 =>
  Option.bind (qaf fu r8 (wu8 (((c7.toNat:Nat):Int)-(wu8 x5.1.2.1)))) fun r9 =>
  req (room (x5.1.1.length+([(strOf r9)]).length) 16) (some (((x5.1.1++[(strOf r9)]),()),()))) (Option.bind (qaf fu (qL ((s.extract 0 (x4.1.2.1).toNat)++(s.extract ((w64 (x4.1.2.1+(1:Int)))).toNat (((s.size:Nat):Int)).toNat))) (wu8 x5.1.2.1)) fun r10 =>
  Option.bind (qaf fu r10 (wu8 (((c7.toNat:Nat):Int)-(wu8 x5.1.2.1)))) fun r11 =>
  req (room (x5.1.1.length+([(strOf r11)]).length) 16) (some (((x5.1.1++[(strOf r11)]),()),())))) fun x12 =>
  some (Sum.inl ((x12.1.1,(w64 (x5.1.2.1+(1:Int))),()),())))
  else some (Sum.inr ((x5.1.1,()),()))
theorem qda (fu:Nat) (s:ByteArray) (x4:((List ByteArray)×Int×Unit)×(Unit)) (x5:((List ByteArray)×Int×Unit)×(Unit)):Le (qaz fu s x4 x5) (qaW s x4 x5):=by
  unfold qaz qaW
  repeat (first | (with_reducible exact Le.refl _) | assumption | apply qfi | apply Le.cond | apply Le.req | apply Le.gopt | apply Le.map | apply Le.agree | refine Le.iter (fun _=>?_) _ _ | refine Le.bind ?_ (Le.elim (fun _=>?_) (fun _=>?_)) | refine Le.bind ?_ (fun _=>?_) | apply hself)
def qaA (fu:Nat) (s:ByteArray) (x4:((List ByteArray)×Int×Unit)×(Unit)):Option ((((List ByteArray)×Int×Unit)×(Unit)) ⊕ (((List ByteArray)×Unit)×(Unit))) :=
  bif (decide (x4.1.2.1<((s.size:Nat):Int))) then(Option.bind (req (qaB (0:Int) x4.1.2.1 s.size) (req (qaB (w64 (x4.1.2.1+(1:Int))) ((s.size:Nat):Int) s.size) (req (qgS (s.extract 0 (x4.1.2.1).toNat) (s.extract ((w64 (x4.1.2.1+(1:Int)))).toNat (((s.size:Nat):Int)).toNat)) (req (Nat.ble ((s.extract 0 (x4.1.2.1).toNat)++(s.extract ((w64 (x4.1.2.1+(1:Int)))).toNat (((s.size:Nat):Int)).toNat)).size 140737488355328) (Option.bind (iterN (qaz fu s x4) fu ((x4.1.1,(1:Int),()),())) fun x13 =>
  some ((x13.1.1,()),())))))) fun x14 =>
  some (Sum.inl ((x14.1.1,(w64 (x4.1.2.1+(1:Int))),()),())))
  else some (Sum.inr ((x4.1.1,()),()))
theorem qdd (fu:Nat) (s:ByteArray) (x4:((List ByteArray)×Int×Unit)×(Unit)):Le (qaA fu s x4) (qaU s x4):=by
  unfold qaA qaU
  repeat (first | (with_reducible exact Le.refl _) | assumption | apply qda | apply Le.cond | apply Le.req | apply Le.gopt | apply Le.map | apply Le.agree | refine Le.iter (fun _=>?_) _ _ | refine Le.bind ?_ (Le.elim (fun _=>?_) (fun _=>?_)) | refine Le.bind ?_ (fun _=>?_) | apply hself)
def qa7 (fu:Nat) (a0:Unit) (s:ByteArray):Option (List ByteArray) :=
  Option.bind (iterN (qaC fu s) fu (((0:Int),(0:Int),()),())) fun x3 =>
  bif ((decide (((s.size:Nat):Int)>(64:Int)))||(decide (x3.1.1>(64:Int)))) then some ([]:List ByteArray)
  else Option.bind (iterN (qaA fu s) fu ((([]:List ByteArray),(0:Int),()),())) fun x15 =>
  some x15.1.1
theorem qea (fu:Nat) (a0:Unit) (s:ByteArray):Le (qa7 fu a0 s) (qaX a0 s):=by
  unfold qa7 qaX
  repeat (first | (with_reducible exact Le.refl _) | assumption | apply qdb | apply qdd | apply Le.cond | apply Le.req | apply Le.gopt | apply Le.map | apply Le.agree | refine Le.iter (fun _=>?_) _ _ | refine Le.bind ?_ (Le.elim (fun _=>?_) (fun _=>?_)) | refine Le.bind ?_ (fun _=>?_) | apply hself)
def qx (fu:Nat) (r3:List ByteArray) (self:((Unit×Int×(List (ByteArray×Int))×Unit)×ByteArray×Unit)→Option ((Unit×Int×(List (ByteArray×Int))×Unit)×Int×Int×Unit)) (x4:(Int×Unit)×((Unit×Int×(List (ByteArray×Int))×Unit)×(List (Int×Bool))×Unit)):Option (((Int×Unit)×((Unit×Int×(List (ByteArray×Int))×Unit)×(List (Int×Bool))×Unit)) ⊕ (((Unit)×((Unit×Int×(List (ByteArray×Int))×Unit)×(List (Int×Bool))×Unit)) ⊕ ((Unit×Int×(List (ByteArray×Int))×Unit)×Int×Int×Unit))) :=
  bif (decide (x4.1.1<((r3.length:Nat):Int))) then(req (inb x4.1.1 r3.length) (Option.bind (self ((x4.2.1.1,(x4.2.1.2.1,(x4.2.1.2.2.1,()))),(getD' r3 ((x4.1.1).toNat) ByteArray.empty),())) fun r5 =>
  bif (r5.2.2.1 !=(0:Int)) then some (Sum.inr (Sum.inr ((r5.1.1,(r5.1.2.1,(r5.1.2.2.1,()))),((0:Int),r5.2.2))))
  else some (Sum.inl (((w64 (x4.1.1+(1:Int))),()),((r5.1.1,(r5.1.2.1,(r5.1.2.2.1,()))),(mpSet eqI x4.2.2.1 r5.2.1 true),())))))
  else some (Sum.inr (Sum.inl ((),((x4.2.1.1,(x4.2.1.2.1,(x4.2.1.2.2.1,()))),x4.2.2.1,()))))
theorem qbn (fu:Nat) (self self':((Unit×Int×(List (ByteArray×Int))×Unit)×ByteArray×Unit)→Option ((Unit×Int×(List (ByteArray×Int))×Unit)×Int×Int×Unit)) (hself:∀x,Le (self x) (self' x)) (r3:List ByteArray) (x4:(Int×Unit)×((Unit×Int×(List (ByteArray×Int))×Unit)×(List (Int×Bool))×Unit)):Le (qx fu r3 self x4) (qj r3 self' x4):=by
  unfold qx qj
  repeat (first | (with_reducible exact Le.refl _) | assumption | apply Le.cond | apply Le.req | apply Le.gopt | apply Le.map | apply Le.agree | refine Le.iter (fun _=>?_) _ _ | refine Le.bind ?_ (Le.elim (fun _=>?_) (fun _=>?_)) | refine Le.bind ?_ (fun _=>?_) | apply hself)
def qz (fu:Nat) (x6:(Unit)×((Unit×Int×(List (ByteArray×Int))×Unit)×(List (Int×Bool))×Unit)) (x7:(Int×Unit)×(Unit)):Option (((Int×Unit)×(Unit)) ⊕ ((Int×Unit)×(Unit))) :=
  bif ((mpGet eqI x6.2.2.1 x7.1.1).getD false) then some (Sum.inl (((w64 (x7.1.1+(1:Int))),()),()))
  else some (Sum.inr ((x7.1.1,()),()))
theorem qbo (fu:Nat) (x6:(Unit)×((Unit×Int×(List (ByteArray×Int))×Unit)×(List (Int×Bool))×Unit)) (x7:(Int×Unit)×(Unit)):Le (qz fu x6 x7) (qF x6 x7):=by
  unfold qz qF
  repeat (first | (with_reducible exact Le.refl _) | assumption | apply Le.cond | apply Le.req | apply Le.gopt | apply Le.map | apply Le.agree | refine Le.iter (fun _=>?_) _ _ | refine Le.bind ?_ (Le.elim (fun _=>?_) (fun _=>?_)) | refine Le.bind ?_ (fun _=>?_) | apply hself)
def qan (fu:Nat) (self:((Unit×Int×(List (ByteArray×Int))×Unit)×ByteArray×Unit)→Option ((Unit×Int×(List (ByteArray×Int))×Unit)×Int×Int×Unit)) (v:Unit×Int×(List (ByteArray×Int))×Unit) (s:ByteArray):Option ((Unit×Int×(List (ByteArray×Int))×Unit)×Int×Int×Unit) :=
  bif (mpGet eqS v.2.2.1 s).isSome then(bif (decide (((mpGet eqS v.2.2.1 s).getD (0:Int))<(0:Int))) then some ((v.1,(v.2.1,(v.2.2.1,()))),((0:Int),((19:Int),())))
  else some ((v.1,(v.2.1,(v.2.2.1,()))),(((mpGet eqS v.2.2.1 s).getD (0:Int)),((0:Int),()))))
  else Option.bind (qdz (some (((((v.2.2.1.length:Nat):Int)==v.2.1),()),())) (some (((((v.2.2.1.length:Nat):Int)==v.2.1),()),()))) fun x2 =>
  bif x2.1.1 then some ((v.1,(v.2.1,(v.2.2.1,()))),((0:Int),((17:Int),())))
  else Option.bind (qa7 fu () s) fun r3 =>
  Option.bind (α:=((Unit)×((Unit×Int×(List (ByteArray×Int))×Unit)×(List (Int×Bool))×Unit)) ⊕ ((Unit×Int×(List (ByteArray×Int))×Unit)×Int×Int×Unit)) (iterN (qx fu r3 self) fu (((0:Int),()),((v.1,(v.2.1,((mpSet eqS v.2.2.1 s (-1:Int)),()))),([]:List (Int×Bool)),()))) (Sum.elim (fun x6 =>
  Option.bind (iterN (qz fu x6) fu (((0:Int),()),())) fun x8 =>
  some ((x6.2.1.1,(x6.2.1.2.1,((mpSet eqS x6.2.1.2.2.1 s x8.1.1),()))),(x8.1.1,((0:Int),())))) some)
def qH (fu:Nat) (self:((Unit×Int×(List (ByteArray×Int))×Unit)×ByteArray×Unit)→Option ((Unit×Int×(List (ByteArray×Int))×Unit)×Int×Int×Unit)) (x:(Unit×Int×(List (ByteArray×Int))×Unit)×ByteArray×Unit):Option ((Unit×Int×(List (ByteArray×Int))×Unit)×Int×Int×Unit):=qan fu self x.1 x.2.1
theorem qbK (fu:Nat) (self self':((Unit×Int×(List (ByteArray×Int))×Unit)×ByteArray×Unit)→Option ((Unit×Int×(List (ByteArray×Int))×Unit)×Int×Int×Unit)) (hself:∀x,Le (self x) (self' x)) (x:(Unit×Int×(List (ByteArray×Int))×Unit)×ByteArray×Unit):Le (qH fu self x) (qh self' x):=by
  unfold qH qh qan qK
  repeat (first | (with_reducible exact Le.refl _) | assumption | apply qea | apply qbn | apply qbo | apply Le.cond | apply Le.req | apply Le.gopt | apply Le.map | apply Le.agree | refine Le.iter (fun _=>?_) _ _ | refine Le.bind ?_ (Le.elim (fun _=>?_) (fun _=>?_)) | refine Le.bind ?_ (fun _=>?_) | apply hself)
def qJ (fu:Nat) (v:Unit×Int×(List (ByteArray×Int))×Unit) (s:ByteArray):Option ((Unit×Int×(List (ByteArray×Int))×Unit)×Int×Int×Unit):=fixN (qH fu) fu (v,s,())
theorem qay (fu:Nat) (v:Unit×Int×(List (ByteArray×Int))×Unit) (s:ByteArray):Le (qJ fu v s) (ql v s):=Le.fix (fun self self' h x=>qbK fu self self' h x) qbs fu _
def qb9 (fu:Nat) (l:List Int) (x1:(Int×Unit)×(Unit)) (x2:(Bool×Int×Unit)×(Unit)):Option (((Bool×Int×Unit)×(Unit)) ⊕ ((Bool×Unit)×(Unit))) :=
  bif (decide (x2.1.2.1<((l.length:Nat):Int))) then(Option.bind (at? l x2.1.2.1) fun d3 =>
  some (Sum.inl (((x2.1.1||(d3==x1.1.1)),(w64 (x2.1.2.1+(1:Int))),()),())))
  else some (Sum.inr ((x2.1.1,()),()))
theorem qfj (fu:Nat) (l:List Int) (x1:(Int×Unit)×(Unit)) (x2:(Bool×Int×Unit)×(Unit)):Le (qb9 fu l x1 x2) (qal l x1 x2):=by
  unfold qb9 qal
  repeat (first | (with_reducible exact Le.refl _) | assumption | apply Le.cond | apply Le.req | apply Le.gopt | apply Le.map | apply Le.agree | refine Le.iter (fun _=>?_) _ _ | refine Le.bind ?_ (Le.elim (fun _=>?_) (fun _=>?_)) | refine Le.bind ?_ (fun _=>?_) | apply hself)
def qca (fu:Nat) (l:List Int) (x1:(Int×Unit)×(Unit)):Option (((Int×Unit)×(Unit)) ⊕ Int) :=
  Option.bind (α:=((Unit)×(Unit)) ⊕ (((Int×Unit)×(Unit)) ⊕ Int)) (Option.bind (iterN (qb9 fu l x1) fu ((false,(0:Int),()),())) fun x4 =>
  bif (!x4.1.1) then some (Sum.inr (Sum.inr x1.1.1))
  else some (Sum.inl ((),()))) (Sum.elim (fun x5 =>
  some (Sum.inl (((w64 (x1.1.1+(1:Int))),()),()))) some)
theorem qfk (fu:Nat) (l:List Int) (x1:(Int×Unit)×(Unit)):Le (qca fu l x1) (qaN l x1):=by
  unfold qca qaN
  repeat (first | (with_reducible exact Le.refl _) | assumption | apply qfj | apply Le.cond | apply Le.req | apply Le.gopt | apply Le.map | apply Le.agree | refine Le.iter (fun _=>?_) _ _ | refine Le.bind ?_ (Le.elim (fun _=>?_) (fun _=>?_)) | refine Le.bind ?_ (fun _=>?_) | apply hself)
def qdl (fu:Nat) (l:List Int):Option (Int) :=
  iterN (qca fu l) fu (((0:Int),()),())
theorem qg0 (fu:Nat) (l:List Int):Le (qdl fu l) (qbi l):=by
  unfold qdl qbi
  repeat (first | (with_reducible exact Le.refl _) | assumption | apply qfk | apply Le.cond | apply Le.req | apply Le.gopt | apply Le.map | apply Le.agree | refine Le.iter (fun _=>?_) _ _ | refine Le.bind ?_ (Le.elim (fun _=>?_) (fun _=>?_)) | refine Le.bind ?_ (fun _=>?_) | apply hself)
def qaK (fu:Nat) (x1:((List Int)×Int×Unit)×(Unit)) (x2:((List Int)×Int×Unit)×(Unit)):Option ((((List Int)×Int×Unit)×(Unit)) ⊕ (((List Int)×Unit)×(Unit))) :=
  bif (decide ((w64 ((2:Int)*x2.1.2.1))<x1.1.2.1)) then req (inb x2.1.2.1 x1.1.1.length) (req (inb (w64 (x1.1.2.1-x2.1.2.1)) x1.1.1.length) (req (room (x2.1.1.length+([(ixor .i64 (getD' x1.1.1 ((x2.1.2.1).toNat) (0:Int)) (getD' x1.1.1 (((w64 (x1.1.2.1-x2.1.2.1))).toNat) (0:Int)))]).length) 8) (some (Sum.inl (((x2.1.1++[(ixor .i64 (getD' x1.1.1 ((x2.1.2.1).toNat) (0:Int)) (getD' x1.1.1 (((w64 (x1.1.2.1-x2.1.2.1))).toNat) (0:Int)))]),(w64 (x2.1.2.1+(1:Int))),()),())))))
  else some (Sum.inr ((x2.1.1,()),()))
theorem qdj (fu:Nat) (x1:((List Int)×Int×Unit)×(Unit)) (x2:((List Int)×Int×Unit)×(Unit)):Le (qaK fu x1 x2) (qa8 x1 x2):=by
  unfold qaK qa8
  repeat (first | (with_reducible exact Le.refl _) | assumption | apply Le.cond | apply Le.req | apply Le.gopt | apply Le.map | apply Le.agree | refine Le.iter (fun _=>?_) _ _ | refine Le.bind ?_ (Le.elim (fun _=>?_) (fun _=>?_)) | refine Le.bind ?_ (fun _=>?_) | apply hself)
def qaL (fu:Nat) (n:Int) (x1:((List Int)×Int×Unit)×(Unit)):Option ((((List Int)×Int×Unit)×(Unit)) ⊕ (((List Int)×Unit)×(Unit))) :=
  bif (decide (x1.1.2.1≤n)) then(Option.bind (Option.bind (iterN (qaK fu x1) fu ((([]:List Int),(1:Int),()),())) fun x3 =>
  Option.bind (qdl fu x3.1.1) fun r4 =>
  req (room (x1.1.1.length+([r4]).length) 8) (some (((x1.1.1++[r4]),()),()))) fun x5 =>
  some (Sum.inl ((x5.1.1,(w64 (x1.1.2.1+(1:Int))),()),())))
  else some (Sum.inr ((x1.1.1,()),()))
theorem qdk (fu:Nat) (n:Int) (x1:((List Int)×Int×Unit)×(Unit)):Le (qaL fu n x1) (qa9 n x1):=by
  unfold qaL qa9
  repeat (first | (with_reducible exact Le.refl _) | assumption | apply qdj | apply qg0 | apply Le.cond | apply Le.req | apply Le.gopt | apply Le.map | apply Le.agree | refine Le.iter (fun _=>?_) _ _ | refine Le.bind ?_ (Le.elim (fun _=>?_) (fun _=>?_)) | refine Le.bind ?_ (fun _=>?_) | apply hself)
def qbr (fu:Nat) (n:Int):Option (Int) :=
  Option.bind (iterN (qaL fu n) fu (([(0:Int)],(1:Int),()),())) fun x6 =>
  req (inb n x6.1.1.length) (some (getD' x6.1.1 ((n).toNat) (0:Int)))
theorem qev (fu:Nat) (n:Int):Le (qbr fu n) (qaF n):=by
  unfold qbr qaF
  repeat (first | (with_reducible exact Le.refl _) | assumption | apply qdk | apply Le.cond | apply Le.req | apply Le.gopt | apply Le.map | apply Le.agree | refine Le.iter (fun _=>?_) _ _ | refine Le.bind ?_ (Le.elim (fun _=>?_) (fun _=>?_)) | refine Le.bind ?_ (fun _=>?_) | apply hself)
def splitOf (k:Int):Option (Int×Int×Int):=(qJ 100 ((),(20000,[],())) (strOf [wu8 k])).bind fun r=>(qbr 100 k).map fun q=>(r.2.1,r.2.2.1,q)
def qfI (k:Int):Bool:=match splitOf k with
  | some (n,e,q)=>n==q&&e==0
  | none=>false
theorem split_11:((List.range 12).all fun k=>qfI (Int.ofNat k))=true:=by decide +kernel
theorem split_12:qfI 12=true:=by decide +kernel
theorem split_13:qfI 13=true:=by decide +kernel
theorem split_14:qfI 14=true:=by decide +kernel
theorem split_all (k:Nat) (hk:k<15):qfI (k:Int)=true:=by
  by_cases h:k<12
  · exact List.all_eq_true.1 split_11 k (List.mem_range.2 h)
  · obtain rfl | rfl | rfl:k=12∨k=13∨k=14:=by omega
    · exact split_12
    · exact split_13
    · exact split_14
def firstB:Bool:=match qJ 40 ((),(100,[],())) (ByteArray.mk #[3]) with
  | some r=>r.2.1==1&&r.2.2.1==0
  | none=>false
theorem first_all:firstB=true:=by decide +kernel
theorem qhR:∃r,ql ((),(100,[],())) (ByteArray.mk #[3])=some r∧r.2.1=1∧r.2.2.1=0:=by
  have h:=first_all;unfold firstB at h;split at h
  · rename_i r hr;simp only[Bool.and_eq_true,beq_iff_eq] at h;exact⟨r,qay 40 _ _ r hr,h.1,h.2⟩
  · cases h
theorem qh1 {k:Nat} (hk:k<15):∃r q,ql ((),(20000,[],())) (strOf [wu8 (k:Int)])=some r∧qaF (k:Int)=some q∧r.2.1=q∧r.2.2.1=0:=by
  have h:=split_all k hk;unfold qfI at h;split at h
  · rename_i n e q hr;simp only[Bool.and_eq_true,beq_iff_eq] at h;simp only[splitOf,Option.bind_eq_some_iff,Option.map_eq_some_iff,Prod.mk.injEq] at hr;obtain⟨r,h1,q',h2,h3,h4,h5⟩:=hr;refine⟨r,q',qay 100 _ _ r h1,qev 100 _ q' h2,?_,?_⟩
    · rw[h3,h5];exact h.1
    · rw[h4];exact h.2
  · cases h
theorem modN {n:Int} (m:Nat) (hm:0<m) (hm2:m<1000) (h1 : -9223372036854775808≤n) (h2:n≤9223372036854775807):∃k:Nat,k<m∧(w64 (n.tmod (m:Int)+(m:Int))).tmod (m:Int)=(k:Int):=by
  have a1:=Int.tmod_lt_of_pos n (show(0:Int)<(m:Int) by omega);have a2 : -(m:Int)<n.tmod (m:Int):=by
    have:=Int.lt_tmod_of_pos n (show(0:Int)<(m:Int) by omega);exact this
  rw[qcA (by omega) (by omega)];rw[Int.tmod_eq_emod_of_nonneg (by omega)];have b1:=Int.emod_nonneg (n.tmod (m:Int)+(m:Int)) (show(m:Int)≠0 by omega);have b2:=Int.emod_lt_of_pos (n.tmod (m:Int)+(m:Int)) (show(0:Int)<(m:Int) by omega);exact⟨((n.tmod (m:Int)+(m:Int)) % (m:Int)).toNat,by omega,by omega⟩
theorem law1NimsumHeaps_true (n most split:Int) (h1:Rng (.int .i64) n) (h2:Rng (.int .i64) most) (h3:Rng (.int .i64) split):qbO n most split=some true:=by
  obtain⟨N,hN,eN⟩:=modN (n:=n) 60 (by omega) (by omega) h1.1 h1.2;obtain⟨M,hM,eM⟩:=modN (n:=most) 12 (by omega) (by omega) h2.1 h2.2;obtain⟨S,hS,eS⟩:=modN (n:=split) 15 (by omega) (by omega) h3.1 h3.2;have eN:(w64 (n.tmod (60:Int)+(60:Int))).tmod (60:Int)=(N:Int):=eN;have eM:(w64 (most.tmod (12:Int)+(12:Int))).tmod (12:Int)=(M:Int):=eM;have eS:(w64 (split.tmod (15:Int)+(15:Int))).tmod (15:Int)=(S:Int):=eS;unfold qbO;rw[eN,eM,eS];obtain⟨m1,v1⟩:=qfs (M:=2) (s:=5) (by omega) (by omega);have v1:qs (((2:Int),()),((100:Int),(([]:List (Int×Int)),()))) (5:Int)=some (cfg 2 m1,(2:Int),0,()):=v1;rw[v1];simp only[Option.bind_some];obtain⟨r8,v2,e1,e2⟩:=qhR;rw[v2];obtain⟨m3,v3⟩:=qfs hM hN
  obtain⟨r10,q,v4,v5,e3,e4⟩:=qh1 hS;simp only[Option.bind_some,e1,e2];rw[v3,v4];simp only[Option.bind_some,e4,heap_ref hM hN,v5];simp[gopt,e3]
end Go.Proofs.Ytcifaoaepbidoaa
