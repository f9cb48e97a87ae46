/- Several texts in one: DenD, DenE, DenF, DenG, Tabs, MSortS, StandingSaysS. -/
import Derived.Test.YtcifaoaepbidoaaDenC
import Derived.Test.YtcifaoaepbidoaaMAA
namespace Go.Den
open Go.Eng
set_option linter.unusedVariables false
set_option linter.unusedSectionVars false
set_option linter.unusedSimpArgs false
variable [CT : Ctx]

theorem listed_spec {o:Nat}:∀ {l:List (Nat×Option OTy)},listed o l=true↔o∈l.map Prod.fst
  | []=>by simp[listed]
  | (p,q)::r=>by
    simp only[listed,Bool.or_eq_true,List.map_cons,List.mem_cons,listed_spec (l:=r)];constructor
    · rintro (h | h)
      · exact .inl (Nat.eq_of_beq_eq_true h).symm
      · exact .inr h
    · rintro (rfl | h)
      · exact .inl (by simp)
      · exact .inr h
theorem qaF {o:Nat}:∀ {l:List (Nat×Option OTy)},qax o l=true→listed o l=true
  | (p,none)::r,h=>by
    simp only[qax,Bool.or_eq_true] at h;simp only[listed,Bool.or_eq_true];exact h.imp id qaF
  | (p,some _)::r,h=>by
    simp only[qax] at h;simp only[listed,Bool.or_eq_true];exact .inr (qaF h)

section
variable {F : Fr} {n0 : Nat} {objs' : List OB} {γ' : Gh} {w' : World} {T : Nat → Prop}

theorem qbd:∀(l:List (Nat×Option OTy)) (y:DL (tysO l)) (base:List OB),base.length≤(concO l y base).length
  | [],_,base=>Nat.le_refl _
  | (o,none)::r,y,base=>by
    have:=qbd r y (base.set o .dead);simpa[concO] using this
  | (o,some (.box τ))::r,y,base=>by
    have:=qbd r y.2 (base.set o (.box (cc τ y.1 base.length).1)++(cc τ y.1 base.length).2);simp only[List.length_append,List.length_set] at this;simp only[concO];omega
  | (o,some (.arr i e))::r,y,base=>by
    have:=qbd r y.2 (base.set o (.arr i e y.1 false));simpa[concO] using this
  | (o,some (.bld t i))::r,y,base=>by
    have:=qbd r y.2 (base.set o (.bld t (.os base.length))++(cc (.osl i (.int .u8)) y.1 base.length).2);simp only[List.length_append,List.length_set] at this;simp only[concO];omega
theorem qL:∀(l:List (Nat×Option OTy)) (y:DL (tysO l)) (base:List OB) (o:Nat),o<base.length→listed o l=false→(concO l y base)[o]?=base[o]?
  | [],_,base,o,_,_=>rfl
  | (p,none)::r,y,base,o,ho,hl=>by
    simp only[listed,Bool.or_eq_false_iff] at hl
    have hne:p≠o:=fun e=>by subst e;simp at hl
    simp only[concO];rw[qL r y (base.set p .dead) o (by simpa using ho) hl.2,qx hne]
  | (p,some (.box τ))::r,y,base,o,ho,hl=>by
    simp only[listed,Bool.or_eq_false_iff] at hl
    have hne:p≠o:=fun e=>by subst e;simp at hl
    simp only[concO];rw[qL r y.2 _ o (by simp;omega) hl.2,List.getElem?_append_left (by simpa using ho),qx hne]
  | (p,some (.arr i e))::r,y,base,o,ho,hl=>by
    simp only[listed,Bool.or_eq_false_iff] at hl
    have hne:p≠o:=fun e=>by subst e;simp at hl
    simp only[concO];rw[qL r y.2 (base.set p (.arr i e y.1 false)) o (by simpa using ho) hl.2,qx hne]
  | (p,some (.bld t i))::r,y,base,o,ho,hl=>by
    simp only[listed,Bool.or_eq_false_iff] at hl
    have hne:p≠o:=fun e=>by subst e;simp at hl
    simp only[concO];rw[qL r y.2 _ o (by simp;omega) hl.2,List.getElem?_append_left (by simpa using ho),qx hne]
theorem qcO (r:ORel F objs' γ' w') (hT:∀k,Imm objs' γ' w' k→T k):∀(l:List (Nat×Option OTy)) {y:DL (tysO l)} (base:List OB),absO objs' l=some y→(l.map Prod.fst).Nodup→(∀q∈l,q.1<n0)→n0≤base.length →
    (∀o∈qN (idsD objs') objs' l,∀b,(γ' o).2=some b→T b) →
    ∃gs:List (Value×Option Nat),(concO l y base).length=base.length+gs.length∧gs.flatMap (fun g=>g.2.toList)=blocks γ' (qN (idsO objs') objs' l)∧(∀o∈qN (idsO objs') objs' l,Mut objs' o) ∧
      (∀q∈l,Mut (concO l y base) q.1→Mut objs' q.1∧qax q.1 l=false)∧(∀q∈l,∀i (e:Ty) (xs:List (D e)),(concO l y base)[q.1]?≠some (.arr i e xs true)) ∧
      ∀(OF:List OB) (γF:Gh),(∀o,o<(concO l y base).length→OF[o]?=(concO l y base)[o]?)→(∀k,T k→Imm OF γF w' k)→(∀o,o<n0→γF o=γ' o)→(∀j g,gs[j]?=some g→γF (base.length+j)=g)→(concO l y base).length≤OF.length →
        (∀q∈l,∀ob,OF[q.1]?=some ob→ObR OF γF w' ob (γF q.1))∧(∀o ob,base.length≤o→o<(concO l y base).length→OF[o]?=some ob→ObR OF γF w' ob (γF o)∧mutOb ob=true)
  | [],y,base,_,_,_,_,_=>⟨[],by simp[concO],by simp[qN,blocks],fun o ho=>(by simp[qN] at ho),fun q hq=>(by cases hq),fun q hq=>(by cases hq),fun OF γF _ _ _ _ _=>⟨fun q hq=>(by cases hq),fun o ob h1 h2=>(by simp[concO] at h2;omega)⟩⟩
  | (p,none)::l,y,base,h,hnd,hlt,hb,hids=>by
    simp only[absO] at h;simp only[List.map_cons,List.nodup_cons] at hnd;have hpl:listed p l=false:=Bool.eq_false_iff.2 fun hh=>hnd.1 (listed_spec.1 hh);have hp:=hlt (p,none) List.mem_cons_self;obtain⟨gs,g1,g2,g3,g4,g4b,g5⟩:=qcO r hT l (base.set p .dead) h hnd.2 (fun q hq=>hlt q (List.mem_cons_of_mem _ hq)) (by simpa using hb) (fun o ho=>hids o (by simpa[qN] using ho));have hpe:(concO l y (base.set p .dead))[p]?=some .dead:=by
      rw[qL l y _ p (by simp;simp at hp;omega) hpl,List.getElem?_set_self (by simp at hp;omega)]
    refine⟨gs,by simpa[concO] using g1,by simpa[qN] using g2,fun o ho=>g3 o (by simpa[qN] using ho),fun q hq hm=>?_,fun q hq i e xs=>?_,fun OF γF e1 e2 e3 e4 e5=>?_⟩
    · rcases List.mem_cons.1 hq with rfl | hq
      · obtain⟨ob,h1,h2⟩:=hm;simp only[concO] at h1;rw[hpe] at h1;cases h1;cases h2
      · obtain⟨h1,h2⟩:=g4 q hq hm;refine⟨h1,?_⟩;simp only[qax,Bool.or_eq_false_iff];refine⟨Bool.eq_false_iff.2 fun hh=>?_,h2⟩;have:=Nat.eq_of_beq_eq_true hh;exact hnd.1 (this▸List.mem_map_of_mem hq)
    · rcases List.mem_cons.1 hq with rfl | hq
      · simp only[concO];rw[hpe];simp
      · exact g4b q hq i e xs
    · obtain⟨f1,f2⟩:=g5 OF γF e1 e2 e3 (by simpa using e4) e5;refine⟨fun q hq ob hob=>?_,fun o ob h1 h2=>f2 o ob (by simpa using h1) h2⟩;rcases List.mem_cons.1 hq with rfl | hq
      · have hlen:=qbd l y (base.set p .dead);rw[e1 p (by simp only[concO];simp at hlen hp;omega)] at hob;simp only[concO] at hob;rw[hpe] at hob;cases hob;trivial
      · exact f1 q hq ob hob
  | (p,some (.arr i e))::l,y,base,h,hnd,hlt,hb,hids=>by
    simp only[absO,Option.bind_eq_some_iff] at h;obtain⟨ob,hob,h⟩:=h
    cases ob with
    | arr i' e' xs fz =>
      cases fz with
      | true=>simp at h
      | false =>
        simp only[chk_some,Option.bind_eq_some_iff] at h;obtain⟨hi,x,hx,y2,hy,hyy⟩:=h;have hyy:(x,y2)=y:=Option.some.inj hyy;subst hyy;have hi:=Nat.eq_of_beq_eq_true hi;subst hi;obtain⟨rfl,hx⟩:=qaa hx;subst hx;simp only[List.map_cons,List.nodup_cons] at hnd;have hpl:listed p l=false:=Bool.eq_false_iff.2 fun hh=>hnd.1 (listed_spec.1 hh);have hp:=hlt (p,some (.arr i e')) List.mem_cons_self;obtain⟨gs,g1,g2,g3,g4,g4b,g5⟩:=qcO r hT l (base.set p (.arr i e' xs false)) hy hnd.2 (fun q hq=>hlt q (List.mem_cons_of_mem _ hq)) (by simpa using hb) (fun o ho=>hids o (by simpa[qN] using ho));have hpe:(concO l y2 (base.set p (.arr i e' xs false)))[p]?=some (.arr i e' xs false):=by
          rw[qL l y2 _ p (by simp;simp at hp;omega) hpl,List.getElem?_set_self (by simp at hp;omega)]
        refine⟨gs,by simpa[concO] using g1,by simpa[qN] using g2,fun o ho=>g3 o (by simpa[qN] using ho),fun q hq hm=>?_,fun q hq i2 e2 xs2=>?_,fun OF γF e1 e2 e3 e4 e5=>?_⟩
        · rcases List.mem_cons.1 hq with rfl | hq
          · refine⟨⟨_,hob,rfl⟩,?_⟩;simp only[qax]
            exact Bool.eq_false_iff.2 fun hh=>by rw[qaF hh] at hpl;cases hpl
          · obtain⟨h1,h2⟩:=g4 q hq hm;exact⟨h1,by simpa[qax] using h2⟩
        · rcases List.mem_cons.1 hq with rfl | hq
          · simp only[concO];rw[hpe];simp
          · exact g4b q hq i2 e2 xs2
        · obtain⟨f1,f2⟩:=g5 OF γF e1 e2 e3 (by simpa using e4) e5;refine⟨fun q hq ob' hob'=>?_,fun o ob h1 h2=>f2 o ob (by simpa using h1) h2⟩;rcases List.mem_cons.1 hq with rfl | hq
          · have hlen:=qbd l y2 (base.set p (.arr i e' xs false));rw[e1 p (by simp only[concO];simp at hlen hp;omega)] at hob';simp only[concO] at hob';rw[hpe] at hob';cases hob';obtain⟨us,h6,h7⟩:=r.rep p _ hob;rw[e3 p hp];exact⟨us,h6,h7.mono fun x c hx=>Rep.mono (fun k hk=>e2 k (hT k hk)) (fun _ _=>rfl) _ hx (by simp)⟩
          · exact f1 q hq ob' hob'
    | _=>simp at h
  | (p,some (.box τ))::l,y,base,h,hnd,hlt,hb,hids=>by
    simp only[absO,Option.bind_eq_some_iff] at h;obtain⟨ob,hob,h⟩:=h
    cases ob with
    | box cs =>
      simp only[Option.bind_eq_some_iff] at h;obtain⟨x,hx,y2,hy,hyy⟩:=h;have hyy:(x,y2)=y:=Option.some.inj hyy;subst hyy;simp only[List.map_cons,List.nodup_cons] at hnd;have hpl:listed p l=false:=Bool.eq_false_iff.2 fun hh=>hnd.1 (listed_spec.1 hh);have hp:p<n0:=hlt (p,some (.box τ)) List.mem_cons_self;obtain⟨b,Tt,cells,hg,hheap,hvl⟩:=r.rep p _ hob;have hids1:∀o∈idsD objs' τ cs,∀b,(γ' o).2=some b→T b:=fun o ho=>hids o (by simp only[qN,hob,List.mem_append];exact .inl ho);obtain⟨hrep,hmo⟩:=qV (S:=T) r hT τ hx hvl hids1;obtain⟨gs0,c1,c2,c3⟩:=qbC τ hrep base.length
      obtain⟨gs,g1,g2,g3,g4,g4b,g5⟩:=qcO r hT l (base.set p (.box (cc τ x base.length).1)++(cc τ x base.length).2) hy hnd.2 (fun q hq=>hlt q (List.mem_cons_of_mem _ hq)) (by simp;omega) (fun o ho=>hids o (by simp only[qN,hob,List.mem_append];exact .inr ho));have hpe:(concO l y2 (base.set p (.box (cc τ x base.length).1)++(cc τ x base.length).2))[p]?=some (.box (cc τ x base.length).1):=by
        rw[qL l y2 _ p (by simp;omega) hpl,List.getElem?_append_left (by simp;omega),List.getElem?_set_self (by omega)]
      have hlen0:(base.set p (.box (cc τ x base.length).1)++(cc τ x base.length).2).length=base.length+gs0.length:=by simp[c1]
      refine⟨gs0++gs,?_,?_,fun o ho=>?_,fun q hq hm=>?_,fun q hq i2 e2 xs2=>?_,fun OF γF e1 e2 e3 e4 e5=>?_⟩
      · simp only[concO];rw[g1,hlen0,List.length_append,Nat.add_assoc]
      · rw[List.flatMap_append,←c2,g2];simp only[qN,hob,blocks,List.flatMap_append]
      · simp only[qN,hob,List.mem_append] at ho;exact ho.elim (hmo o) (g3 o)
      · rcases List.mem_cons.1 hq with rfl | hq
        · refine⟨⟨_,hob,rfl⟩,?_⟩;simp only[qax]
          exact Bool.eq_false_iff.2 fun hh=>by rw[qaF hh] at hpl;cases hpl
        · obtain⟨h1,h2⟩:=g4 q hq hm;exact⟨h1,by simpa[qax] using h2⟩
      · rcases List.mem_cons.1 hq with rfl | hq
        · simp only[concO];rw[hpe];simp
        · exact g4b q hq i2 e2 xs2
      · have hle:=qbd l y2 (base.set p (.box (cc τ x base.length).1)++(cc τ x base.length).2);rw[hlen0] at hle;simp only[concO] at e1 e5;have c3':=c3 OF γF e2 (fun j g hj=>e4 j g (by rw[List.getElem?_append_left (qu hj)];exact hj)) (by omega)
        obtain⟨f1,f2⟩:=g5 OF γF e1 e2 e3 (fun j g hj=>by
          rw[hlen0,Nat.add_assoc]
          exact e4 (gs0.length+j) g (by rw[List.getElem?_append_right (by omega)];simpa using hj)) e5
        refine⟨fun q hq ob' hob'=>?_,fun o ob' h1 h2 h3=>?_⟩
        · rcases List.mem_cons.1 hq with rfl | hq
          · rw[e1 p (by omega),hpe] at hob';cases hob';rw[e3 p hp];exact⟨b,Tt,cells,hg,hheap,c3'.1⟩
          · exact f1 q hq ob' hob'
        · simp only[concO] at h2;by_cases ho:o<base.length+gs0.length
          · rw[e1 o h2,qL l y2 _ o (by rw[hlen0];exact ho) (Bool.eq_false_iff.2 fun hh=>by
              obtain⟨q,hq,rfl⟩:=List.mem_map.1 (listed_spec.1 hh);have:=hlt q (List.mem_cons_of_mem _ hq)
              omega),List.getElem?_append_right (by simpa using h1)] at h3
            simp only[List.length_set] at h3
            have hj:o-base.length<gs0.length:=by omega
            have e6:=e4 (o-base.length) gs0[o-base.length] (by rw[List.getElem?_append_left hj];exact List.getElem?_eq_getElem hj);rw[show base.length+(o-base.length)=o by omega] at e6;rw[e6];exact c3'.2 (o-base.length) ob' _ h3 (List.getElem?_eq_getElem hj)
          · exact f2 o ob' (by rw[hlen0];omega) h2 h3
    | _=>simp at h
  | (p,some (.bld tb i))::l,y,base,h,hnd,hlt,hb,hids=>by
    simp only[absO,Option.bind_eq_some_iff] at h;obtain⟨ob,hob,h⟩:=h
    cases ob with
    | bld tb' c =>
      simp only[chk_some,Option.bind_eq_some_iff] at h;obtain⟨htt,x,hx,y2,hy,hyy⟩:=h;obtain rfl:=Nat.eq_of_beq_eq_true htt;have hyy:(x,y2)=y:=Option.some.inj hyy;subst hyy;simp only[List.map_cons,List.nodup_cons] at hnd;have hpl:listed p l=false:=Bool.eq_false_iff.2 fun hh=>hnd.1 (listed_spec.1 hh);have hp:p<n0:=hlt (p,some (.bld tb' i)) List.mem_cons_self;obtain⟨b,pp,vv,hg,hheap,hpp,hvc⟩:=r.rep p _ hob;have hvl:VRL objs' γ' w' [c] [vv]:=⟨vv,[],rfl,hvc,rfl⟩;have hids1:∀o∈idsD objs' (.osl i (.int .u8)) [c],∀b,(γ' o).2=some b→T b:=fun o ho=>hids o (by simp only[qN,hob,List.mem_append];exact .inl ho);obtain⟨hrep,hmo⟩:=qV (S:=T) r hT (.osl i (.int .u8)) hx hvl hids1;obtain⟨gs0,c1,c2,c3⟩:=qbC (.osl i (.int .u8)) hrep base.length
      obtain⟨gs,g1,g2,g3,g4,g4b,g5⟩:=qcO r hT l (base.set p (.bld tb' (.os base.length))++(cc (.osl i (.int .u8)) x base.length).2) hy hnd.2 (fun q hq=>hlt q (List.mem_cons_of_mem _ hq)) (by simp;omega) (fun o ho=>hids o (by simp only[qN,hob,List.mem_append];exact .inr ho));have hpe:(concO l y2 (base.set p (.bld tb' (.os base.length))++(cc (.osl i (.int .u8)) x base.length).2))[p]?=some (.bld tb' (.os base.length)):=by
        rw[qL l y2 _ p (by simp;omega) hpl,List.getElem?_append_left (by simp;omega),List.getElem?_set_self (by omega)]
      have hlen0:(base.set p (.bld tb' (.os base.length))++(cc (.osl i (.int .u8)) x base.length).2).length=base.length+gs0.length:=by simp[c1]
      refine⟨gs0++gs,?_,?_,fun o ho=>?_,fun q hq hm=>?_,fun q hq i2 e2 xs2=>?_,fun OF γF e1 e2 e3 e4 e5=>?_⟩
      · simp only[concO];rw[g1,hlen0,List.length_append,Nat.add_assoc]
      · rw[List.flatMap_append,←c2,g2];simp only[qN,hob,blocks,List.flatMap_append]
      · simp only[qN,hob,List.mem_append] at ho;exact ho.elim (hmo o) (g3 o)
      · rcases List.mem_cons.1 hq with rfl | hq
        · refine⟨⟨_,hob,rfl⟩,?_⟩;simp only[qax]
          exact Bool.eq_false_iff.2 fun hh=>by rw[qaF hh] at hpl;cases hpl
        · obtain⟨h1,h2⟩:=g4 q hq hm;exact⟨h1,by simpa[qax] using h2⟩
      · rcases List.mem_cons.1 hq with rfl | hq
        · simp only[concO];rw[hpe];simp
        · exact g4b q hq i2 e2 xs2
      · have hle:=qbd l y2 (base.set p (.bld tb' (.os base.length))++(cc (.osl i (.int .u8)) x base.length).2);rw[hlen0] at hle;simp only[concO] at e1 e5;have c3':=c3 OF γF e2 (fun j g hj=>e4 j g (by rw[List.getElem?_append_left (qu hj)];exact hj)) (by omega)
        obtain⟨f1,f2⟩:=g5 OF γF e1 e2 e3 (fun j g hj=>by
          rw[hlen0,Nat.add_assoc]
          exact e4 (gs0.length+j) g (by rw[List.getElem?_append_right (by omega)];simpa using hj)) e5
        refine⟨fun q hq ob' hob'=>?_,fun o ob' h1 h2 h3=>?_⟩
        · rcases List.mem_cons.1 hq with rfl | hq
          · rw[e1 p (by omega),hpe] at hob';cases hob';rw[e3 p hp];obtain⟨v1,q1,e7,e8,_⟩:=c3'.1;cases e7;exact⟨b,pp,_,hg,hheap,hpp,e8⟩
          · exact f1 q hq ob' hob'
        · simp only[concO] at h2;by_cases ho:o<base.length+gs0.length
          · rw[e1 o h2,qL l y2 _ o (by rw[hlen0];exact ho) (Bool.eq_false_iff.2 fun hh=>by
              obtain⟨q,hq,rfl⟩:=List.mem_map.1 (listed_spec.1 hh);have:=hlt q (List.mem_cons_of_mem _ hq)
              omega),List.getElem?_append_right (by simpa using h1)] at h3
            simp only[List.length_set] at h3
            have hj:o-base.length<gs0.length:=by omega
            have e6:=e4 (o-base.length) gs0[o-base.length] (by rw[List.getElem?_append_left hj];exact List.getElem?_eq_getElem hj);rw[show base.length+(o-base.length)=o by omega] at e6;rw[e6];exact c3'.2 (o-base.length) ob' _ h3 (List.getElem?_eq_getElem hj)
          · exact f2 o ob' (by rw[hlen0];omega) h2 h3
    | _=>simp at h

theorem qdy:∀(l:List (Nat×Ty)) (x:DL (tysS l)) (σ:AState),σ.objs.length≤(concS l x σ).objs.length∧(∀o,o<σ.objs.length→(concS l x σ).objs[o]?=σ.objs[o]?)∧(concS l x σ).n=σ.n∧(concS l x σ).prS=σ.prS∧(concS l x σ).prO=σ.prO∧(concS l x σ).gs=σ.gs∧(concS l x σ).known=σ.known∧∀t,(∀q∈l,q.1≠t)→get (concS l x σ).slots t=get σ.slots t
  | [],_,σ=>⟨Nat.le_refl _,fun _ _=>rfl,rfl,rfl,rfl,rfl,rfl,fun _ _=>rfl⟩
  | (t,τ)::r,x,σ=>by
    simp only[concS];obtain⟨h1,h2,h3,h4,h5,h6,h7,h8⟩:=qdy r x.2 { σ with slots:=(t,some ([],qcF τ.isAgg (cc τ x.1 σ.objs.length).1))::σ.slots,objs:=σ.objs++(cc τ x.1 σ.objs.length).2 };simp only[List.length_append] at h1;refine⟨by omega,fun o ho=>?_,h3,h4,h5,h6,h7,fun t' ht'=>?_⟩
    · rw[h2 o (by simp;omega)];simp only;rw[List.getElem?_append_left ho]
    · rw[h8 t' fun q hq=>ht' q (List.mem_cons_of_mem _ hq)];simp only;rw[qM,if_neg (ht' (t,τ) List.mem_cons_self)]
theorem qgJ {σ':AState} {a':Act} (r':Rel F σ' γ' a' w') (hT:∀k,Imm σ'.objs γ' w' k→T k):∀(l:List (Nat×Ty)) {x:DL (tysS l)} (σ1:AState),absS σ'.objs σ'.slots l=some x →
    (∀o∈qaq (idsD σ'.objs) σ'.slots l,∀b,(γ' o).2=some b→T b) →
    ∃gs:List (Value×Option Nat),(concS l x σ1).objs.length=σ1.objs.length+gs.length∧gs.flatMap (fun g=>g.2.toList)=blocks γ' (qaq (idsO σ'.objs) σ'.slots l)∧(∀o∈qaq (idsO σ'.objs) σ'.slots l,Mut σ'.objs o) ∧
      ∀(γF:Gh),(∀k,T k→Imm (concS l x σ1).objs γF w' k)→(∀j g,gs[j]?=some g→γF (σ1.objs.length+j)=g) →
        ∀(OF:List OB),OF=(concS l x σ1).objs →
        (∀t tg pv,get (concS l x σ1).slots t=some (tg,pv)→get σ1.slots t=some (tg,pv)∨(tg=[]∧∃v,a'.tmps[t]?=some v∧PR OF γF w' pv v)) ∧
        (∀o ob,σ1.objs.length≤o→OF[o]?=some ob→ObR OF γF w' ob (γF o)∧mutOb ob=true)
  | [],x,σ1,h,_=>⟨[],by simp[concS],by simp[qaq,blocks],fun o ho=>by simp[qaq] at ho,fun γF _ _ OF hOF=>⟨fun t tg pv hg => .inl hg,fun o ob h1 h2=>by subst hOF;have:=qu h2;simp only[concS] at this;omega⟩⟩
  | (t,τ)::l,x,σ1,h,hids=>by
    simp only[absS,Option.bind_eq_some_iff,chk_some] at h;obtain⟨⟨tg,pv⟩,h1,h2,cs,h3,h4,x1,h5,x2,h6,hx⟩:=h;have hx:(x1,x2)=x:=Option.some.inj hx;subst hx
    have htg:tg=[]:=by simpa using h2
    subst htg;obtain⟨v,hv,hp⟩:=r'.slots t [] pv h1 (qb _);have hvl:=qbn h3 hp
    have hidd:(((get σ'.slots t).bind fun e=>qaJ e.2).elim [] (idsD σ'.objs τ))=idsD σ'.objs τ cs:=by simp only[h1,Option.bind_some,h3,Option.elim_some]
    have hido:(((get σ'.slots t).bind fun e=>qaJ e.2).elim [] (idsO σ'.objs τ))=idsO σ'.objs τ cs:=by simp only[h1,Option.bind_some,h3,Option.elim_some]
    obtain⟨hrep,hmo⟩:=qV (S:=T) r'.o hT τ h5 hvl (fun o ho=>hids o (by simp only[qaq,hidd,List.mem_append];exact .inl ho));obtain⟨gs0,c1,c2,c3⟩:=qbC τ hrep σ1.objs.length;obtain⟨gs,g1,g2,g3,g5⟩:=qgJ r' hT l { σ1 with slots:=(t,some ([],qcF τ.isAgg (cc τ x1 σ1.objs.length).1))::σ1.slots,objs:=σ1.objs++(cc τ x1 σ1.objs.length).2 } h6 (fun o ho=>hids o (by simp only[qaq,hidd,List.mem_append];exact .inr ho));have hcl:=qdy l x2 { σ1 with slots:=(t,some ([],qcF τ.isAgg (cc τ x1 σ1.objs.length).1))::σ1.slots,objs:=σ1.objs++(cc τ x1 σ1.objs.length).2 };simp only[List.length_append,←c1] at g1 g5 hcl;refine⟨gs0++gs,?_,?_,fun o ho=>?_,fun γF e2 e4 OF hOF=>?_⟩
    · simp only[concS];rw[g1,List.length_append,Nat.add_assoc]
    · rw[List.flatMap_append,←c2,g2];simp only[qaq,hido,blocks,List.flatMap_append]
    · simp only[qaq,hido,List.mem_append] at ho;exact ho.elim (hmo o) (g3 o)
    · simp only[concS] at e2 hOF ⊢;subst hOF;have c3':=c3 _ γF e2 (fun j g hj=>e4 j g (by rw[List.getElem?_append_left (qu hj)];exact hj)) (by omega)
      obtain⟨f1,f2⟩:=g5 γF e2 (fun j g hj=>by
        rw[Nat.add_assoc]
        exact e4 (gs0.length+j) g (by rw[List.getElem?_append_right (by omega)];simpa using hj)) _ rfl
      refine⟨fun t' tg' pv' hg=>?_,fun o ob h1' h2'=>?_⟩
      · rcases f1 t' tg' pv' hg with hg' | hg'
        · rw[qM] at hg';split at hg'
          · rename_i e;subst e;cases hg';refine .inr ⟨rfl,v,hv,?_⟩;have:=qaQ (τ:=τ) (qcf τ x1 σ1.objs.length) c3'.1;rw[←qfF h3 h4 hp] at this;exact this
          · exact .inl hg'
        · exact .inr hg'
      · by_cases ho:o<σ1.objs.length+gs0.length
        · rw[hcl.2.1 o ho] at h2';rw[List.getElem?_append_right h1'] at h2'
          have hj:o-σ1.objs.length<gs0.length:=by omega
          have e6:=e4 (o-σ1.objs.length) gs0[o-σ1.objs.length] (by rw[List.getElem?_append_left hj];exact List.getElem?_eq_getElem hj);rw[show σ1.objs.length+(o-σ1.objs.length)=o by omega] at e6;rw[e6];exact c3'.2 _ ob _ h2' (List.getElem?_eq_getElem hj)
        · exact f2 o ob (by omega) h2'
end

theorem qhP {slots:Slots} {t:Nat} {e:Tag×PV}:∀ {l:List Nat},get (keepF slots l) t=some e→t∈l∧kf slots t=some e
  | [],h=>by simp[keepF,get] at h
  | u::l,h=>by
    simp only[keepF] at h;rw[qM] at h;split at h
    · rename_i e1;subst e1;exact⟨List.mem_cons_self,h⟩
    · obtain⟨h1,h2⟩:=qhP h;exact⟨List.mem_cons_of_mem _ h1,h2⟩
theorem qfp {slots:Slots} {t:Nat}:∀ {l:List Nat},t∈l→get (keepF slots l) t=kf slots t
  | u::l,h=>by
    simp only[keepF];rw[qM];split
    · rename_i e1;subst e1;rfl
    · rename_i e1;rcases List.mem_cons.1 h with rfl | h
      · exact absurd rfl e1
      · exact qfp h
theorem qd4 {slots:Slots} {t:Nat} {e:Tag×PV} (h:kf slots t=some e):get slots t=some e∧e.1=[]∧stable e.2=true:=by
  simp only[kf,Option.bind_eq_some_iff,chk_some,Bool.and_eq_true,Option.some.injEq] at h;obtain⟨e',h1,⟨h2,h3⟩,rfl⟩:=h;exact⟨h1,by simpa using h2,h3⟩
theorem kf_of {slots:Slots} {t:Nat} {e:Tag×PV} (h1:get slots t=some e) (h2:e.1=[]) (h3:stable e.2=true):kf slots t=some e:=by
  simp[kf,h1,h2,h3,chk]
theorem mask_bit {t:Nat}:∀ {l:List Nat},bitB (maskN l) t=true↔t∈l
  | []=>by
    rw[qdt];simp[maskN]
  | u::l=>by
    simp only[maskN];rw[qbN,qgq,Bool.or_eq_true,mask_bit (l:=l),List.mem_cons];simp only[decide_eq_true_eq];exact⟨fun h=>h.imp Eq.symm id,fun h=>h.imp Eq.symm id⟩
theorem qfh {l:List (Nat×Option OTy)} {o:Nat}:∀ {n:Nat},o<n→listed o l=false→bitB (protO l n) o=true
  | n+1,h,hl=>by
    simp only[protO];by_cases e:o=n
    · subst e;rw[hl];exact qfu _ _
    · have:=qfh (n:=n) (by omega) hl;by_cases hn:listed n l=true
      · simp only[hn,cond_true];exact this
      · simp only[Bool.eq_false_iff.2 hn,cond_false];exact qcy this
theorem ofSl_os {e:Ty} {objs:List OB} {o:Nat} {xs:List (D e)} (h:ofSl e objs (.os o)=some xs):∃i,∃e:Ty,∃xs:List (D e),∃fz,objs[o]?=some (.arr i e xs fz):=by
  simp only[ofSl,Option.bind_eq_some_iff] at h;obtain⟨ob,hob,h3⟩:=h
  cases ob with
  | arr i e' xs fz=>exact⟨i,e',xs,fz,hob⟩
  | _=>simp at h3
theorem qcW {objs:List OB} {o:Nat}:∀(τ:Ty) {l:List Cv} {x:D τ},toD objs τ l=some x→o∈idsD objs τ l→∃i,∃e:Ty,∃xs:List (D e),∃fz,objs[o]?=some (.arr i e xs fz)
  | .int _,l,_,_,h=>by simp[idsD] at h
  | .bool,l,_,_,h=>by simp[idsD] at h
  | .str,l,_,_,h=>by simp[idsD] at h
  | .nil,l,_,_,h=>by simp[idsD] at h
  | .osl _ _,l,_,_,h=>by simp[idsD] at h
  | .onl _ _,l,_,_,h=>by simp[idsD] at h
  | .sl e,l,x,hx,h=>by
    obtain⟨c,h1,h2⟩:=Option.bind_eq_some_iff.1 hx;simp only[idsD,h1,Option.elim_some] at h;clear hx
    cases c with
    | os p =>
      have hop:o=p:=by simpa[osId] using h
      subst hop;exact ofSl_os h2
    | _=>simp[osId] at h
  | .obx e,l,x,hx,h=>by
    obtain⟨bl,h1,h2⟩:=Option.bind_eq_some_iff.1 (show((ownB objs l).bind fun l=>toD objs e l)=some x from hx);simp only[idsD,h1,Option.getD_some] at h;exact qcW (x:=x) e h2 h
  | .st f r,l,x,hx,h=>by
    simp only[toD,Option.bind_eq_some_iff] at hx;obtain⟨x1,h1,x2,h2,_⟩:=hx;simp only[idsD,List.mem_append] at h;exact h.elim (qcW f h1) (qcW r h2)
theorem qiQ {objs:List OB} {slots:Slots} {o:Nat}:∀(l:List (Nat×Ty)) {x:DL (tysS l)},absS objs slots l=some x→o∈qaq (idsD objs) slots l→∃i,∃e:Ty,∃xs:List (D e),∃fz,objs[o]?=some (.arr i e xs fz)
  | [],_,_,h=>by simp[qaq] at h
  | (t,τ)::l,x,hx,h=>by
    simp only[absS,Option.bind_eq_some_iff,chk_some] at hx;obtain⟨⟨tg,pv⟩,h1,h2,cs,h3,h4,x1,h5,x2,h6,_⟩:=hx;simp only[qaq,h1,Option.bind_some,h3,Option.elim_some,List.mem_append] at h;exact h.elim (qcW τ h5) (qiQ l h6)
theorem qej {objs:List OB} {o:Nat}:∀(l:List (Nat×Option OTy)) {x:DL (tysO l)},absO objs l=some x→o∈qN (idsD objs) objs l→∃i,∃e:Ty,∃xs:List (D e),∃fz,objs[o]?=some (.arr i e xs fz)
  | [],_,_,h=>by simp[qN] at h
  | (p,none)::l,x,hx,h=>qej l hx (by simpa[qN] using h)
  | (p,some (.arr i e))::l,x,hx,h=>by
    simp only[absO,Option.bind_eq_some_iff] at hx;obtain⟨ob,hob,h2⟩:=hx
    cases ob with
    | arr i' e' xs fz =>
      cases fz with
      | true=>simp at h2
      | false =>
        simp only[chk_some,Option.bind_eq_some_iff] at h2;obtain⟨_,x1,_,y2,hy,_⟩:=h2;exact qej l hy (by simpa[qN] using h)
    | _=>simp at h2
  | (p,some (.box τ))::l,x,hx,h=>by
    simp only[absO,Option.bind_eq_some_iff] at hx;obtain⟨ob,hob,h2⟩:=hx
    cases ob with
    | box cs =>
      simp only[Option.bind_eq_some_iff] at h2;obtain⟨x1,h3,y2,hy,_⟩:=h2;simp only[qN,hob,List.mem_append] at h;exact h.elim (qcW τ h3) (qej l hy)
    | _=>simp at h2
  | (p,some (.bld tb i))::l,x,hx,h=>by
    simp only[absO,Option.bind_eq_some_iff] at hx;obtain⟨ob,hob,h2⟩:=hx
    cases ob with
    | bld tb' c =>
      simp only[chk_some,Option.bind_eq_some_iff] at h2;obtain⟨_,x1,h3,y2,hy,_⟩:=h2;simp only[qN,hob,List.mem_append] at h;exact h.elim (qcW (.osl i (.int .u8)) h3) (qej l hy)
    | _=>simp at h2
theorem qhc {gs:List (Value×Option Nat)} {b:Nat}:∀ {j1 j2:Nat} {g1 g2:Value×Option Nat},(gs.flatMap fun g=>g.2.toList).Nodup→gs[j1]?=some g1→gs[j2]?=some g2→g1.2=some b→g2.2=some b→j1=j2:=by
  induction gs with
  | nil=>intro j1 j2 g1 g2 _ h;simp at h
  | cons g l ih =>
    intro j1 j2 g1 g2 hn h1 h2 hb hb';simp only[List.flatMap_cons,List.nodup_append] at hn
    cases j1 with
    | zero =>
      cases j2 with
      | zero=>rfl
      | succ j2 =>
        simp at h1 h2;exact absurd rfl (hn.2.2 b (by rw[h1,hb];simp) b (List.mem_flatMap.2 ⟨g2,List.mem_of_getElem? h2,by simp[hb']⟩))
    | succ j1 =>
      cases j2 with
      | zero =>
        simp at h1 h2;exact absurd rfl (hn.2.2 b (by rw[h2,hb'];simp) b (List.mem_flatMap.2 ⟨g1,List.mem_of_getElem? h1,by simp[hb]⟩))
      | succ j2=>exact congrArg _ (ih hn.2.1 (by simpa using h1) (by simpa using h2) hb hb')
def OB.below (n:Nat):OB→Prop
  | .box l=>CvL.below n l
  | .fbx l=>CvL.below n l
  | .bld _ c=>c.below n
  | _=>True
theorem ObR.below {objs:List OB} {γ:Gh} {w:World} {ob:OB} {g:Value×Option Nat} (h:ObR objs γ w ob g):OB.below objs.length ob:=by
  cases ob with
  | box l=>obtain⟨_,_,_,_,_,h1⟩:=h;exact h1.below
  | fbx l=>obtain⟨_,_,_,_,_,h1,_⟩:=h;exact h1.below
  | bld t c=>obtain⟨_,_,_,_,_,_,h1⟩:=h;exact h1.below
  | _=>trivial
theorem ObR.keep' {objs objs':List OB} {γ γ':Gh} {w w':World} {n:Nat} (h:Keep objs γ w objs' γ' w' n) {ob:OB} {g:Value×Option Nat} (hb:∀b,g.2=some b→w'.heap[b]?=w.heap[b]?) (hbel:OB.below n ob) (hr:ObR objs γ w ob g):ObR objs' γ' w' ob g:=by
  cases ob with
  | box l =>
    obtain⟨b,T,cs,e,h1,h2⟩:=hr;exact⟨b,T,cs,e,(hb b (by simp[e])).trans h1,VRL.keep h hbel h2⟩
  | fbx l =>
    obtain⟨b,T,cs,e,h1,h2,h3⟩:=hr;exact⟨b,T,cs,e,(hb b (by simp[e])).trans h1,VRL.keep h hbel h2,h.imm _ h3⟩
  | arr i e xs fz =>
    obtain⟨us,h1,h2⟩:=hr;exact⟨us,h1.mono fun b hm=>hb b (by simpa using hm),RepL.keep h h2⟩
  | dead=>trivial
  | mbr i e x =>
    rcases hr with hr | ⟨xs,us,h0,h1,h2⟩
    · exact .inl hr
    · exact .inr ⟨xs,us,h0,h1.mono fun b hm=>hb b (by simpa using hm),RepL.keep h h2⟩
  | nilr=>exact hr
  | bld t c =>
    obtain⟨b,p,v,e,h1,h2,h3⟩:=hr;exact⟨b,p,v,e,(hb b (by simp[e])).trans h1,h2,VR.keep h hbel h3⟩
theorem qdM {F:Fr} {s:Shape} {σ σ':AState} {γ γ':Gh} {a a':Act} {w w':World} (r:Rel F σ γ a w) (hh:qeI s σ=true) (r':Rel F σ' γ' a' w') (hn:σ'.n=σ.n)
    (hk:∀t∈s.keep,∀e,kf σ.slots t=some e→get σ'.slots t=some e) (ho:∀o,o<σ.objs.length→listed o s.objs=false→σ'.objs[o]?=σ.objs[o]?) (K0:Keep σ.objs γ w σ'.objs γ' w' σ.objs.length)
    {x:s.T} (hx:absT s σ.objs.length σ'=some x):∃γF,Rel F (conc s σ x) γF a' w'∧Cl (conc s σ x)∧Step σ γ w (conc s σ x) γF w':=by
  simp only[absT,chk_some,Bool.and_eq_true,Option.bind_eq_some_iff] at hx;obtain⟨⟨hown,hdat⟩,x1,hx1,x2,hx2,hxx⟩:=hx;have hxx:(x1,x2)=x:=Option.some.inj hxx;subst hxx;simp only[qeI,Bool.and_eq_true,List.all_eq_true,Bool.not_eq_true'] at hh;obtain⟨⟨⟨hpm,hsl⟩,hndo,hol⟩,hg0,hkn0⟩:=hh;have hndo:=qaT hndo;have hol':∀q∈s.objs,q.1<σ.objs.length∧bitB σ.prO q.1=false:=fun q hq=>⟨by have:=(hol q hq).1;simpa[Nat.blt_eq] using this,(hol q hq).2⟩;simp only[okOwned,Bool.and_eq_true] at hown;obtain⟨hown1,hown2⟩:=hown;have hownd:=qaT hown1;have hownst:∀o∈qaq (idsO σ'.objs) σ'.slots s.slots++qN (idsO σ'.objs) σ'.objs s.objs,stays s σ.objs.length o=false:=fun o ho=>by
    have:=List.all_eq_true.1 hown2 o ho;simpa using this
  let own:=qaq (idsO σ'.objs) σ'.slots s.slots++qN (idsO σ'.objs) σ'.objs s.objs
  let T:Nat→Prop:=fun k=>k<w'.heap.size∧γ'.S k∧∀o',Mut σ'.objs o'→(o'∈own∨stays s σ.objs.length o'=true)→(γ' o').2≠some k
  have hT:∀k,Imm σ'.objs γ' w' k→T k:=fun k hk=>⟨hk.lt,hk.s,fun o' hm _=>hk.own o' hm⟩;have hids:∀o∈qaq (idsD σ'.objs) σ'.slots s.slots++qN (idsD σ'.objs) σ'.objs s.objs,∀b,(γ' o).2=some b→T b:=fun o ho' b hb=>by
    have harr:∃i,∃e:Ty,∃xs:List (D e),∃fz,σ'.objs[o]?=some (.arr i e xs fz):=(List.mem_append.1 ho').elim (qiQ _ hx1) (qej _ hx2);obtain⟨i,e,xs,fz,hob⟩:=harr
    cases fz with
    | true=>exact hT b (r'.o.frz o i e xs b hob hb)
    | false =>
      have hd:=List.all_eq_true.1 hdat o ho';rw[hob] at hd;simp only[Bool.false_or,Bool.and_eq_true,Bool.not_eq_true'] at hd;obtain⟨hd1,hd2⟩:=hd;have hmo:Mut σ'.objs o:=⟨_,hob,rfl⟩;refine⟨r'.o.lt o b (qu hob) hb,r'.o.up b (r'.o.own o b hmo hb),fun o' hm hor hb'=>?_⟩;have e1:=r'.o.inj o' o b hm hmo hb' hb;subst e1;rcases hor with hor | hor
      · have:memN o' own=true:=memN_spec.2 hor;rw[this] at hd2;cases hd2
      · rw[hor] at hd1;cases hd1
  obtain⟨gsO,p1,p2,p3,p4,p4b,p5⟩:=qcO (n0:=σ.objs.length) r'.o hT s.objs σ.objs hx2 hndo (fun q hq=>(hol' q hq).1) (Nat.le_refl _) (fun o ho'=>hids o (List.mem_append.2 (.inr ho')));obtain⟨gsS,q1,q2,q3,q5⟩:=qgJ r' hT s.slots { σ with slots:=keepF σ.slots s.keep,objs:=concO s.objs x2 σ.objs,gs:=0,known:=[] } hx1 (fun o ho'=>hids o (List.mem_append.2 (.inl ho')));have hcl:=qdy s.slots x1 { σ with slots:=keepF σ.slots s.keep,objs:=concO s.objs x2 σ.objs,gs:=0,known:=[] };have hcO:=qbd s.objs x2 σ.objs
  show ∃γF,Rel F (concS s.slots x1 { σ with slots:=keepF σ.slots s.keep,objs:=concO s.objs x2 σ.objs,gs:=0,known:=[] }) γF a' w'∧Cl (concS s.slots x1 { σ with slots:=keepF σ.slots s.keep,objs:=concO s.objs x2 σ.objs,gs:=0,known:=[] })∧Step σ γ w (concS s.slots x1 { σ with slots:=keepF σ.slots s.keep,objs:=concO s.objs x2 σ.objs,gs:=0,known:=[] }) γF w';generalize hC:concS s.slots x1 { σ with slots:=keepF σ.slots s.keep,objs:=concO s.objs x2 σ.objs,gs:=0,known:=[] }=C at *;simp only at q1 hcl q5
  have hOlen:C.objs.length=σ.objs.length+(gsO++gsS).length:=by rw[q1,p1,List.length_append,Nat.add_assoc]
  have hflat:(gsO++gsS).flatMap (fun g=>g.2.toList)=blocks γ' (qN (idsO σ'.objs) σ'.objs s.objs++qaq (idsO σ'.objs) σ'.slots s.slots):=by
    rw[List.flatMap_append,p2,q2];simp[blocks]
  have hownm:∀o∈own,Mut σ'.objs o:=fun o ho'=>(List.mem_append.1 ho').elim (q3 o) (p3 o);have hndb:((gsO++gsS).flatMap fun g=>g.2.toList).Nodup:=by
    rw[hflat];refine qaP r'.o ?_ (fun o ho'=>hownm o (List.mem_append.2 ((List.mem_append.1 ho').symm)));exact(List.perm_append_comm.nodup_iff).1 hownd
  have hlow:∀o,o<σ.objs.length→C.objs[o]?=(concO s.objs x2 σ.objs)[o]?:=fun o ho'=>hcl.2.1 o (by omega);have hγlow:∀o,o<σ.objs.length→upd γ' σ.objs.length (gsO++gsS) o=γ' o:=fun o ho'=>qek ho';have hA:∀o,o<σ.objs.length→Mut C.objs o→Mut σ'.objs o∧stays s σ.objs.length o=true:=fun o ho' hm=>by
    have hst:qax o s.objs=false→stays s σ.objs.length o=true:=fun hd=>by
      simp only[stays,hd,Bool.not_false,Bool.and_true];simpa[Nat.blt_eq] using ho'
    obtain⟨ob,h1,h2⟩:=hm;rw[hlow o ho'] at h1;by_cases hl:listed o s.objs=true
    · obtain⟨q,hq,rfl⟩:=List.mem_map.1 (listed_spec.1 hl);obtain⟨h3,h4⟩:=p4 q hq ⟨ob,h1,h2⟩;exact⟨h3,hst h4⟩
    · have hl:=Bool.eq_false_iff.2 hl;rw[qL s.objs x2 σ.objs o ho' hl,←ho o ho' hl] at h1;exact⟨⟨ob,h1,h2⟩,hst (Bool.eq_false_iff.2 fun hd=>by rw[qaF hd] at hl;cases hl)⟩
  have hB:∀o b,σ.objs.length≤o→o<C.objs.length→(upd γ' σ.objs.length (gsO++gsS) o).2=some b→∃o'∈own,(γ' o').2=some b:=fun o b h1 h2 hb=>by
    have hj:o-σ.objs.length<(gsO++gsS).length:=by omega
    have e1:=qbo (γ:=γ') (n:=σ.objs.length) (List.getElem?_eq_getElem hj);rw[show σ.objs.length+(o-σ.objs.length)=o by omega] at e1;rw[e1] at hb;have hmem:b∈(gsO++gsS).flatMap (fun g=>g.2.toList):=List.mem_flatMap.2 ⟨_,List.getElem_mem hj,by simp[hb]⟩;rw[hflat] at hmem;obtain⟨o',ho',hb'⟩:=List.mem_flatMap.1 hmem;exact⟨o',List.mem_append.2 ((List.mem_append.1 ho').symm),by simpa using hb'⟩
  have hTI:∀k,T k→Imm C.objs (upd γ' σ.objs.length (gsO++gsS)) w' k:=fun k hk=>by
    refine⟨hk.1,hk.2.1,fun o hm hb=>?_⟩;by_cases ho':o<σ.objs.length
    · obtain⟨h1,h2⟩:=hA o ho' hm;rw[hγlow o ho'] at hb;exact hk.2.2 o h1 (.inr h2) hb
    · obtain⟨o',h1,h2⟩:=hB o k (by omega) hm.lt hb;exact hk.2.2 o' (hownm o' h1) (.inl h1) h2
  have hgO:∀j g,gsO[j]?=some g→upd γ' σ.objs.length (gsO++gsS) (σ.objs.length+j)=g:=fun j g hj=>qbo (by rw[List.getElem?_append_left (qu hj)];exact hj);have hgS:∀j g,gsS[j]?=some g→upd γ' σ.objs.length (gsO++gsS) ((concO s.objs x2 σ.objs).length+j)=g:=fun j g hj=>by
    rw[p1,Nat.add_assoc];exact qbo (by rw[List.getElem?_append_right (by omega)];simpa using hj)
  obtain⟨u1,u2⟩:=p5 C.objs _ (fun o ho'=>hcl.2.1 o ho') hTI hγlow hgO hcl.1;obtain⟨v1,v2⟩:=q5 _ hTI hgS C.objs rfl;have K1:Keep σ'.objs γ' w' C.objs (upd γ' σ.objs.length (gsO++gsS)) w' σ.objs.length:=⟨fun k hk=>hTI k (hT k hk),fun _ _=>rfl,by omega,hγlow,Nat.le_refl _,rfl⟩;have hlen':=K0.len;have hnew:∀o ob,σ.objs.length≤o→C.objs[o]?=some ob→ObR C.objs (upd γ' σ.objs.length (gsO++gsS)) w' ob (upd γ' σ.objs.length (gsO++gsS) o)∧mutOb ob=true:=fun o ob h1 h2=>by
    by_cases h3:o<(concO s.objs x2 σ.objs).length
    · exact u2 o ob h1 h3 h2
    · exact v2 o ob (by omega) h2
  have hor:ORel F C.objs (upd γ' σ.objs.length (gsO++gsS)) w':=by
    refine⟨fun o ob hob=>?_,fun o o' b hm hm' hb hb'=>?_,fun o b hm hb=>?_,fun o b hlt hb=>?_,r'.o.chg,fun o i e xs b hob hb=>?_,r'.o.up,r'.o.tab.mono (fun k hk=>hTI k (hT k hk)) (fun _ _=>rfl)⟩
    · by_cases ho':o<σ.objs.length
      · by_cases hl:listed o s.objs=true
        · obtain⟨q,hq,rfl⟩:=List.mem_map.1 (listed_spec.1 hl);exact u1 q hq ob hob
        · have hl:=Bool.eq_false_iff.2 hl;rw[hlow o ho',qL s.objs x2 σ.objs o ho' hl] at hob;rw[hγlow o ho'];exact ObR.keep' K1 (fun _ _=>rfl) (r.o.rep o ob hob).below (r'.o.rep o ob (by rw[ho o ho' hl];exact hob))
      · exact(hnew o ob (by omega) hob).1
    · by_cases h1:o<σ.objs.length<;>by_cases h2:o'<σ.objs.length
      · rw[hγlow o h1] at hb;rw[hγlow o' h2] at hb';exact r'.o.inj o o' b (hA o h1 hm).1 (hA o' h2 hm').1 hb hb'
      · rw[hγlow o h1] at hb;obtain⟨o2,h3,h4⟩:=hB o' b (by omega) hm'.lt hb';have e1:=r'.o.inj o o2 b (hA o h1 hm).1 (hownm o2 h3) hb h4;subst e1;have:=hownst o h3;rw[(hA o h1 hm).2] at this;cases this
      · rw[hγlow o' h2] at hb';obtain⟨o2,h3,h4⟩:=hB o b (by omega) hm.lt hb;have e1:=r'.o.inj o' o2 b (hA o' h2 hm').1 (hownm o2 h3) hb' h4;subst e1;have:=hownst o' h3;rw[(hA o' h2 hm').2] at this;cases this
      · have l1:=hm.lt;have l2:=hm'.lt
        have hj1:o-σ.objs.length<(gsO++gsS).length:=by omega
        have hj2:o'-σ.objs.length<(gsO++gsS).length:=by omega
        have e1:=qbo (γ:=γ') (n:=σ.objs.length) (List.getElem?_eq_getElem hj1);have e2:=qbo (γ:=γ') (n:=σ.objs.length) (List.getElem?_eq_getElem hj2);rw[show σ.objs.length+(o-σ.objs.length)=o by omega] at e1;rw[show σ.objs.length+(o'-σ.objs.length)=o' by omega] at e2;rw[e1] at hb;rw[e2] at hb';have:=qhc hndb (List.getElem?_eq_getElem hj1) (List.getElem?_eq_getElem hj2) hb hb';omega
    · by_cases h1:o<σ.objs.length
      · rw[hγlow o h1] at hb;exact r'.o.own o b (hA o h1 hm).1 hb
      · obtain⟨o2,h3,h4⟩:=hB o b (by omega) hm.lt hb;exact r'.o.own o2 b (hownm o2 h3) h4
    · by_cases h1:o<σ.objs.length
      · rw[hγlow o h1] at hb;exact r'.o.lt o b (by omega) hb
      · obtain⟨o2,h3,h4⟩:=hB o b (by omega) hlt hb;exact r'.o.lt o2 b (hownm o2 h3).lt h4
    · by_cases h1:o<σ.objs.length
      · rw[hlow o h1] at hob;rw[hγlow o h1] at hb;by_cases hl:listed o s.objs=true
        · obtain⟨q,hq,rfl⟩:=List.mem_map.1 (listed_spec.1 hl);exact absurd hob (p4b q hq i e xs)
        · have hl:=Bool.eq_false_iff.2 hl;rw[qL s.objs x2 σ.objs o h1 hl,←ho o h1 hl] at hob;exact hTI b (hT b (r'.o.frz o i e xs b hob hb))
      · cases (hnew o _ (by omega) hob).2
  have hslots:∀t tg pv,get C.slots t=some (tg,pv)→tg=[]∧∃v,a'.tmps[t]?=some v∧PR C.objs (upd γ' σ.objs.length (gsO++gsS)) w' pv v:=fun t tg pv ht=>by
    rcases v1 t tg pv ht with h1 | h1
    · obtain⟨h2,h3⟩:=qhP h1;obtain⟨h4,h5,h6⟩:=qd4 h3;simp only at h5 h6;subst h5;refine⟨rfl,?_⟩;obtain⟨v,h7,h8⟩:=r'.slots t [] pv (hk t h2 _ h3) (qb _);obtain⟨v0,_,h9⟩:=r.slots t [] pv h4 (qb _);exact⟨v,h7,PR.keep K1 h9.below (.inl h6) h8⟩
    · exact h1
  refine⟨upd γ' σ.objs.length (gsO++gsS),⟨?_,r'.defers,fun t tg pv ht _=>(hslots t tg pv ht).2,fun t tg pv ht hnT=>?_,fun t tg pv ht x hx=>?_,fun x hx=>?_,hor⟩,⟨hcl.2.2.2.2.2.1,hcl.2.2.2.2.2.2.1⟩,⟨hcl.2.2.1,hcl.2.2.2.1,hcl.2.2.2.2.1,fun t e ht he=>?_,fun o ho' hp=>?_,K0.trans K1⟩⟩
  · rw[r'.size,hn,hcl.2.2.1]
  · obtain⟨rfl,_⟩:=hslots t tg pv ht;exact absurd (qb _) hnT
  · obtain⟨rfl,_⟩:=hslots t tg pv ht;cases hx
  · rw[hcl.2.2.2.2.2.2.1] at hx;cases hx
  · have htk:t∈s.keep:=by
      have hb:=Nat.eq_of_beq_eq_true hpm;rw[qdt] at ht
      have h2:(Nat.land σ.prS (maskN s.keep)).testBit t=true:=by rw[hb];exact ht
      have h3:(σ.prS &&& maskN s.keep).testBit t=true:=h2;rw[Nat.testBit_and,Bool.and_eq_true] at h3;exact mask_bit.1 (by rw[qdt];exact h3.2)
    have hnh:∀q∈s.slots,q.1≠t:=fun q hq e1=>by
      have:=(hsl q hq).1;rw[e1,memN_spec.2 htk] at this;cases this
    obtain⟨h4,h5,h6⟩:=qd4 he;refine kf_of ?_ h5 h6;rw[hcl.2.2.2.2.2.2.2 t hnh,qfp htk];exact he
  · have hl:listed o s.objs=false:=Bool.eq_false_iff.2 fun hl=>by
      obtain⟨q,hq,rfl⟩:=List.mem_map.1 (listed_spec.1 hl);rw[(hol' q hq).2] at hp;cases hp
    rw[hlow o ho',qL s.objs x2 σ.objs o ho' hl]
end Go.Den
namespace Go.Den
open Go.Eng
set_option linter.unusedVariables false
set_option linter.unusedSectionVars false
set_option linter.unusedSimpArgs false
variable [CT : Ctx]

section
variable {P : Program} {env : Env}

theorem qja {T α:Type} {f:T→Option (T ⊕ α)} {x:T} {r:α} (h:iterW f x=some r):∃n,iterN f n x=some r:=by
  unfold iterW at h;split at h
  · exact⟨_,h⟩
  · cases h
theorem Rel.enter {F:Fr} {σ:AState} {γ:Gh} {a:Act} {w:World} {s:Shape} {n:Nat} (r:Rel F σ γ a w):Rel F (σ.enter s n) γ a w:=⟨r.size,r.defers,r.slots,r.off,r.gs,r.known,r.o⟩
theorem Rel.leave {F:Fr} {σ σ0:AState} {γ:Gh} {a:Act} {w:World} (r:Rel F σ γ a w):Rel F (σ.leave σ0) γ a w:=⟨r.size,r.defers,r.slots,r.off,r.gs,r.known,r.o⟩
theorem Step.leave {σ σ':AState} {γ γ':Gh} {w w':World} {s:Shape} {n:Nat} (h:Step (σ.enter s n) γ w σ' γ' w'):Step σ γ w (σ'.leave σ) γ' w' :=
  ⟨h.n,rfl,rfl,fun t e ht he=>h.slots t e (qcy ht) he,fun o ho hp=>h.objs o ho (qcy hp),h.keep⟩

theorem Post.then {α:Type} {F:Fr} {σ σ':AState} {γ γ':Gh} {w w':World} {K:Kt α} {res:α} {Q:Exit→Act→World→Prop} (hp:Post F σ γ w K res Q) (s:Step σ γ w σ' γ' w'):Post F σ' γ' w' K res Q :=
  ⟨fun σ2 γ2 a2 w2 hk r2 hc s2=>hp.n σ2 γ2 a2 w2 hk r2 hc (s.trans s2),fun i σ2 γ2 a2 w2 hk r2 hc s2=>hp.x i σ2 γ2 a2 w2 hk r2 hc (s.trans s2),fun σ2 γ2 a2 w2 hk r2 hc s2=>hp.r σ2 γ2 a2 w2 hk r2 hc (s.trans s2)⟩
def RdOK {α:Type} (P:Program) (N:Nat) (rc:Ann→Code→AState→Kt α→Option α):Prop :=
  ∀b σ K res,rc .nil (.loop b) σ K=some res→∀F γ a w Q,Rel F σ γ a w→Cl σ→Post F σ γ w K res Q→Code.rounds P b Q N a w
theorem qa1 (hE:EnvOK P env) (hm:P.follows .mixedOrders=true) {α:Type} {n:Nat} {rc:Ann→Code→AState→Kt α→Option α} (hrc:RcOK P rc) (hrd:RdOK P n rc) {ann:Ann} {c:Code} {σ:AState} {K:Kt α} {res:α} (h:denP P env rc ann c σ K=some res)
    {F:Fr} {γ:Gh} {a:Act} {w:World} {Q:Exit→Act→World→Prop} (r:Rel F σ γ a w) (hcl:Cl σ) (hp:Post F σ γ w K res Q):c.wp P Q a w:=by
  have fin:∀σ' γ' a' w',K.n σ'.endR=some res→Rel F σ' γ' a' w'→Step σ γ w σ' γ' w'→Q .normal a' w':=fun σ' γ' a' w' hk r' s'=>hp.n σ'.endR γ' a' w' hk r'.endR ⟨rfl,rfl⟩ (s'.trans Step.endR);unfold denP at h;split at h
  · exact wp_skip (hp.n σ γ a w h r hcl (Step.refl _ _ _))
  · exact wp_label (hp.n σ γ a w h r hcl (Step.refl _ _ _))
  · refine wp_seq (hrc _ _ _ _ _ h F γ a w _ r hcl ⟨fun σ' γ' a' w' hk r' hc' s'=>?_,fun i σ' γ' a' w' hk r' hc' s'=>hp.x i σ' γ' a' w' hk r' hc' s',fun σ' γ' a' w' hk r' hc' s'=>hp.r σ' γ' a' w' hk r' hc' s'⟩);exact hrc _ _ _ _ _ hk F γ' a' w' Q r' hc' (hp.then s')
  · simp only[Option.bind_eq_some_iff] at h;obtain⟨v,h1,t,h2,h3⟩:=h;have hev:=ev_bool r (qb σ) h1 h2;cases t
    · exact wp_cond_false hev (hrc _ _ _ _ _ h3 F γ a w Q r hcl hp)
    · exact wp_cond_true hev (hrc _ _ _ _ _ h3 F γ a w Q r hcl hp)
  · refine wp_block (hrc _ _ _ _ _ h F γ a w _ r hcl ⟨fun σ' γ' a' w' hk r' hc' s'=>hp.n σ' γ' a' w' hk r' hc' s',fun i σ' γ' a' w' hk r' hc' s'=>?_,fun σ' γ' a' w' hk r' hc' s'=>hp.r σ' γ' a' w' hk r' hc' s'⟩);simp only[Exit.inBlock];split
    · rename_i e;subst e;simp only[Nat.beq_refl,cond_true] at hk;exact hp.n σ' γ' a' w' hk r' hc' s'
    · rename_i e;have:Nat.beq i _=false:=Bool.eq_false_iff.2 fun hb=>e (Nat.eq_of_beq_eq_true hb);simp only[this,cond_false] at hk;exact hp.x i σ' γ' a' w' hk r' hc' s'
  · refine wp_loop_rounds (n+1) ?_;rw[rounds_succ];refine hrc _ _ _ _ _ h F γ a w _ r hcl ⟨fun σ' γ' a' w' hk r' hc' s'=>?_,fun i σ' γ' a' w' hk r' hc' s'=>hp.x i σ' γ' a' w' hk r' hc' s',fun σ' γ' a' w' hk r' hc' s'=>hp.r σ' γ' a' w' hk r' hc' s'⟩;exact hrd _ _ _ _ hk F γ' a' w' Q r' hc' (hp.then s')
  · exact wp_exit (hp.x _ σ γ a w h r hcl (Step.refl _ _ _))
  · exact wp_ret (hp.r σ γ a w h r hcl (Step.refl _ _ _))
  · exact wp_region_list (qam hE hrc _ _ r h fin)
  · rename_i id ops;have hdr:Chg [] w { w with drawn:=w.drawn+1 }:=⟨rfl,rfl,rfl,Nat.le_refl _,fun _ _ _=>rfl,fun _=>Nat.le_succ _⟩;split at h
    · rename_i s g ann' _;obtain⟨hsel,h⟩:=chk_some.1 h;refine qib hm (f:=0) (qhp hE hrc hsel (3*ops.size+20) ops.size (by simp) ?_ (r.ext hdr) h fun σ2 γ2 a2 w2 hk2 r2 s2=>fin σ2 γ2 a2 w2 hk2 r2 ((Step.ext hdr).trans s2));unfold nUn;exact Nat.le_trans List.countP_le_length (by simp)
    split at h
    · obtain⟨hB,h⟩:=chk_some.1 h;refine wp_region_quiet (C:=Chg [] w) hm hB hdr (qbH hE _ r h fun σ' a' r' s' hk w' hc=>?_);exact fin σ' γ a' w' hk (r'.ext hc) (s'.trans (Step.ext hc))
    · obtain⟨hB2,h⟩:=chk_some.1 h;refine qdP (C:=Chg [] w) _ hm hB2 hdr (qbH hE _ r h fun σ' a' r' s' hk w' hc=>?_);exact qam hE hrc _ _ (r'.ext hc) hk fun σ2 γ2 a2 w2 hk2 r2 s2=>fin σ2 γ2 a2 w2 hk2 r2 (s'.trans ((Step.ext hc).trans s2))
  · cases h
theorem retype {F:Fr} {objs:List OB} {γ:Gh} {w:World} {p:Nat} {ob ob':OB} (r:ORel F objs γ w) (hp:objs[p]?=some ob) (hm:mutOb ob=true)
    (hnf:∀(i:TypeId) (e:Ty) (xs:List (D e)),ob' ≠ .arr i e xs true) (hob:ObR objs γ w ob' (γ p)):ORel F (objs.set p ob') γ w∧Keep objs γ w (objs.set p ob') γ w objs.length:=by
  have hlt:=qu hp;have hget:∀o',(objs.set p ob')[o']?=if p=o' then some ob' else objs[o']?:=fun o'=>by
    rw[List.getElem?_set];by_cases e1:p=o'
    · subst e1;simp[hlt]
    · simp[e1]
  have hmu:∀o',Mut (objs.set p ob') o'→Mut objs o':=by
    rintro o' ⟨ob2,h1,h2⟩
    rw[hget] at h1;split at h1
    · rename_i e;subst e;exact⟨_,hp,hm⟩
    · exact⟨ob2,h1,h2⟩
  have K:Keep objs γ w (objs.set p ob') γ w objs.length:=⟨fun k hk=>⟨hk.lt,hk.s,fun o' hm'=>hk.own o' (hmu o' hm')⟩,fun _ _=>rfl,by simp,fun _ _=>rfl,Nat.le_refl _,rfl⟩;refine⟨⟨fun o' ob2 h1=>?_,fun o1 o2 b' h1 h2=>r.inj o1 o2 b' (hmu o1 h1) (hmu o2 h2),fun o1 b' h1=>r.own o1 b' (hmu o1 h1),fun o1 b' h1 h2=>r.lt o1 b' (by simpa using h1) h2,r.chg,fun o1 i e xs b' h1 h2=>?_,r.up,r.tab.mono K.imm K.heap⟩,K⟩
  · rw[hget] at h1;split at h1
    · rename_i e;subst e;cases h1;exact ObR.keep K (fun _ _=>rfl) hob
    · exact ObR.keep K (fun _ _=>rfl) (r.rep o' _ h1)
  · rw[hget] at h1;split at h1
    · cases h1;exact absurd rfl (hnf _ _ _)
    · exact K.imm _ (r.frz o1 i e xs b' h1 h2)
theorem qf7 (hE:EnvOK P env) (hm:P.follows .mixedOrders=true):∀(n:Nat) (α:Type),RcOK P (den P env n α)∧RdOK P n (den P env n α):=by
  intro n
  induction n with
  | zero=>exact fun α=>⟨fun ann c σ K res h=>by simp[den] at h,fun b σ K res h=>by simp[den] at h⟩
  | succ n ih0 =>
    intro α;have ih:=fun α=>(ih0 α).1;refine⟨?_,fun b σ K res h F γ a w Q r hcl hp=>?_⟩
    case refine_2 =>
      simp only[den,denP] at h;rw[rounds_succ];refine ih α _ _ _ _ _ h F γ a w _ r hcl ⟨fun σ' γ' a' w' hk r' hc' s'=>?_,fun i σ' γ' a' w' hk r' hc' s'=>hp.x i σ' γ' a' w' hk r' hc' s',fun σ' γ' a' w' hk r' hc' s'=>hp.r σ' γ' a' w' hk r' hc' s'⟩;exact(ih0 α).2 _ _ _ _ hk F γ' a' w' Q r' hc' (hp.then s')
    intro ann c σ K res h F γ a w Q r hcl hp
    cases ann with
    | nil=>exact qa1 hE hm (ih α) (ih0 α).2 h r hcl hp
    | two x y=>exact qa1 hE hm (ih α) (ih0 α).2 h r hcl hp
    | own x=>exact qa1 hE hm (ih α) (ih0 α).2 h r hcl hp
    | vw x=>exact qa1 hE hm (ih α) (ih0 α).2 h r hcl hp
    | tail m x=>exact qa1 hE hm (ih α) (ih0 α).2 h r hcl hp
    | any s g x=>exact qa1 hE hm (ih α) (ih0 α).2 h r hcl hp
    | ord i u x y=>exact qa1 hE hm (ih α) (ih0 α).2 h r hcl hp
    | alt x y=>exact qa1 hE hm (ih α) (ih0 α).2 h r hcl hp
    | spl d x=>exact qa1 hE hm (ih α) (ih0 α).2 h r hcl hp
    | sel o i x y =>
      simp only[den] at h;exact ih α _ _ _ _ _ h F γ a w Q r hcl hp
    | mbs o x1 x2 =>
      simp only[den,Option.bind_eq_some_iff] at h;obtain⟨ob,hob,h⟩:=h
      cases ob with
      | mbr i e y =>
        simp only[chk_some,Bool.not_eq_true'] at h;obtain⟨hpr,h⟩:=h;have key:∀ob':OB,(∀(i:TypeId) (e:Ty) (xs:List (D e)),ob' ≠ .arr i e xs true)→ObR σ.objs γ w ob' (γ o)→Rel F { σ with objs:=σ.objs.set o ob' } γ a w∧Step σ γ w { σ with objs:=σ.objs.set o ob' } γ w:=fun ob' hnf hob'=>by
          obtain⟨q1,q2⟩:=retype r.o hob rfl hnf hob';have s1:∀o',o'<σ.objs.length→bitB σ.prO o'=true→(σ.objs.set o ob')[o']?=σ.objs[o']?:=fun o' _ hp=>by
            rw[List.getElem?_set,if_neg];intro e1;subst e1;rw[hpr] at hp;cases hp
          exact⟨r.setObjsN q2 q1,⟨rfl,rfl,rfl,fun _ _ _ h=>h,s1,q2⟩⟩
        cases y with
        | none =>
          simp only[Option.elim_none] at h
          obtain⟨r1,s1⟩:=key .nilr (fun _ _ _ e=>by cases e) (by
            rcases r.o.rep o _ hob with ⟨_,h1⟩ | ⟨_,_,h1,_⟩
            · exact h1
            · cases h1)
          exact ih α _ _ _ _ _ h F γ a w Q r1 hcl (hp.then s1)
        | some xs =>
          simp only[Option.elim_some] at h
          obtain⟨r1,s1⟩:=key (.arr i e xs false) (fun _ _ _ e=>by cases e) (by
            rcases r.o.rep o _ hob with ⟨h1,_⟩ | ⟨xs',us,h1,h2,h3⟩
            · cases h1
            · cases h1;exact⟨us,h2,h3⟩)
          exact ih α _ _ _ _ _ h F γ a w Q r1 hcl (hp.then s1)
      | _=>simp at h
    | frz l x =>
      simp only[den,Option.bind_eq_some_iff] at h;obtain⟨objs1,h1,h2⟩:=h;obtain⟨f1,_⟩:=qak r.o h1;have s1:Step σ γ w { σ with objs:=objs1 } γ w:=⟨rfl,rfl,rfl,fun _ _ _ h=>h,fun o _ hp=>f1.prot o hp,f1.keep⟩;exact ih α _ _ _ _ _ h2 F γ a w Q (r.setObjs f1.keep f1.same f1.o) hcl (hp.then s1)
    | join s x =>
      simp only[den,chk_some,Option.bind_eq_some_iff] at h;obtain⟨hho,y,h1,h2⟩:=h;refine ih s.T _ _ _ _ _ h1 F γ a w Q r.enter hcl ⟨fun σ' γ' a' w' hk r' hc' s'=>?_,fun i σ' γ' a' w' hk=>(by cases hk),fun σ' γ' a' w' hk=>(by cases hk)⟩;obtain⟨γF,rF,cF,sF⟩:=qdM r hho r' s'.n (fun t ht e he=>(qd4 (s'.slots t e (by rw[AState.enter];exact(by rw[qbN,mask_bit.2 ht];simp)) he)).1) (fun o ho hl=>s'.objs o ho (by rw[AState.enter];exact(by rw[qbN,qfh ho hl];simp))) s'.keep hk;exact hp.n _ γF a' w' h2 rF cF sF
    | joinE s x =>
      simp only[den,chk_some,Option.bind_eq_some_iff] at h;obtain⟨hho,y,h1,h2⟩:=h
      cases y with
      | inl y =>
        refine ih (s.T ⊕ α) _ _ _ _ _ h1 F γ a w Q r.enter hcl ⟨fun σ' γ' a' w' hk r' hc' s'=>?_,fun i σ' γ' a' w' hk=>?_,fun σ' γ' a' w' hk=>?_⟩
        · simp only[Option.map_eq_some_iff,Sum.inl.injEq,exists_eq_right] at hk;obtain⟨γF,rF,cF,sF⟩:=qdM r hho r' s'.n (fun t ht e he=>(qd4 (s'.slots t e (by rw[AState.enter];exact(by rw[qbN,mask_bit.2 ht];simp)) he)).1) (fun o ho hl=>s'.objs o ho (by rw[AState.enter];exact(by rw[qbN,qfh ho hl];simp))) s'.keep hk;exact hp.n _ γF a' w' h2 rF cF sF
        · simp at hk
        · simp at hk
      | inr y =>
        simp only[Sum.elim_inr,Option.some.injEq] at h2;subst h2;refine ih (s.T ⊕ α) _ _ _ _ _ h1 F γ a w Q r.enter hcl ⟨fun σ' γ' a' w' hk r' hc' s'=>?_,fun i σ' γ' a' w' hk r' hc' s'=>?_,fun σ' γ' a' w' hk r' hc' s'=>?_⟩
        · simp at hk
        · simp only[Option.map_eq_some_iff,Sum.inr.injEq,exists_eq_right] at hk;exact hp.x i _ γ' a' w' hk r'.leave hc' s'.leave
        · simp only[Option.map_eq_some_iff,Sum.inr.injEq,exists_eq_right] at hk;exact hp.r _ γ' a' w' hk r'.leave hc' s'.leave
    | loop s x =>
      cases c with
      | loop b =>
        simp only[den,chk_some,Option.bind_eq_some_iff] at h;obtain⟨hho,x0,h1,h2⟩:=h;obtain⟨N,h3⟩:=qja h2;refine wp_loop_rounds N ?_;obtain⟨γ0,r0,c0,s0⟩:=qdM r hho r rfl (fun t ht e he=>(qd4 he).1) (fun o ho hl=>rfl) (Keep.refl _ _ _) h1;clear h1 h2
        have key:∀(N:Nat) (y:s.T) (γ1:Gh) (a1:Act) (w1:World),iterN (fun x_1=>den P env n (s.T ⊕ α) x b ((conc s σ x_1).enter s σ.objs.length) ⟨fun σ'=>Option.map Sum.inl (absT s σ.objs.length σ'),fun i σ'=>Option.map Sum.inr (K.x i (σ'.leave σ)),fun σ'=>Option.map Sum.inr (K.r (σ'.leave σ))⟩) N y=some res →
            Rel F (conc s σ y) γ1 a1 w1→Cl (conc s σ y)→Step σ γ w (conc s σ y) γ1 w1→Code.rounds P b Q N a1 w1:=by
          intro N
          induction N with
          | zero=>intro y γ1 a1 w1 h;simp[iterN] at h
          | succ N ihN =>
            intro y γ1 a1 w1 h r1 c1 s1;rw[rounds_succ];simp only[iterN] at h;have hkeep:∀t∈s.keep,∀e,kf σ.slots t=some e→kf (conc s σ y).slots t=some e:=fun t ht e he=>by
              have hh:=hho;simp only[qeI,Bool.and_eq_true,List.all_eq_true,Bool.not_eq_true'] at hh;obtain⟨⟨⟨hpm,hsl⟩,hndo,hol⟩,hg0,hkn0⟩:=hh;obtain⟨k1,k2,k3⟩:=qd4 he;refine kf_of ?_ k2 k3;unfold conc
              rw[(qdy s.slots y.1 _).2.2.2.2.2.2.2 t (fun q hq e1=>by
                have:=(hsl q hq).1;rw[e1,memN_spec.2 ht] at this
                cases this)]
              show get (keepF σ.slots s.keep) t=some e;rw[qfp ht];exact he
            have hobj:∀o,o<σ.objs.length→listed o s.objs=false→(conc s σ y).objs[o]?=σ.objs[o]?:=fun o ho hl=>by
              unfold conc;rw[(qdy s.slots y.1 _).2.1 o (Nat.lt_of_lt_of_le ho (qbd s.objs y.2 σ.objs))];exact qL s.objs y.2 σ.objs o ho hl
            have hlen:σ.objs.length≤(conc s σ y).objs.length:=s1.len;split at h
            · cases h
            · rename_i z hz;refine ih (s.T ⊕ α) _ _ _ _ _ hz F γ1 a1 w1 _ r1.enter c1 ⟨fun σ' γ' a' w' hk r' hc' s'=>?_,fun i σ' γ' a' w' hk=>?_,fun σ' γ' a' w' hk=>?_⟩
              · simp only[Option.map_eq_some_iff,Sum.inl.injEq,exists_eq_right] at hk;obtain⟨γF,rF,cF,sF⟩:=qdM r hho r' (s'.n.trans s1.n) (fun t ht e he=>(qd4 (s'.slots t e (by rw[AState.enter];exact(by rw[qbN,mask_bit.2 ht];simp)) (hkeep t ht e he))).1)
                  (fun o ho hl=>(s'.objs o (Nat.lt_of_lt_of_le ho hlen) (by rw[AState.enter];exact(by rw[qbN,qfh ho hl];simp))).trans (hobj o ho hl)) (s1.keep.trans (s'.keep.less hlen)) hk
                exact ihN z γF a' w' h rF cF sF
              · simp at hk
              · simp at hk
            · rename_i z hz;cases h;refine ih (s.T ⊕ α) _ _ _ _ _ hz F γ1 a1 w1 _ r1.enter c1 ⟨fun σ' γ' a' w' hk r' hc' s'=>?_,fun i σ' γ' a' w' hk r' hc' s'=>?_,fun σ' γ' a' w' hk r' hc' s'=>?_⟩
              · simp at hk
              · simp only[Option.map_eq_some_iff,Sum.inr.injEq,exists_eq_right] at hk;refine hp.x i _ γ' a' w' hk r'.leave hc' (s1.trans ?_);have s2:=s'.leave;exact⟨s2.n,s1.prS.symm,s1.prO.symm,s2.slots,s2.objs,s2.keep⟩
              · simp only[Option.map_eq_some_iff,Sum.inr.injEq,exists_eq_right] at hk;refine hp.r _ γ' a' w' hk r'.leave hc' (s1.trans ?_);have s2:=s'.leave;exact⟨s2.n,s1.prS.symm,s1.prO.symm,s2.slots,s2.objs,s2.keep⟩
        exact key N x0 γ0 a w h3 r0 c0 s0
      | _=>simp[den] at h
end
end Go.Den
namespace Go.Den
open Go.Eng (qah CellsAt Chg InR adr aggOf)
set_option linter.unusedVariables false
set_option linter.unusedSectionVars false
set_option linter.unusedSimpArgs false
variable [CT : Ctx]

section
variable {P : Program} {env : Env}

theorem qec {γ:Gh} {w:World} {S:Nat→Prop} (hS:∀k,S k→Imm [] γ w k):∀ {ps:List Ty} {x:DL ps} {vs:List Value},ArgsR w S ps x vs→PRL [] γ w (qc7 ps x) vs
  | [],_,_,h=>h
  | τ::r,x,_,⟨v,q,e,⟨cs,h1,h2⟩,h3⟩=>by
    refine⟨v,q,e,?_,qec hS h3⟩;have:=qav τ (Rep.mono hS (fun _ _=>rfl) τ h1 (by simp));rw[h2];exact qaQ (qbD τ x.1) this
theorem qb5:∀(ps:List Ty) (x:DL ps),(qc7 ps x).length=ps.length
  | [],_=>rfl
  | _::r,x=>by simp[qc7,qb5 r x.2]
theorem qb4 {objs:List OB} {γ:Gh} {w:World} {σ:AState} (hσ:σ.objs=objs):∀ {vs:List PV} {ts:List Ty} {cs:List Cv} {vals:List Value},qb3 vs ts=some cs→PRL objs γ w vs vals→∃cells,VRL objs γ w cs cells∧tupV ts cells=vals∧vals.length=ts.length
  | [],[],cs,vals,h,hv=>by
    simp only[qb3,Option.some.injEq] at h;subst h;simp only[PRL] at hv;subst hv;exact⟨[],rfl,rfl,rfl⟩
  | v::vs,τ::ts,cs,vals,h,⟨u,q,e,h1,h2⟩=>by
    simp only[qb3,Option.bind_eq_some_iff,chk_some,Bool.and_eq_true,Option.some.injEq] at h;obtain⟨l,h3,⟨h4,h5⟩,q2,h6,rfl⟩:=h;subst hσ;have hvl:=qbn h3 h1
    have hl:u.cells.toList.length=τ.size:=by rw[hvl.length];exact Nat.eq_of_beq_eq_true h4
    obtain⟨cells,h7,h8,h9⟩:=qb4 rfl h6 h2;refine⟨u.cells.toList++cells,hvl.append h7,?_,by simp[e,h9]⟩;simp only[tupV];rw[←hl,List.take_left,List.drop_left,h8,e,←qfF h3 h5 h1]
  | [],_::_,_,_,h,_=>by simp[qb3] at h
  | _::_,[],_,_,h,_=>by simp[qb3] at h
theorem qgb:∀(b:Bool) (ps:List Ty) (x:DL ps),(qfR b ps x).length≤ps.length
  | false,ps,x=>Nat.le_of_eq (qb5 ps x)
  | true,[],_=>Nat.le_refl _
  | true,_::r,x=>by simp[qfR,qb5 r x.2]
theorem qhS {γ:Gh} {w:World} {S:Nat→Prop} (hS:∀k,S k→Imm [] γ w k) {b:Bool} {ps:List Ty} {x:DL ps} {vs:List Value} (h:ArgsB w S b ps x vs):PRL [] γ w (qfR b ps x) vs:=by
  cases b with
  | false=>exact qec hS h
  | true =>
    cases ps with
    | nil=>exact h.elim
    | cons τ r =>
      obtain⟨a,us,q,e,h1,h2,h3,h4,h5⟩:=h;exact⟨_,q,e,⟨a,us,rfl,h1,fun hne=>hS _ (h2 hne),h3,qav τ (Rep.mono hS (fun _ _=>rfl) τ h4 (by simp))⟩,qec hS h5⟩
theorem qh6 (hE:EnvOK P env) (hm:P.follows .mixedOrders=true) {f:FuncId} {fn:Func} (hf:P.funcs[f]?=some fn) (b:Bool) (c:Con) (ann:Ann)
    (hok:(fn.body.isSome&&(Nat.ble c.ps.length fn.ntmps&&(c.ps.all Ty.pure&&(c.one || !Nat.beq c.res.length 1))))=true) (hwf:c.one=false→c.ρ=stOf c.res) (htt:∀g,c.tot=some g→∀x,c.φ x=some (g x))
    (h:∀x,c.φ x=denB P env ann fn b c.ps c.one c.res c.ρ x):ConB P f b c:=by
  simp only[Bool.and_eq_true] at hok;obtain⟨hbody,hn,hpure,hone⟩:=hok;have hn:=Nat.le_of_ble_eq_true hn;refine⟨hpure,hwf,htt,fun w S args x r hS hTab hargs hr=>?_⟩;obtain⟨body,hb⟩:=Option.isSome_iff_exists.1 hbody
  have hbo:Eng.bodyOf fn=body:=by simp[Eng.bodyOf,hb]
  rw[h x] at hr;unfold denB at hr;rw[hbo] at hr
  let γ:Gh:=⟨fun _=>(undef,none),fun k=>S k∨w.heap.size≤k⟩
  have hSI:∀k,S k→Imm [] γ w k:=fun k hk=>⟨hS k hk,.inl hk,fun o hm=>by obtain⟨ob,h1,_⟩:=hm;simp at h1⟩
  have hor:ORel ⟨w,[]⟩ [] γ w:=⟨fun o ob ho=>by simp at ho,fun o o' b hm=>by obtain⟨ob,h1,_⟩:=hm;simp at h1,fun o b hm=>by obtain⟨ob,h1,_⟩:=hm;simp at h1,fun o b ho=>by simp at ho,Chg.refl _ _,fun o i e xs b ho=>by simp at ho,
    fun k hk => .inr (hk.elim id (fun h=>nomatch h)),hTab.mono hSI (fun _ _=>rfl)⟩
  have hv:=qhS hSI hargs;have r00:Rel ⟨w,[]⟩ ⟨0,[],[],0,0,0,[]⟩ γ { tmps:=#[],defers:=[] } w:=⟨rfl,rfl,fun t tg pv h=>by simp[get] at h,fun t tg pv h=>by simp[get] at h,fun t tg pv h=>by simp[get] at h,fun x hx=>(by cases hx),hor⟩;have r0:=qer (n:=fn.ntmps) r00 hv (Nat.le_trans (qgb b c.ps x) hn)
  have hlast:∀σ' γ' a' w',retK P fn c.one c.res c.ρ σ'=some r→Rel ⟨w,[]⟩ σ' γ' a' w'→Step ⟨fn.ntmps,qaK 0 (qfR b c.ps x),[],0,0,0,[]⟩ γ w σ' γ' w' →
      a'.defers=[]∧∃v,(results fn a'.tmps).run P w' = .ok v w'∧∃v2,Ending.returned v = .returned v2∧Chg [] w w'∧ResR w w' S c r v2:=by
    intro σ' γ' a' w' hk r' s';simp only[retK,Option.bind_eq_some_iff] at hk;obtain⟨vs,h1,cs,h2,h3⟩:=hk;obtain⟨vals,h4,h5,h6⟩:=qb6 (P:=P) r' h1;refine⟨r'.defers,_,qc2 h5 h6,_,rfl,r'.o.chg,?_⟩;obtain⟨cells,h7,h8,h9⟩:=qb4 rfl h2 h4;simp only[retD,chk_some,Bool.and_eq_true,List.all_eq_true,Bool.not_eq_true'] at h3;obtain⟨⟨hnd,hdis⟩,h10⟩:=h3;have hmut:=(qV (S:=fun _=>True) r'.o (fun _ _=>trivial) c.ρ h10 h7 (fun _ _ _ _=>trivial)).2;have hSeq:γ'.S=γ.S:=s'.keep.s;have hMmem:∀b∈blocks γ' (idsO σ'.objs c.ρ cs),∃o∈idsO σ'.objs c.ρ cs,(γ' o).2=some b:=fun b hb=>by
      obtain⟨o,ho,hb'⟩:=List.mem_flatMap.1 hb;exact⟨o,ho,by simpa using hb'⟩
    have hrep:=(qV (S:=fun k=>k<w'.heap.size∧(S k∨w.heap.size≤k)∧k∉blocks γ' (idsO σ'.objs c.ρ cs)) r'.o (fun k hk=>⟨hk.lt,by have:=hk.s;rw[hSeq] at this;exact this,fun hm=>by
      obtain⟨o,ho,hb⟩:=hMmem k hm;exact hk.own o (hmut o ho) hb⟩) c.ρ h10 h7 (fun o ho b hb=>by
      obtain⟨i,e,xs,fz,hob⟩:=qcW c.ρ h10 ho;have hnm:b∉blocks γ' (idsO σ'.objs c.ρ cs):=fun hm=>by
        obtain⟨o',ho',hb'⟩:=hMmem b hm
        cases fz with
        | true=>exact(r'.o.frz o i e xs b hob hb).own o' (hmut o' ho') hb'
        | false =>
          have e1:=r'.o.inj o o' b ⟨_,hob,rfl⟩ (hmut o' ho') hb hb';subst e1;have:=hdis o ho;rw[memN_spec.2 ho'] at this;cases this
      refine⟨r'.o.lt o b (qu hob) hb,?_,hnm⟩
      cases fz with
      | true=>have:=(r'.o.frz o i e xs b hob hb).s;rw[hSeq] at this;exact this
      | false =>
        rcases r'.o.own o b ⟨_,hob,rfl⟩ hb with h11 | h11
        · exact .inr h11
        · cases h11)).1
    refine⟨_,cells,qaP r'.o (qaT hnd) hmut,fun b hb=>?_,hrep,?_⟩
    · obtain⟨o,ho,hb'⟩:=hMmem b hb;rcases r'.o.own o b (hmut o ho) hb' with h11 | h11
      · exact h11
      · cases h11
    · unfold resV
      cases hc1:c.one with
      | true =>
        rw[hc1] at h8 h9;simp only[qeo,cond_true,tupV] at h8;rw[←h8]
        have hl:cells.length=c.ρ.size:=by rw[Rep.length c.ρ hrep]
        rw[←hl,List.take_length];rfl
      | false =>
        rw[hc1] at h8 h9 hone;simp only[qeo,cond_false] at h8 h9;simp only[Bool.false_or,Bool.not_eq_true'] at hone;rw[h8]
        have hne:vals.length≠1:=fun e=>by rw[←h9,e] at hone;cases hone
        match vals,hne with
        | [],_=>rfl
        | [_],hne=>exact absurd rfl hne
        | _::_::_,_=>rfl
  have:=(qf7 hE hm 10000 (D c.ρ)).1 ann body _ _ r hr ⟨w,[]⟩ γ _ w (bodyPost P fn fun e w'=>∃v,e = .returned v∧Chg [] w w'∧ResR w w' S c r v) r0 ⟨rfl,rfl⟩
    ⟨fun σ' γ' a' w' hk r' _ s'=>hlast σ' γ' a' w' hk r' s',fun i σ' γ' a' w' hk=>(by cases hk),fun σ' γ' a' w' hk r' _ s'=>hlast σ' γ' a' w' hk r' s'⟩
  have hcalls:=calls_of_wp (args:=args) hf hb (by simpa using this);exact hcalls
theorem qz (hE:EnvOK P env) (hm:P.follows .mixedOrders=true) {f:FuncId} {fn:Func} (hf:P.funcs[f]?=some fn) (c:Con) (ann:Ann)
    (hok:(fn.body.isSome&&(Nat.ble c.ps.length fn.ntmps&&(c.ps.all Ty.pure&&(c.one || !Nat.beq c.res.length 1))))=true) (hwf:c.one=false→c.ρ=stOf c.res) (htt:∀g,c.tot=some g→∀x,c.φ x=some (g x))
    (h:∀x,c.φ x=denF P env ann fn c.ps c.one c.res c.ρ x):ConOK P f c:=(qh6 hE hm hf false c ann hok hwf htt h).ok
theorem fixW_some {T α:Type} {G:(T→Option α)→T→Option α} {x:T} {r:α} (h:fixW G x=some r):∃n,fixN G n x=some r:=by
  unfold fixW at h;split at h
  · exact⟨_,h⟩
  · cases h
end

def tyE:Eng.Ty→Ty
  | .int k => .int k
  | .bool => .bool
  | .str => .str
  | .sl e => .sl (tyE e)
  | .nil => .nil
  | .st f r => .st (tyE f) (tyE r)
def dE:(τ:Eng.Ty)→Eng.D τ→D (tyE τ)
  | .int _,n=>n
  | .bool,b=>b
  | .str,s=>s
  | .sl e,(_,_,xs)=>xs.map (dE e)
  | .nil,_=>()
  | .st f r,(x,y)=>(dE f x,dE r y)
def RngL {A:Type} (m:Nat) (R:A→Prop) (xs:List A):Prop:=xs.length≤m∧∀x∈xs,R x
def Rng:(τ:Ty)→D τ→Prop
  | .int k,n=>InR k n
  | .bool,_=>True
  | .str,s=>s.size≤maxLen
  | .sl e,xs=>RngL maxLen (Rng e) xs
  | .osl _ e,xs=>RngL maxLen (Rng e) xs
  | .obx e,x=>Rng e x
  | .onl _ _,_=>True
  | .err,_=>True
  | .bld _ _,_=>True
  | .nil,_=>True
  | .st f r,x=>Rng f x.1∧Rng r x.2
def posE:Eng.Ty→Bool
  | .sl e=>!Nat.beq e.size 0&&posE e
  | .st f r=>posE f&&posE r
  | _=>true
theorem rng_of:∀(τ:Eng.Ty) {y:Eng.D τ} {w:World},Eng.Ok w τ y→Rng (tyE τ) (dE τ y)
  | .int _,_,_,h=>h
  | .bool,_,_,_=>trivial
  | .str,_,_,h=>h
  | .nil,_,_,_=>trivial
  | .sl e,(ao,cap,xs),w,h=>by
    obtain⟨h1,h2,h3⟩:=h;refine⟨by simp only[dE,List.length_map];omega,fun x hx=>?_⟩;obtain⟨y,hy,rfl⟩:=List.mem_map.1 hx;obtain⟨i,hi,rfl⟩:=List.mem_iff_getElem.1 hy;exact rng_of e (h3 i hi).2.2
  | .st f r,(x,y),w,h=>⟨rng_of f h.1,rng_of r h.2⟩
theorem qiP:∀(τ:Eng.Ty) {y:Eng.D τ} {w:World},posE τ=true→Eng.Ok w τ y→Rep w (fun k=>k<w.heap.size) (tyE τ) (dE τ y) [] (Eng.enc τ y)
  | .int _,_,_,_,h=>⟨rfl,rfl⟩
  | .bool,_,_,_,_=>⟨rfl,rfl⟩
  | .str,_,_,_,h=>⟨rfl,rfl⟩
  | .nil,_,_,_,_=>⟨rfl,rfl⟩
  | .sl e,(ao,cap,xs),w,hp,h=>by
    simp only[posE,Bool.and_eq_true,Bool.not_eq_true'] at hp;obtain⟨h1,h2,h3⟩:=h;have hpos:0<e.size:=by
      rcases Nat.eq_zero_or_pos e.size with h0 | h0
      · rw[h0] at hp;cases hp.1
      · exact h0
    refine⟨rfl,ao,cap,(xs.map (Eng.enc e)).flatten,by simp[dE,Eng.enc],by simpa[dE] using h1,?_,fun hne=>?_⟩
    · clear h1 h2;have:∀(l:List (Eng.D e)),(∀x∈l,Eng.Ok w e x)→RepL (fun x c=>Rep w (fun k=>k<w.heap.size) (tyE e) x [] c) (l.map (dE e)) (l.map (Eng.enc e)).flatten:=by
        intro l
        induction l with
        | nil=>intro _;rfl
        | cons x l ih=>intro hl;exact⟨_,_,rfl,qiP e hp.2 (hl x List.mem_cons_self),ih fun y hy=>hl y (List.mem_cons_of_mem _ hy)⟩
      exact this xs fun x hx=>by
        obtain⟨i,hi,rfl⟩:=List.mem_iff_getElem.1 hx;exact(h3 i hi).2.2
    · have hx:xs≠[]:=fun e=>hne (by subst e;rfl);have hl0:0<xs.length:=List.length_pos_iff.2 hx;have hs:=(h3 0 hl0).1;obtain⟨ad,rfl⟩:=Option.isSome_iff_exists.1 hs;have hcells:CellsAt w ad (xs.map (Eng.enc e)).flatten:=by
        intro j v hv;have key:∀(l:List (Eng.D e)) (j:Nat) (v:Value),((l.map (Eng.enc e)).flatten)[j]?=some v→∃i,∃hi:i<l.length,∃m,j=i*e.size+m∧(Eng.enc e l[i])[m]?=some v:=by
          intro l
          induction l with
          | nil=>intro j v h;simp at h
          | cons x l ih =>
            intro j v h;simp only[List.map_cons,List.flatten_cons] at h;by_cases hj:j<(Eng.enc e x).length
            · rw[List.getElem?_append_left hj] at h;exact⟨0,by simp,j,by simp,h⟩
            · rw[List.getElem?_append_right (by omega)] at h;obtain⟨i,hi,m,h4,h5⟩:=ih _ v h;rw[Eng.enc_length] at h4 hj;refine⟨i+1,by simpa using hi,m,?_,by simpa using h5⟩;rw[Nat.add_mul];omega
        obtain⟨i,hi,m,rfl,h5⟩:=key xs j v hv;have:=(h3 i hi).2.1 m v h5;rw[←qih];exact this
      refine⟨ad,rfl,?_,hcells⟩;obtain⟨v,hv⟩:∃v,(Eng.enc e xs[0])[0]?=some v:=⟨_,List.getElem?_eq_getElem (Nat.lt_of_lt_of_le hpos (Nat.le_of_eq (Eng.enc_length e xs[0]).symm))⟩;have:=(h3 0 hl0).2.1 0 v hv;have hb:=World.block_lt_of_cell? w _ this;rw[Eng.add_block,Eng.add_block] at hb;exact hb
  | .st f r,(x,y),w,hp,h=>by
    simp only[posE,Bool.and_eq_true] at hp;exact⟨_,_,[],[],rfl,rfl,qiP f hp.1 h.1,qiP r hp.2 h.2⟩
theorem arg_of (τ:Eng.Ty) {y:Eng.D τ} {w:World} (hp:posE τ=true) (h:Eng.Ok w τ y):ArgR w (fun k=>k<w.heap.size) (tyE τ) (dE τ y) (Eng.handV τ y):=by
  refine⟨_,qiP τ hp h,?_⟩
  cases τ with
  | sl e=>obtain⟨ao,cap,xs⟩:=y;rfl
  | _=>rfl
theorem law_call {P:Program} {f:FuncId} {ps:List Ty} {φ:DL ps→Option Bool} {t:Option (DL ps→Bool)} (hc:ConOK P f ⟨ps,true,[],.bool,φ,t⟩) {w:World} {args:Array Value} {x:DL ps} (hT:TabR (fun k=>k<w.heap.size) w) (ha:ArgsR w (fun k=>k<w.heap.size) ps x args.toList) (ht:φ x=some true) :
    Calls P f args w fun e w'=>e = .returned (.bool true)∧RowKit.Below w.heap.size w w':=by
  refine(hc.calls w _ args x true (fun _ h=>h) hT ha ht).mono fun e w' hh=>?_;obtain⟨v,rfl,hch,M,cs,_,_,hrep,hv⟩:=hh;refine⟨?_,hch.toBelow⟩;obtain⟨_,rfl⟩:M=[]∧cs=[.bool true]:=hrep;rw[hv];rfl
end Go.Den
namespace Go.Den
open Go.Eng (qah CellsAt Chg InR adr aggOf)
set_option linter.unusedVariables false
set_option linter.unusedSectionVars false
set_option linter.unusedSimpArgs false
variable [CT : Ctx]

section
variable {P : Program} {env : Env}
theorem qdk {objs:List OB} {γ:Gh} {w:World} {S:Nat→Prop} (hS:∀k,S k→Imm objs γ w k):∀ {ps:List Ty} {x:DL ps} {vs:List Value},ArgsR w S ps x vs→PRL objs γ w (qc7 ps x) vs
  | [],_,_,h=>h
  | τ::r,x,_,⟨v,q,e,⟨cs,h1,h2⟩,h3⟩=>by
    refine⟨v,q,e,?_,qdk hS h3⟩;have:=qav τ (Rep.mono hS (fun _ _=>rfl) τ h1 (by simp));rw[h2];exact qaQ (qbD τ x.1) this
theorem ioc_of_den (hE:EnvOK P env) (hm:P.follows .mixedOrders=true) {f:FuncId} {fn:Func} (hf:P.funcs[f]?=some fn) (c:Ioc) (ann:Ann)
    (hok:(fn.body.isSome&&(Nat.ble (c.ps.length+1) fn.ntmps&&(c.ps.all Ty.pure&&(c.one || !Nat.beq c.res.length 1))))=true) (hwf:c.one=false→c.ρ=stOf c.res)
    (h:∀x,c.φ x=denIO P env ann fn c.bx c.ps c.one c.res c.ρ x):IocOK P f c:=by
  simp only[Bool.and_eq_true] at hok;obtain⟨hbody,hn,hpure,hone⟩:=hok;have hn:=Nat.le_of_ble_eq_true hn;refine⟨hpure,hwf,fun w S b T cs M args x r hS hTab hheap hMnd hbM hrep hargs hr=>?_⟩;obtain⟨body,hb⟩:=Option.isSome_iff_exists.1 hbody
  have hbo:Eng.bodyOf fn=body:=by simp[Eng.bodyOf,hb]
  rw[h x] at hr;unfold denIO at hr;rw[hbo] at hr;have hblt:b<w.heap.size:=(Array.getElem?_eq_some_iff.1 hheap).1;have hMlt:=qis c.bx hrep;obtain⟨gs,hgl,hgM,hgp⟩:=qbC c.bx hrep 1;obtain⟨q,hq⟩:∃q,cc c.bx x.1 1=q:=⟨_,rfl⟩;rw[hq] at hgl hgp hr
  let γ:Gh:=⟨fun o=>match o with
    | 0=>(.pointer (some ⟨b,0,none⟩),some b)
    | j+1=>(gs[j]?).getD (undef,none),fun k=>S k∨w.heap.size≤k∨k∈b::M⟩
  have hγ:∀j g,gs[j]?=some g→γ (1+j)=g:=fun j g hj=>by
    rw[Nat.add_comm];show(gs[j]?).getD (undef,none)=g;rw[hj];rfl
  have hblocks:∀o k,o<(OB.box q.1::q.2).length→(γ o).2=some k→k∈b::M:=fun o k ho hk=>by
    cases o with
    | zero=>simp[γ] at hk;simp[hk]
    | succ j =>
      have hj:j<gs.length:=by rw[hgl];simpa using ho
      have:=hγ j _ (List.getElem?_eq_getElem hj);rw[Nat.add_comm] at this;rw[this] at hk;refine List.mem_cons_of_mem _ ?_;rw[hgM];exact List.mem_flatMap.2 ⟨_,List.getElem_mem hj,by simp[hk]⟩
  have hSI:∀k,S k→Imm (OB.box q.1::q.2) γ w k:=fun k hk=>⟨(hS k hk).1,.inl hk,fun o hm hb'=>by
    obtain⟨ob,h1,_⟩:=hm;rcases List.mem_cons.1 (hblocks o k (qu h1) hb') with e | e
    · exact(hS k hk).2.1 e
    · exact(hS k hk).2.2 e⟩
  obtain⟨hv1,hv2⟩:=hgp (OB.box q.1::q.2) γ hSI hγ (by simp[hgl];omega);have hor:ORel ⟨w,b::M⟩ (OB.box q.1::q.2) γ w:=by
    refine⟨fun o ob ho=>?_,fun o o' k h1 h2 hb1 hb2=>?_,fun o k hm hk => .inr ?_,fun o k ho hk=>?_,Chg.refl _ _,fun o i e xs k ho hk=>?_,fun k hk=>?_,hTab.mono hSI (fun _ _=>rfl)⟩
    · cases o with
      | zero=>simp at ho;subst ho;exact⟨b,T,cs,rfl,hheap,hv1⟩
      | succ j =>
        simp only[List.getElem?_cons_succ] at ho
        have hj:j<gs.length:=by rw[hgl];exact qu ho
        have:=(hv2 j ob _ ho (List.getElem?_eq_getElem hj)).1;have e:=hγ j _ (List.getElem?_eq_getElem hj);rw[Nat.add_comm] at e;rw[e];exact this
    · have key:∀o k,o<(OB.box q.1::q.2).length→(γ o).2=some k→(o=0∧k=b)∨∃j g,o=j+1∧gs[j]?=some g∧g.2=some k∧k∈M:=fun o k ho hk=>by
        cases o with
        | zero=>simp[γ] at hk;exact .inl ⟨rfl,hk.symm⟩
        | succ j =>
          have hj:j<gs.length:=by rw[hgl];simpa using ho
          have e:=hγ j _ (List.getElem?_eq_getElem hj);rw[Nat.add_comm] at e;rw[e] at hk;exact .inr ⟨j,_,rfl,List.getElem?_eq_getElem hj,hk,by rw[hgM];exact List.mem_flatMap.2 ⟨_,List.getElem_mem hj,by simp[hk]⟩⟩
      rcases key o k h1.lt hb1 with ⟨rfl,e1⟩ | ⟨j1,g1,rfl,hg1,hk1,m1⟩<;>rcases key o' k h2.lt hb2 with ⟨rfl,e2⟩ | ⟨j2,g2,rfl,hg2,hk2,m2⟩
      · rfl
      · exact absurd (e1▸m2) hbM
      · exact absurd (e2▸m1) hbM
      · rw[qhc (hgM▸hMnd) hg1 hg2 hk1 hk2]
    · obtain⟨ob,h1,_⟩:=hm;exact hblocks o k (qu h1) hk
    · rcases List.mem_cons.1 (hblocks o k ho hk) with e | e
      · rw[e];exact hblt
      · exact hMlt k e
    · cases o with
      | zero=>simp at ho
      | succ j =>
        simp only[List.getElem?_cons_succ] at ho
        have hj:j<gs.length:=by rw[hgl];exact qu ho
        cases (hv2 j _ _ ho (List.getElem?_eq_getElem hj)).2
    · rcases hk with hk | hk
      · exact .inr (.inl hk)
      · exact .inr (.inr hk)
  have hv:PRL (OB.box q.1::q.2) γ w (.c (.ptr 0 0)::qc7 c.ps x.2) (.pointer (some ⟨b,0,none⟩)::args):=⟨_,_,rfl,⟨by simp,b,rfl,rfl⟩,qdk hSI hargs⟩;have r00:Rel ⟨w,b::M⟩ ⟨0,[],OB.box q.1::q.2,0,0,0,[]⟩ γ { tmps:=#[],defers:=[] } w:=⟨rfl,rfl,fun t tg pv h=>by simp[get] at h,fun t tg pv h=>by simp[get] at h,fun t tg pv h=>by simp[get] at h,fun x hx=>(by cases hx),hor⟩;have r0:=qer (n:=fn.ntmps) r00 hv (by rw[List.length_cons,qb5];exact hn)
  have hlast:∀σ' γ' a' w',retIO P fn c.bx c.one c.res c.ρ σ'=some r→Rel ⟨w,b::M⟩ σ' γ' a' w'→Step ⟨fn.ntmps,qaK 0 (.c (.ptr 0 0)::qc7 c.ps x.2),OB.box q.1::q.2,0,0,0,[]⟩ γ w σ' γ' w' →
      a'.defers=[]∧∃v,(results fn a'.tmps).run P w' = .ok v w'∧∃v2,Ending.returned v = .returned v2∧Chg (b::M) w w'∧IoR w w' S b M c r v2:=by
    intro σ' γ' a' w' hk r' s';simp only[retIO,Option.bind_eq_some_iff] at hk;obtain⟨vs,h1,cs1,h2,ob,hob,h3⟩:=hk
    cases ob with
    | box bs =>
      simp only[chk_some,Bool.and_eq_true,Bool.not_eq_true'] at h3;obtain⟨⟨hbl,hm00⟩,h3⟩:=h3;have hbl:=Nat.eq_of_beq_eq_true hbl;obtain⟨vals,h4,h5,h6⟩:=qb6 (P:=P) r' h1;refine⟨r'.defers,_,qc2 h5 h6,_,rfl,r'.o.chg,?_⟩;obtain⟨cells,h7,h8,h9⟩:=qb4 rfl h2 h4;obtain⟨b',T',cs',hg',hheap',hvb⟩:=r'.o.rep 0 _ hob;have hγ0:γ' 0=γ 0:=s'.keep.gh 0 (by simp)
      have hbb:b'=b:=by rw[hγ0] at hg';simp[γ] at hg';exact hg'.symm
      subst hbb;have hm0:Mut σ'.objs 0:=⟨_,hob,rfl⟩
      have hg0:(γ' 0).2=some b':=by rw[hg']
      have hva:=hvb.append h7;simp only[retD,chk_some,Bool.and_eq_true,List.all_eq_true,Bool.not_eq_true'] at h3;obtain⟨⟨hnd,hdis⟩,h10⟩:=h3;have hmut:=(qV (S:=fun _=>True) r'.o (fun _ _=>trivial) (.st c.bx c.ρ) h10 hva (fun _ _ _ _=>trivial)).2;have hSeq:γ'.S=γ.S:=s'.keep.s;have hMmem:∀k∈blocks γ' (idsO σ'.objs (.st c.bx c.ρ) (bs++cs1)),∃o∈idsO σ'.objs (.st c.bx c.ρ) (bs++cs1),(γ' o).2=some k:=fun k hk=>by
        obtain⟨o,ho,hb'⟩:=List.mem_flatMap.1 hk;exact⟨o,ho,by simpa using hb'⟩
      have hne0:∀o k,Mut σ'.objs o→o≠0→(γ' o).2=some k→k≠b':=fun o k m1 m2 m3 e=>m2 (r'.o.inj o 0 b' m1 hm0 (e▸m3) hg0);have hids0:∀o∈idsO σ'.objs (.st c.bx c.ρ) (bs++cs1),o≠0:=fun o ho e=>by
        rw[e] at ho;rw[memN_spec.2 ho] at hm00;cases hm00
      have hsplit:∀k,γ.S k→k≠b'→S k∨w.heap.size≤k∨k∈M:=fun k hk hne=>by
        rcases hk with hk | hk | hk
        · exact .inl hk
        · exact .inr (.inl hk)
        · rcases List.mem_cons.1 hk with e | e
          · exact absurd e hne
          · exact .inr (.inr e)
      have himm:∀k,Imm σ'.objs γ' w' k→k<w'.heap.size∧(S k∨w.heap.size≤k∨k∈M)∧k∉blocks γ' (idsO σ'.objs (.st c.bx c.ρ) (bs++cs1))∧k≠b':=fun k hk=>by
        have hne:k≠b':=fun e=>hk.own 0 hm0 (by rw[e];exact hg0);refine⟨hk.lt,hsplit k (by have:=hk.s;rw[hSeq] at this;exact this) hne,fun hm=>?_,hne⟩;obtain⟨o,ho,hb2⟩:=hMmem k hm;exact hk.own o (hmut o ho) hb2
      have hrep':=(qV (S:=fun k=>k<w'.heap.size∧(S k∨w.heap.size≤k∨k∈M)∧k∉blocks γ' (idsO σ'.objs (.st c.bx c.ρ) (bs++cs1))∧k≠b') r'.o himm (.st c.bx c.ρ) h10 hva (fun o ho k hk=>by
        obtain⟨i,e,xs,fz,hobd⟩:=qcW (.st c.bx c.ρ) h10 ho
        cases fz with
        | true=>exact himm k (r'.o.frz o i e xs k hobd hk)
        | false =>
          have hmo:Mut σ'.objs o:=⟨_,hobd,rfl⟩
          have ho0:o≠0:=fun e0=>by rw[e0,hob] at hobd;cases hobd
          have hne:=hne0 o k hmo ho0 hk;refine⟨r'.o.lt o k (qu hobd) hk,?_,fun hm=>?_,hne⟩
          · rcases r'.o.own o k hmo hk with h11 | h11
            · exact .inr (.inl h11)
            · rcases List.mem_cons.1 h11 with e1 | e1
              · exact absurd e1 hne
              · exact .inr (.inr e1)
          · obtain⟨o',ho',hb2⟩:=hMmem k hm;have e1:=r'.o.inj o o' k hmo (hmut o' ho') hk hb2;subst e1;have:=hdis o ho;rw[memN_spec.2 ho'] at this
            cases this)).1
      obtain⟨c1,c2,M1,M2,e1,e2,hR1,hR2⟩:=hrep';have hl1:c1.length=c.bx.size:=Rep.length c.bx hR1
      have hl2:cs'.toList.length=c.bx.size:=by rw[hvb.length];exact hbl
      obtain⟨e3,e4⟩:=List.append_inj e1 (by rw[hl1,hl2]);subst e3;subst e4;rw[e2] at hR1 hR2;have hbn:(M1++M2).Nodup:=e2▸qaP r'.o (qaT hnd) hmut;refine⟨T',cs',M1,M2,cells,hheap',hbn,fun k hk=>?_,hR1,hR2,?_⟩
      · obtain⟨o,ho,hb2⟩:=hMmem k (e2▸hk);have hne:=hne0 o k (hmut o ho) (hids0 o ho) hb2;refine⟨?_,hne⟩;rcases r'.o.own o k (hmut o ho) hb2 with h11 | h11
        · exact .inr h11
        · rcases List.mem_cons.1 h11 with e5 | e5
          · exact absurd e5 hne
          · exact .inl e5
      · unfold resV
        cases hc1:c.one with
        | true =>
          rw[hc1] at h8 h9;simp only[qeo,cond_true,tupV] at h8;rw[←h8]
          have hl:cells.length=c.ρ.size:=by rw[Rep.length c.ρ hR2]
          rw[←hl,List.take_length];rfl
        | false =>
          rw[hc1] at h8 h9 hone;simp only[qeo,cond_false] at h8 h9;simp only[Bool.false_or,Bool.not_eq_true'] at hone;rw[h8]
          have hne:vals.length≠1:=fun e=>by rw[←h9,e] at hone;cases hone
          match vals,hne with
          | [],_=>rfl
          | [_],hne=>exact absurd rfl hne
          | _::_::_,_=>rfl
    | _=>simp at h3
  have:=(qf7 hE hm 10000 (D (.st c.bx c.ρ))).1 ann body _ _ r hr ⟨w,b::M⟩ γ _ w (bodyPost P fn fun e w'=>∃v,e = .returned v∧Chg (b::M) w w'∧IoR w w' S b M c r v) r0 ⟨rfl,rfl⟩
    ⟨fun σ' γ' a' w' hk r' _ s'=>hlast σ' γ' a' w' hk r' s',fun i σ' γ' a' w' hk=>(by cases hk),fun σ' γ' a' w' hk r' _ s'=>hlast σ' γ' a' w' hk r' s'⟩
  have hcalls:=calls_of_wp (args:=(.pointer (some ⟨b,0,none⟩)::args).toArray) hf hb (by simpa using this);exact hcalls
theorem qfM {objs:List OB} {γ:Gh} {w:World}:∀ {l:List Cv} {vs:List Value},VRL objs γ w l vs→PRL objs γ w (cPVs l) vs
  | [],_,h=>h
  | _::_,_,⟨v,r,e,h1,h2⟩=>⟨v,r,e,h1,qfM h2⟩
theorem qi8 {objs:List OB} {γ:Gh} {w:World}:∀ {sg:List Nat} {la lb lc us:List PV} {va vb vc all:List Value},weave (fun g=>PV.c (.fn g [])) sg la lb lc=some us→weave (fun g=>Value.func (.func g) #[] #[]) sg va vb vc=some all →
    PRL objs γ w la va→PRL objs γ w lb vb→PRL objs γ w lc vc→PRL objs γ w us all:=by
  intro sg
  induction sg with
  | nil =>
    intro la lb lc us va vb vc all h1 h2 p1 p2 p3
    cases la<;>cases lb<;>cases lc<;>simp[weave] at h1
    subst h1;simp only[PRL] at p1 p2 p3;subst p1;subst p2;subst p3;simp[weave] at h2;subst h2;rfl
  | cons n sg ih =>
    intro la lb lc us va vb vc all h1 h2 p1 p2 p3
    match n,h1,h2 with
    | 0,h1,h2 =>
      cases la with
      | nil=>simp[weave] at h1
      | cons x la =>
        obtain⟨v,va',rfl,q1,q2⟩:=p1;simp only[weave,Option.bind_eq_some_iff,Option.some.injEq] at h1 h2;obtain⟨l1,k1,rfl⟩:=h1;obtain⟨l2,k2,rfl⟩:=h2;exact⟨v,l2,rfl,q1,ih k1 k2 q2 p2 p3⟩
    | 1,h1,h2 =>
      cases lb with
      | nil=>simp[weave] at h1
      | cons x lb =>
        obtain⟨v,va',rfl,q1,q2⟩:=p2;simp only[weave,Option.bind_eq_some_iff,Option.some.injEq] at h1 h2;obtain⟨l1,k1,rfl⟩:=h1;obtain⟨l2,k2,rfl⟩:=h2;exact⟨v,l2,rfl,q1,ih k1 k2 p1 q2 p3⟩
    | 2,h1,h2 =>
      cases lc with
      | nil=>simp[weave] at h1
      | cons x lc =>
        obtain⟨v,va',rfl,q1,q2⟩:=p3;simp only[weave,Option.bind_eq_some_iff,Option.some.injEq] at h1 h2;obtain⟨l1,k1,rfl⟩:=h1;obtain⟨l2,k2,rfl⟩:=h2;exact⟨v,l2,rfl,q1,ih k1 k2 p1 p2 q2⟩
    | n+3,h1,h2 =>
      simp only[weave,Option.bind_eq_some_iff,Option.some.injEq] at h1 h2;obtain⟨l1,k1,rfl⟩:=h1;obtain⟨l2,k2,rfl⟩:=h2;exact⟨_,l2,rfl,⟨trivial,[],rfl,rfl⟩,ih k1 k2 p1 p2 p3⟩
theorem weave_len {α:Type} {f:Nat→α}:∀ {sg:List Nat} {la lb lc us:List α},weave f sg la lb lc=some us→us.length=sg.length:=by
  intro sg
  induction sg with
  | nil =>
    intro la lb lc us h1
    cases la<;>cases lb<;>cases lc<;>simp[weave] at h1
    subst h1;rfl
  | cons n sg ih =>
    intro la lb lc us h1
    match n,h1 with
    | 0,h1 =>
      cases la with
      | nil=>simp[weave] at h1
      | cons x la =>
        simp only[weave,Option.bind_eq_some_iff,Option.some.injEq] at h1;obtain⟨l1,k1,rfl⟩:=h1;simp[ih k1]
    | 1,h1 =>
      cases lb with
      | nil=>simp[weave] at h1
      | cons x la =>
        simp only[weave,Option.bind_eq_some_iff,Option.some.injEq] at h1;obtain⟨l1,k1,rfl⟩:=h1;simp[ih k1]
    | 2,h1 =>
      cases lc with
      | nil=>simp[weave] at h1
      | cons x la =>
        simp only[weave,Option.bind_eq_some_iff,Option.some.injEq] at h1;obtain⟨l1,k1,rfl⟩:=h1;simp[ih k1]
    | n+3,h1 =>
      simp only[weave,Option.bind_eq_some_iff,Option.some.injEq] at h1;obtain⟨l1,k1,rfl⟩:=h1;simp[ih k1]
theorem cc_spec2 {w:World} {S:Nat→Prop} {f r:Ty} {x1:D f} {x2:D r} {M1 M2:List Nat} {c1 c2:List Value} (h3:Rep w S f x1 M1 c1) (h4:Rep w S r x2 M2 c2) (n:Nat) :
    ∃g1 g2:List (Value×Option Nat),g1.length=(cc f x1 n).2.length∧M1=g1.flatMap (fun g=>g.2.toList)∧(g1++g2).length=(cc (.st f r) (x1,x2) n).2.length∧M1++M2=(g1++g2).flatMap (fun g=>g.2.toList) ∧
    ∀(objs:List OB) (γ:Gh),(∀k,S k→Imm objs γ w k)→(∀j g,(g1++g2)[j]?=some g→γ (n+j)=g)→n+(g1++g2).length≤objs.length →
      VRL objs γ w (cc (.st f r) (x1,x2) n).1 (c1++c2)∧(∀(j:Nat) ob g,(cc (.st f r) (x1,x2) n).2[j]?=some ob→(g1++g2)[j]?=some g→ObR objs γ w ob g∧mutOb ob=true):=by
  obtain⟨g1,l1,m1,p1⟩:=qbC f h3 n;obtain⟨g2,l2,m2,p2⟩:=qbC r h4 (n+(cc f x1 n).2.length);refine⟨g1,g2,l1,m1,by simp[cc,l1,l2],by simp[m1,m2],fun objs γ hS hg hn=>?_⟩;rw[List.length_append] at hn
  obtain⟨a1,b1⟩:=p1 objs γ hS (fun j g hj=>hg j g (by
    rw[List.getElem?_append_left (List.getElem?_eq_some_iff.1 hj).1];exact hj)) (by omega)
  obtain⟨a2,b2⟩:=p2 objs γ hS (fun j g hj=>by
    have:=hg (g1.length+j) g (by rw[List.getElem?_append_right (by omega)];simpa using hj);rw[←l1,Nat.add_assoc]
    exact this) (by omega)
  refine⟨a1.append a2,fun j ob g ho hj=>?_⟩;simp only[cc] at ho;by_cases hlt:j<g1.length
  · rw[List.getElem?_append_left (by omega)] at ho;rw[List.getElem?_append_left hlt] at hj;exact b1 j ob g ho hj
  · rw[List.getElem?_append_right (by omega)] at ho;rw[List.getElem?_append_right (by omega)] at hj;exact b2 (j-g1.length) ob g (by rw[l1];exact ho) hj
theorem qdC (hE:EnvOK P env) (hm:P.follows .mixedOrders=true) {f:FuncId} {fn:Func} (hf:P.funcs[f]?=some fn) (c:Goc) (ann:Ann)
    (hok:(fn.body.isSome&&(Nat.ble c.sg.length fn.ntmps&&(c.ps.all Ty.pure&&(topTy c.tp&&(c.one || !Nat.beq c.res.length 1)))))=true) (hwf:c.one=false→c.ρ=stOf c.res)
    (h:∀x,c.φ x=denGO P env ann fn c.tp c.mv c.ps c.sg c.one c.res c.ρ x):GocOK P f c:=by
  simp only[Bool.and_eq_true] at hok;obtain⟨hbody,hn,hpure,htop,hone⟩:=hok;have hn:=Nat.le_of_ble_eq_true hn;refine⟨hpure,htop,hwf,fun w S Mt Mm va vb args all x r hS hTab hMnd hrept hrepm hargs hwv hr=>?_⟩;obtain⟨body,hb⟩:=Option.isSome_iff_exists.1 hbody
  have hbo:Eng.bodyOf fn=body:=by simp[Eng.bodyOf,hb]
  rw[h x] at hr;unfold denGO at hr;rw[hbo] at hr;obtain⟨us,hus,hr⟩:=Option.bind_eq_some_iff.1 hr;have hrep:Rep w S (.st c.tp c.mv) (x.1,x.2.1) (Mt++Mm) (va++vb):=⟨_,_,_,_,rfl,rfl,hrept,hrepm⟩;have hMlt:=qis _ hrep;obtain⟨gs1,gs2,hg1l,hg1M,hgl,hgM,hgp⟩:=cc_spec2 hrept hrepm 0;obtain⟨gs,hgse⟩:∃gs,gs1++gs2=gs:=⟨_,rfl⟩;rw[hgse] at hgl hgM hgp;obtain⟨M,hM⟩:∃M,Mt++Mm=M:=⟨_,rfl⟩;obtain⟨q,hq⟩:∃q,cc (.st c.tp c.mv) (x.1,x.2.1) 0=q:=⟨_,rfl⟩;rw[hq] at hgl hgp hr hus;rw[hM] at hS hMnd hMlt hgM
  let γ:Gh:=⟨fun o=>(gs[o]?).getD (undef,none),fun k=>S k∨w.heap.size≤k∨k∈M⟩
  have hγ:∀j g,gs[j]?=some g→γ (0+j)=g:=fun j g hj=>by
    rw[Nat.zero_add];show(gs[j]?).getD (undef,none)=g;rw[hj];rfl
  have hγ':∀j g,gs[j]?=some g→γ j=g:=fun j g hj=>by have:=hγ j g hj;rwa [Nat.zero_add] at this
  have hblocks:∀o k,o<q.2.length→(γ o).2=some k→k∈M:=fun o k ho hk=>by
    have hj:o<gs.length:=by rw[hgl];exact ho
    rw[hγ' o _ (List.getElem?_eq_getElem hj)] at hk;rw[hgM];exact List.mem_flatMap.2 ⟨_,List.getElem_mem hj,by simp[hk]⟩
  have hSI:∀k,S k→Imm q.2 γ w k:=fun k hk=>⟨(hS k hk).1,.inl hk,fun o hm hb'=>(hS k hk).2 (hblocks o k hm.lt hb')⟩;obtain⟨hv1,hv2⟩:=hgp q.2 γ hSI hγ (by simp[hgl]);have hor:ORel ⟨w,M⟩ q.2 γ w:=by
    refine⟨fun o ob ho=>?_,fun o o' k h1 h2 hb1 hb2=>?_,fun o k hm hk => .inr (hblocks o k hm.lt hk),fun o k ho hk=>hMlt k (hblocks o k ho hk),Chg.refl _ _,fun o i e xs k ho hk=>?_,fun k hk=>?_,hTab.mono hSI (fun _ _=>rfl)⟩
    · have hj:o<gs.length:=by rw[hgl];exact qu ho
      have:=(hv2 o ob _ ho (List.getElem?_eq_getElem hj)).1;rw[hγ' o _ (List.getElem?_eq_getElem hj)];exact this
    · have hj1:o<gs.length:=by rw[hgl];exact h1.lt
      have hj2:o'<gs.length:=by rw[hgl];exact h2.lt
      have e1:=List.getElem?_eq_getElem hj1;have e2:=List.getElem?_eq_getElem hj2;rw[hγ' _ _ e1] at hb1;rw[hγ' _ _ e2] at hb2;exact qhc (hgM▸hMnd) e1 e2 hb1 hb2
    · have hj:o<gs.length:=by rw[hgl];exact qu ho
      cases (hv2 o _ _ ho (List.getElem?_eq_getElem hj)).2
    · rcases hk with hk | hk
      · exact .inr (.inl hk)
      · exact .inr (.inr hk)
  have hla:va.length=c.tp.size:=Rep.length c.tp hrept;have hv1a:=hv1.take c.tp.size;rw[List.take_left' hla] at hv1a;have hv1b:=hv1.drop c.tp.size;rw[List.drop_left' hla] at hv1b;have hv:PRL q.2 γ w us all:=qi8 hus hwv (qfM hv1a) (qfM hv1b) (qdk hSI hargs);have r00:Rel ⟨w,M⟩ ⟨0,[],q.2,0,0,0,[]⟩ γ { tmps:=#[],defers:=[] } w:=⟨rfl,rfl,fun t tg pv h=>by simp[get] at h,fun t tg pv h=>by simp[get] at h,fun t tg pv h=>by simp[get] at h,fun x hx=>(by cases hx),hor⟩;have r0:=qer (n:=fn.ntmps) r00 hv (by rw[weave_len hus];exact hn);obtain⟨la,hla2⟩:∃la,q.1.take c.tp.size=la:=⟨_,rfl⟩;rw[hla2] at hr hv1a
  have hlal:la.length=c.tp.size:=by rw[←hv1a.length];exact hla
  have hlast:∀σ' γ' a' w',retGO P fn c.tp la c.one c.res c.ρ σ'=some r→Rel ⟨w,M⟩ σ' γ' a' w'→Step ⟨fn.ntmps,qaK 0 us,q.2,0,0,0,[]⟩ γ w σ' γ' w' →
      a'.defers=[]∧∃v,(results fn a'.tmps).run P w' = .ok v w'∧∃v2,Ending.returned v = .returned v2∧Chg M w w'∧GoR w w' S Mt M va c r v2:=by
    intro σ' γ' a' w' hk r' s';simp only[retGO,Option.bind_eq_some_iff] at hk;obtain⟨vs,h1,cs1,h2,h3⟩:=hk;obtain⟨vals,h4,h5,h6⟩:=qb6 (P:=P) r' h1;refine⟨r'.defers,_,qc2 h5 h6,_,rfl,r'.o.chg,?_⟩;obtain⟨cells,h7,h8,h9⟩:=qb4 rfl h2 h4;have hva':VRL σ'.objs γ' w' la va:=VRL.keep s'.keep hv1a.below hv1a;simp only[retD,chk_some,Bool.and_eq_true,List.all_eq_true,Bool.not_eq_true'] at h3;obtain⟨⟨hnd,hdis⟩,h10⟩:=h3;simp only[toD,Option.bind_eq_some_iff] at h10;obtain⟨r1,ht1,r2,ht2,hrr⟩:=h10;have hrr:(r1,r2)=r:=Option.some.inj hrr;subst hrr;rw[List.take_left' hlal] at ht1;rw[List.drop_left' hlal] at ht2;simp only[idsO,idsD,List.take_left' hlal,List.drop_left' hlal] at hnd hdis;have hmut1:=(qV (S:=fun _=>True) r'.o (fun _ _=>trivial) c.tp ht1 hva' (fun _ _ _ _=>trivial)).2
    have hmut2:=(qV (S:=fun _=>True) r'.o (fun _ _=>trivial) c.ρ ht2 h7 (fun _ _ _ _=>trivial)).2;obtain⟨ids,hids⟩:∃ids,idsO σ'.objs c.tp la++idsO σ'.objs c.ρ cs1=ids:=⟨_,rfl⟩;rw[hids] at hnd hdis;have hmut:∀o∈ids,Mut σ'.objs o:=fun o ho=>by
      rw[←hids] at ho;exact(List.mem_append.1 ho).elim (hmut1 o) (hmut2 o)
    have hbeq:blocks γ' (idsO σ'.objs c.tp la)++blocks γ' (idsO σ'.objs c.ρ cs1)=blocks γ' ids:=by rw[←hids];simp[blocks]
    have hSeq:γ'.S=γ.S:=s'.keep.s;have hMmem:∀k∈blocks γ' ids,∃o∈ids,(γ' o).2=some k:=fun k hk=>by
      obtain⟨o,ho,hb'⟩:=List.mem_flatMap.1 hk;exact⟨o,ho,by simpa using hb'⟩
    have himm:∀k,Imm σ'.objs γ' w' k→k<w'.heap.size∧(S k∨w.heap.size≤k∨k∈M)∧k∉blocks γ' ids:=fun k hk=>by
      refine⟨hk.lt,by have:=hk.s;rw[hSeq] at this;exact this,fun hm=>?_⟩;obtain⟨o,ho,hb2⟩:=hMmem k hm;exact hk.own o (hmut o ho) hb2
    have hdd:∀(τ:Ty) (l:List Cv) (y:D τ),toD σ'.objs τ l=some y→(∀o∈idsD σ'.objs τ l,memN o ids=false)→∀o∈idsD σ'.objs τ l,∀k,(γ' o).2=some k→k<w'.heap.size∧(S k∨w.heap.size≤k∨k∈M)∧k∉blocks γ' ids:=fun τ l y hy hdj o ho k hk=>by
      obtain⟨i,e,xs,fz,hobd⟩:=qcW τ hy ho
      cases fz with
      | true=>exact himm k (r'.o.frz o i e xs k hobd hk)
      | false =>
        have hmo:Mut σ'.objs o:=⟨_,hobd,rfl⟩;refine⟨r'.o.lt o k (qu hobd) hk,?_,fun hm=>?_⟩
        · rcases r'.o.own o k hmo hk with h11 | h11
          · exact .inr (.inl h11)
          · exact .inr (.inr h11)
        · obtain⟨o',ho',hb2⟩:=hMmem k hm;have e1:=r'.o.inj o o' k hmo (hmut o' ho') hk hb2;subst e1;have:=hdj o ho;rw[memN_spec.2 ho'] at this;cases this
    have hrep1:=(qV (S:=fun k=>k<w'.heap.size∧(S k∨w.heap.size≤k∨k∈M)∧k∉blocks γ' ids) r'.o himm c.tp ht1 hva' (hdd c.tp la r1 ht1 fun o ho=>hdis o (List.mem_append_left _ ho))).1;have hrep2:=(qV (S:=fun k=>k<w'.heap.size∧(S k∨w.heap.size≤k∨k∈M)∧k∉blocks γ' ids) r'.o himm c.ρ ht2 h7 (hdd c.ρ cs1 r2 ht2 fun o ho=>hdis o (List.mem_append_right _ ho))).1;rw[←hbeq] at hrep1 hrep2;refine⟨_,_,cells,?_,fun k hk=>?_,fun i e he=>?_,hrep1,hrep2,?_⟩
    · rw[hbeq];exact qaP r'.o (qaT hnd) hmut
    · rw[hbeq] at hk;obtain⟨o,ho,hb2⟩:=hMmem k hk;rcases r'.o.own o k (hmut o ho) hb2 with h11 | h11
      · exact .inr h11
      · exact .inl h11
    · have hl0:la=[.os 0]∧∃g,gs[0]?=some g∧g.2.toList=Mt:=by
        rw[←hla2,←hq];obtain⟨tp,mv,ps,sg,one,res,ρ,φ⟩:=c;simp only at he;subst he;refine⟨rfl,?_⟩;obtain⟨g,rfl⟩:∃g,gs1=[g]:=List.length_eq_one_iff.1 hg1l;refine⟨g,by rw[←hgse];rfl,?_⟩;rw[hg1M];simp
      obtain⟨e1,g,hg0,hg1⟩:=hl0;rw[e1,he];simp only[idsO,cv1,Option.elim_some,osId,blocks,List.flatMap_cons,List.flatMap_nil,List.append_nil];rw[s'.keep.gh 0 (by rw[←hgl];exact qu hg0),hγ' 0 g hg0];exact hg1
    · unfold resV
      cases hc1:c.one with
      | true =>
        rw[hc1] at h8 h9;simp only[qeo,cond_true,tupV] at h8;rw[←h8]
        have hl:cells.length=c.ρ.size:=by rw[Rep.length c.ρ hrep2]
        rw[←hl,List.take_length];rfl
      | false =>
        rw[hc1] at h8 h9 hone;simp only[qeo,cond_false] at h8 h9;simp only[Bool.false_or,Bool.not_eq_true'] at hone;rw[h8]
        have hne:vals.length≠1:=fun e=>by rw[←h9,e] at hone;cases hone
        match vals,hne with
        | [],_=>rfl
        | [_],hne=>exact absurd rfl hne
        | _::_::_,_=>rfl
  rw[hM];have:=(qf7 hE hm 10000 (D (.st c.tp c.ρ))).1 ann body _ _ r hr ⟨w,M⟩ γ _ w (bodyPost P fn fun e w'=>∃v,e = .returned v∧Chg M w w'∧GoR w w' S Mt M va c r v) r0 ⟨rfl,rfl⟩
    ⟨fun σ' γ' a' w' hk r' _ s'=>hlast σ' γ' a' w' hk r' s',fun i σ' γ' a' w' hk=>(by cases hk),fun σ' γ' a' w' hk r' _ s'=>hlast σ' γ' a' w' hk r' s'⟩
  have hcalls:=calls_of_wp (args:=all.toArray) hf hb (by simpa using this);exact hcalls
theorem go_fix {f:FuncId} {tp mv:Ty} {ps:List Ty} {sg:List Nat} {one:Bool} {rs:List Ty} {ρ:Ty} {G:(DL (tp::mv::ps)→Option (D (.st tp ρ)))→DL (tp::mv::ps)→Option (D (.st tp ρ))} (hpure:ps.all Ty.pure=true) (htop:topTy tp=true) (hwf:one=false→ρ=stOf rs)
    (h:∀φ,GocOK P f ⟨tp,mv,ps,sg,one,rs,ρ,φ⟩→GocOK P f ⟨tp,mv,ps,sg,one,rs,ρ,G φ⟩):GocOK P f ⟨tp,mv,ps,sg,one,rs,ρ,fixW G⟩:=by
  have key:∀n,GocOK P f ⟨tp,mv,ps,sg,one,rs,ρ,fixN G n⟩:=by
    intro n
    induction n with
    | zero=>exact⟨hpure,htop,hwf,fun w S Mt Mm va vb args all x r _ _ _ _ _ _ _ hr=>by simp[fixN] at hr⟩
    | succ n ih=>exact h _ ih
  exact⟨hpure,htop,hwf,fun w S Mt Mm va vb args all x r h1 h2 h3 h4 h5 h6 h7 hr=>by
    obtain⟨n,hn⟩:=fixW_some hr
    exact(key n).calls w S Mt Mm va vb args all x r h1 h2 h3 h4 h5 h6 h7 hn⟩
end
end Go.Den
namespace Go.Den
instance ctx0:Ctx:=⟨[],[],false,[]⟩
end Go.Den
namespace Go.Proofs.Ytcifaoaepbidoaa
open Go.Den
set_option linter.unusedVariables false
set_option maxRecDepth 100000
noncomputable section
def qcB (x:Int):Option (Bool) :=
  some (x !=x)
def qW (x:Int):Bool :=
  (x !=x)
theorem qfS (x:Int):qcB x=some (qW x):=by
  unfold qcB qW
  first | rfl | simp only[qf3]
def qbS (x:Int) (y:Int):Option (Int) :=
  bif (qW x) then(bif (qW y) then some (0:Int)
  else some (-1:Int))
  else bif (qW y) then some (1:Int)
  else bif (decide (x<y)) then some (-1:Int)
  else bif (decide (x>y)) then some (1:Int)
  else some (0:Int)
def qE (x:Int) (y:Int):Int :=
  bif (qW x) then(bif (qW y) then(0:Int)
  else(-1:Int))
  else bif (qW y) then(1:Int)
  else bif (decide (x<y)) then(-1:Int)
  else bif (decide (x>y)) then(1:Int)
  else(0:Int)
theorem qeW (x:Int) (y:Int):qbS x y=some (qE x y):=by
  unfold qbS qE
  first | rfl | simp only[qf3]
def qbl (vals:List Int) (x1:Zv18×(Unit)):Option (Zv15 ⊕ (Zv17 ⊕ Int)) :=
  bif (decide (x1.1.1<((vals.length:Nat):Int))) then(Option.bind (at? vals x1.1.1) fun d2 =>
  bif (d2 !=0) then some (Sum.inr (Sum.inr d2))
  else some (Sum.inl (((w64 (x1.1.1+1)),()),())))
  else some (Sum.inr (Sum.inl ((),())))
def qdp (vals:List Int):Option (Int) :=
  Option.bind (α:=Zv17 ⊕ Int) (iterW (qbl vals) (((0:Int),()),())) (Sum.elim (fun x3 =>
  some (0:Int)) some)
abbrev Mv:=Int×Int×Int×Unit
end
noncomputable section
def qcT (n:Int) (a:Int) (b:Int):Option (Bool) :=
  some (((((decide (a≥0))&&(decide (a<n)))&&(decide (b≥0)))&&(decide (b<n)))&&(a !=b))
def qR (n:Int) (a:Int) (b:Int):Bool :=
  (((((decide (a≥0))&&(decide (a<n)))&&(decide (b≥0)))&&(decide (b<n)))&&(a !=b))
theorem qgh (n:Int) (a:Int) (b:Int):qcT n a b=some (qR n a b):=by
  unfold qcT qR
  first | rfl | simp only[qf3]
def qbf (games:List Zv14) (n:Int) (x1:Zv18×(Unit)):Option (Zv15 ⊕ (Zv17 ⊕ Int)) :=
  bif (decide (x1.1.1<((games.length:Nat):Int))) then(Option.bind (at? games x1.1.1) fun d2 =>
  bif (!(qR n d2.1 d2.2.1)) then some (Sum.inr (Sum.inr (3:Int)))
  else bif ((decide (d2.2.2.1<0))||(decide (d2.2.2.1>2))) then some (Sum.inr (Sum.inr (4:Int)))
  else some (Sum.inl (((w64 (x1.1.1+1)),()),())))
  else some (Sum.inr (Sum.inl ((),())))
def qG (n:Int) (games:List Zv14):Option (Int) :=
  bif (((decide (n<1))||(decide (n>32)))||(decide (((games.length:Nat):Int)>600))) then some (2:Int)
  else Option.bind (α:=Zv17 ⊕ Int) (iterW (qbf games n) (((0:Int),()),())) (Sum.elim (fun x3 =>
  some (0:Int)) some)
def qa2 (games:List Zv14) (x1:Zv18×(Zv19×Unit)):Option ((Zv18×(Zv19×Unit)) ⊕ ((Unit)×(Zv19×Unit))) :=
  bif (decide (x1.1.1<((games.length:Nat):Int))) then(Option.bind (at? games x1.1.1) fun d2 =>
  req (inb d2.1 x1.2.1.length) (req (inb d2.1 x1.2.1.length) (Option.bind (some (getD' x1.2.1 ((d2.1).toNat) (0:Int))) fun e3 =>
  Option.bind (some (x1.2.1.set ((d2.1).toNat) (w64 ((getD' x1.2.1 ((d2.1).toNat) (0:Int))+d2.2.2.1)))) fun y4 =>
  req (inb d2.2.1 y4.length) (req (inb d2.2.1 y4.length) (Option.bind (some (getD' y4 ((d2.2.1).toNat) (0:Int))) fun e5 =>
  Option.bind (some (y4.set ((d2.2.1).toNat) (w64 ((getD' y4 ((d2.2.1).toNat) (0:Int))+(w64 ((2:Int)-d2.2.2.1)))))) fun y6 =>
  some (Sum.inl (((w64 (x1.1.1+1)),()),(y6,()))))))))
  else some (Sum.inr ((),(x1.2.1,())))
def qaG (n:Int) (games:List Zv14):Option Zv19 :=
  req (decide (0≤n)&&(n==n&&room (n).toNat 8)) (Option.bind (iterW (qa2 games) (((0:Int),()),((List.replicate (n).toNat (0:Int)),()))) fun x7 =>
  some x7.2.1)
def qaV (games:List Zv14) (player:Int) (r2:List Int) (x3:Zv18×Zv10):Option (Zv9 ⊕ ((Unit)×Zv10)) :=
  bif (decide (x3.1.1<((games.length:Nat):Int))) then(Option.bind (at? games x3.1.1) fun d4 =>
  Option.bind (α:=(Zv16×Zv10) ⊕ (Zv9 ⊕ ((Unit)×Zv10))) (bif (player==d4.1) then some (Sum.inl ((d4.2.2.1,d4.2.1,()),(x3.2.1,())))
  else bif (player==d4.2.1) then some (Sum.inl (((w64 ((2:Int)-d4.2.2.1)),d4.1,()),((x3.2.1.1,(x3.2.1.2.1,(x3.2.1.2.2.1,((w64 (x3.2.1.2.2.2.1+1)),())))),())))
  else some (Sum.inr (Sum.inl (((w64 (x3.1.1+1)),()),(x3.2.1,()))))) (Sum.elim (fun x5 =>
  req (inb x5.1.2.1 r2.length) (req (inb x5.1.2.1 r2.length) (Option.bind (bif (x5.1.1==2) then some ((),(((w64 (x5.2.1.1+(getD' r2 ((x5.1.2.1).toNat) (0:Int)))),((w64 (x5.2.1.2.1+(w64 (x5.1.1*(getD' r2 ((x5.1.2.1).toNat) (0:Int)))))),((w64 (x5.2.1.2.2.1+1)),x5.2.1.2.2.2))),()))
  else some ((),(((w64 (x5.2.1.1+(getD' r2 ((x5.1.2.1).toNat) (0:Int)))),((w64 (x5.2.1.2.1+(w64 (x5.1.1*(getD' r2 ((x5.1.2.1).toNat) (0:Int)))))),x5.2.1.2.2)),()))) fun x6 =>
  some (Sum.inl (((w64 (x3.1.1+1)),()),(x6.2.1,())))))) some))
  else some (Sum.inr ((),(x3.2.1,())))
def qa9 (n:Int) (games:List Zv14) (player:Int):Option Zv11 :=
  Option.bind (qaG n games) fun r2 =>
  Option.bind (iterW (qaV games player r2) (((0:Int),()),(((0:Int),((0:Int),((0:Int),((0:Int),())))),()))) fun x7 =>
  some x7.2.1
def qap (s1:List Int) (s2:List Int) (x1:Zv18×(Unit)):Option (Zv15 ⊕ (Zv17 ⊕ Int)) :=
  bif (decide (x1.1.1<((s1.length:Nat):Int))) then(Option.bind (at? s1 x1.1.1) fun d2 =>
  bif (decide (x1.1.1≥((s2.length:Nat):Int))) then some (Sum.inr (Sum.inr (1:Int)))
  else Option.bind (at? s2 x1.1.1) fun d3 =>
  bif ((qE d2 d3)!=0) then some (Sum.inr (Sum.inr (qE d2 d3)))
  else some (Sum.inl (((w64 (x1.1.1+1)),()),())))
  else some (Sum.inr (Sum.inl ((),())))
def qau (s1:List Int) (s2:List Int):Option (Int) :=
  Option.bind (α:=Zv17 ⊕ Int) (iterW (qap s1 s2) (((0:Int),()),())) (Sum.elim (fun x4 =>
  bif (decide (((s1.length:Nat):Int)<((s2.length:Nat):Int))) then some (-1:Int)
  else some (0:Int)) some)
def qA (a:Int×Int×Zv11×Int×Int×Unit) (b:Int×Int×Zv11×Int×Int×Unit):Option (Int) :=
  agree (Option.bind (qau ([b.2.2.1.1,b.2.2.1.2.1,b.2.2.1.2.2.1,b.2.2.1.2.2.2.1]:List Int) ([a.2.2.1.1,a.2.2.1.2.1,a.2.2.1.2.2.1,a.2.2.1.2.2.2.1]:List Int)) fun r5 =>
  Option.bind (qdp ([(qE b.2.1 a.2.1),r5])) fun r6 =>
  some r6) (Option.bind (qau ([b.2.2.1.1,b.2.2.1.2.1,b.2.2.1.2.2.1,b.2.2.1.2.2.2.1]:List Int) ([a.2.2.1.1,a.2.2.1.2.1,a.2.2.1.2.2.1,a.2.2.1.2.2.2.1]:List Int)) fun r7 =>
  Option.bind (qdp ([(qE b.2.1 a.2.1),r7])) fun r8 =>
  some r8)
def qm (a:Int) (x2:Zv18×Zv6):Option (Zv3 ⊕ Zv4) :=
  req (imp (decide (x2.1.1>a)) (inb x2.1.1 x2.2.1.length)) (req (imp (decide (x2.1.1>a)) (inb (w64 (x2.1.1-1)) x2.2.1.length)) (Option.bind (gopt (decide (x2.1.1>a)) (0:Int) (qA (getD' x2.2.1 ((x2.1.1).toNat) ((0:Int),((0:Int),(((0:Int),((0:Int),((0:Int),((0:Int),())))),((0:Int),((0:Int),())))))) (getD' x2.2.1 (((w64 (x2.1.1-1))).toNat) ((0:Int),((0:Int),(((0:Int),((0:Int),((0:Int),((0:Int),())))),((0:Int),((0:Int),())))))))) fun r3 =>
  bif ((decide (x2.1.1>a))&&(decide (r3<0))) then(req (inb (w64 (x2.1.1-1)) x2.2.1.length) (req (inb x2.1.1 x2.2.1.length) (req (inb x2.1.1 x2.2.1.length) (Option.bind (some (getD' x2.2.1 ((x2.1.1).toNat) ((0:Int),((0:Int),(((0:Int),((0:Int),((0:Int),((0:Int),())))),((0:Int),((0:Int),()))))))) fun e4 =>
  Option.bind (some (x2.2.1.set ((x2.1.1).toNat) (getD' x2.2.1 (((w64 (x2.1.1-1))).toNat) ((0:Int),((0:Int),(((0:Int),((0:Int),((0:Int),((0:Int),())))),((0:Int),((0:Int),())))))))) fun y5 =>
  req (inb (w64 (x2.1.1-1)) y5.length) (Option.bind (some (getD' y5 (((w64 (x2.1.1-1))).toNat) ((0:Int),((0:Int),(((0:Int),((0:Int),((0:Int),((0:Int),())))),((0:Int),((0:Int),()))))))) fun e6 =>
  Option.bind (some (y5.set (((w64 (x2.1.1-1))).toNat) (getD' x2.2.1 ((x2.1.1).toNat) ((0:Int),((0:Int),(((0:Int),((0:Int),((0:Int),((0:Int),())))),((0:Int),((0:Int),())))))))) fun y7 =>
  some (Sum.inl (((w64 (x2.1.1-1)),()),(y7,()))))))))
  else some (Sum.inr ((),(x2.2.1,())))))
def ql (b:Int) (a:Int) (x1:Zv18×Zv6):Option (Zv3 ⊕ Zv4) :=
  bif (decide (x1.1.1<b)) then(Option.bind (Option.bind (iterW (qm a) ((x1.1.1,()),(x1.2.1,()))) fun x8 =>
  some ((),(x8.2.1,()))) fun x9 =>
  some (Sum.inl (((w64 (x1.1.1+1)),()),(x9.2.1,()))))
  else some (Sum.inr ((),(x1.2.1,())))
def qg (data:List Zv8) (a:Int) (b:Int):Option Zv6 :=
  Option.bind (iterW (ql b a) (((w64 (a+1)),()),(data,()))) fun x10 =>
  some (x10.2.1,())
def qp (n:Int) (b:Int) (a:Int) (x1:Zv18×Zv6):Option (Zv3 ⊕ Zv4) :=
  bif (decide (x1.1.1<n)) then(req (inb (w64 (b+x1.1.1)) x1.2.1.length) (req (inb (w64 (a+x1.1.1)) x1.2.1.length) (req (inb (w64 (a+x1.1.1)) x1.2.1.length) (Option.bind (some (getD' x1.2.1 (((w64 (a+x1.1.1))).toNat) ((0:Int),((0:Int),(((0:Int),((0:Int),((0:Int),((0:Int),())))),((0:Int),((0:Int),()))))))) fun e2 =>
  Option.bind (some (x1.2.1.set (((w64 (a+x1.1.1))).toNat) (getD' x1.2.1 (((w64 (b+x1.1.1))).toNat) ((0:Int),((0:Int),(((0:Int),((0:Int),((0:Int),((0:Int),())))),((0:Int),((0:Int),())))))))) fun y3 =>
  req (inb (w64 (b+x1.1.1)) y3.length) (Option.bind (some (getD' y3 (((w64 (b+x1.1.1))).toNat) ((0:Int),((0:Int),(((0:Int),((0:Int),((0:Int),((0:Int),())))),((0:Int),((0:Int),()))))))) fun e4 =>
  Option.bind (some (y3.set (((w64 (b+x1.1.1))).toNat) (getD' x1.2.1 (((w64 (a+x1.1.1))).toNat) ((0:Int),((0:Int),(((0:Int),((0:Int),((0:Int),((0:Int),())))),((0:Int),((0:Int),())))))))) fun y5 =>
  some (Sum.inl (((w64 (x1.1.1+1)),()),(y5,()))))))))
  else some (Sum.inr ((),(x1.2.1,())))
def qf (data:List Zv8) (a:Int) (b:Int) (n:Int):Option Zv6 :=
  Option.bind (iterW (qp n b a) (((0:Int),()),(data,()))) fun x6 =>
  some (x6.2.1,())
def qD (m:Int) (x2:Zv16×Zv6):Option (Zv2 ⊕ Zv3) :=
  bif (x2.1.1 !=x2.1.2.1) then(Option.bind (bif (decide (x2.1.1>x2.1.2.1)) then(Option.bind (qf x2.2.1 (w64 (m-x2.1.1)) m x2.1.2.1) fun r3 =>
  some (((w64 (x2.1.1-x2.1.2.1)),x2.1.2.1,()),(r3.1,())))
  else Option.bind (qf x2.2.1 (w64 (m-x2.1.1)) (w64 ((w64 (m+x2.1.2.1))-x2.1.1)) x2.1.1) fun r4 =>
  some ((x2.1.1,(w64 (x2.1.2.1-x2.1.1)),()),(r4.1,()))) fun x5 =>
  some (Sum.inl ((x5.1.1,x5.1.2.1,()),(x5.2.1,()))))
  else some (Sum.inr ((x2.1.1,()),(x2.2.1,())))
def qq (data:List Zv8) (a:Int) (m:Int) (b:Int):Option Zv6 :=
  Option.bind (iterW (qD m) (((w64 (m-a)),(w64 (b-m)),()),(data,()))) fun x6 =>
  Option.bind (qf x6.2.1 (w64 (m-x6.1.1)) m x6.1.1) fun r7 =>
  some (r7.1,())
def qh (data:List Zv8) (a:Int) (x1:Zv16×(Unit)):Option (Zv12 ⊕ Zv15) :=
  bif (decide (x1.1.1<x1.1.2.1)) then(req (inb (w64 (shK .shr .u64 (wu64 (w64 (x1.1.1+x1.1.2.1))) (1:Int))) data.length) (req (inb a data.length) (Option.bind (qA (getD' data (((w64 (shK .shr .u64 (wu64 (w64 (x1.1.1+x1.1.2.1))) (1:Int)))).toNat) ((0:Int),((0:Int),(((0:Int),((0:Int),((0:Int),((0:Int),())))),((0:Int),((0:Int),())))))) (getD' data ((a).toNat) ((0:Int),((0:Int),(((0:Int),((0:Int),((0:Int),((0:Int),())))),((0:Int),((0:Int),()))))))) fun r2 =>
  Option.bind (bif (decide (r2<0)) then some (((w64 ((w64 (shK .shr .u64 (wu64 (w64 (x1.1.1+x1.1.2.1))) (1:Int)))+1)),x1.1.2.1,()),())
  else some ((x1.1.1,(w64 (shK .shr .u64 (wu64 (w64 (x1.1.1+x1.1.2.1))) (1:Int))),()),())) fun x3 =>
  some (Sum.inl ((x3.1.1,x3.1.2.1,()),())))))
  else some (Sum.inr ((x1.1.1,()),()))
def qi (x4:Zv18×(Unit)) (x5:Zv18×Zv6):Option (Zv3 ⊕ Zv4) :=
  bif (decide (x5.1.1<(w64 (x4.1.1-1)))) then(req (inb (w64 (x5.1.1+1)) x5.2.1.length) (req (inb x5.1.1 x5.2.1.length) (req (inb x5.1.1 x5.2.1.length) (Option.bind (some (getD' x5.2.1 ((x5.1.1).toNat) ((0:Int),((0:Int),(((0:Int),((0:Int),((0:Int),((0:Int),())))),((0:Int),((0:Int),()))))))) fun e6 =>
  Option.bind (some (x5.2.1.set ((x5.1.1).toNat) (getD' x5.2.1 (((w64 (x5.1.1+1))).toNat) ((0:Int),((0:Int),(((0:Int),((0:Int),((0:Int),((0:Int),())))),((0:Int),((0:Int),())))))))) fun y7 =>
  req (inb (w64 (x5.1.1+1)) y7.length) (Option.bind (some (getD' y7 (((w64 (x5.1.1+1))).toNat) ((0:Int),((0:Int),(((0:Int),((0:Int),((0:Int),((0:Int),())))),((0:Int),((0:Int),()))))))) fun e8 =>
  Option.bind (some (y7.set (((w64 (x5.1.1+1))).toNat) (getD' x5.2.1 ((x5.1.1).toNat) ((0:Int),((0:Int),(((0:Int),((0:Int),((0:Int),((0:Int),())))),((0:Int),((0:Int),())))))))) fun y9 =>
  some (Sum.inl (((w64 (x5.1.1+1)),()),(y9,()))))))))
  else some (Sum.inr ((),(x5.2.1,())))
def qj (m:Int) (data:List Zv8) (x11:Zv16×(Unit)):Option (Zv12 ⊕ Zv15) :=
  bif (decide (x11.1.1<x11.1.2.1)) then(req (inb m data.length) (req (inb (w64 (shK .shr .u64 (wu64 (w64 (x11.1.1+x11.1.2.1))) (1:Int))) data.length) (Option.bind (qA (getD' data ((m).toNat) ((0:Int),((0:Int),(((0:Int),((0:Int),((0:Int),((0:Int),())))),((0:Int),((0:Int),())))))) (getD' data (((w64 (shK .shr .u64 (wu64 (w64 (x11.1.1+x11.1.2.1))) (1:Int)))).toNat) ((0:Int),((0:Int),(((0:Int),((0:Int),((0:Int),((0:Int),())))),((0:Int),((0:Int),()))))))) fun r12 =>
  Option.bind (bif (!(decide (r12<0))) then some (((w64 ((w64 (shK .shr .u64 (wu64 (w64 (x11.1.1+x11.1.2.1))) (1:Int)))+1)),x11.1.2.1,()),())
  else some ((x11.1.1,(w64 (shK .shr .u64 (wu64 (w64 (x11.1.1+x11.1.2.1))) (1:Int))),()),())) fun x13 =>
  some (Sum.inl ((x13.1.1,x13.1.2.1,()),())))))
  else some (Sum.inr ((x11.1.1,()),()))
def qk (x14:Zv18×(Unit)) (x15:Zv18×Zv6):Option (Zv3 ⊕ Zv4) :=
  bif (decide (x15.1.1>x14.1.1)) then(req (inb (w64 (x15.1.1-1)) x15.2.1.length) (req (inb x15.1.1 x15.2.1.length) (req (inb x15.1.1 x15.2.1.length) (Option.bind (some (getD' x15.2.1 ((x15.1.1).toNat) ((0:Int),((0:Int),(((0:Int),((0:Int),((0:Int),((0:Int),())))),((0:Int),((0:Int),()))))))) fun e16 =>
  Option.bind (some (x15.2.1.set ((x15.1.1).toNat) (getD' x15.2.1 (((w64 (x15.1.1-1))).toNat) ((0:Int),((0:Int),(((0:Int),((0:Int),((0:Int),((0:Int),())))),((0:Int),((0:Int),())))))))) fun y17 =>
  req (inb (w64 (x15.1.1-1)) y17.length) (Option.bind (some (getD' y17 (((w64 (x15.1.1-1))).toNat) ((0:Int),((0:Int),(((0:Int),((0:Int),((0:Int),((0:Int),())))),((0:Int),((0:Int),()))))))) fun e18 =>
  Option.bind (some (y17.set (((w64 (x15.1.1-1))).toNat) (getD' x15.2.1 ((x15.1.1).toNat) ((0:Int),((0:Int),(((0:Int),((0:Int),((0:Int),((0:Int),())))),((0:Int),((0:Int),())))))))) fun y19 =>
  some (Sum.inl (((w64 (x15.1.1-1)),()),(y19,()))))))))
  else some (Sum.inr ((),(x15.2.1,())))
def qr (a:Int) (b:Int) (m:Int) (data:List Zv8) (x22:Zv16×(Unit)):Option (Zv12 ⊕ Zv15) :=
  bif (decide (x22.1.1<x22.1.2.1)) then(req (inb (w64 ((w64 ((w64 ((w64 (shK .shr .u64 (wu64 (w64 (a+b))) (1:Int)))+m))-1))-(w64 (shK .shr .u64 (wu64 (w64 (x22.1.1+x22.1.2.1))) (1:Int))))) data.length) (req (inb (w64 (shK .shr .u64 (wu64 (w64 (x22.1.1+x22.1.2.1))) (1:Int))) data.length) (Option.bind (qA (getD' data (((w64 ((w64 ((w64 ((w64 (shK .shr .u64 (wu64 (w64 (a+b))) (1:Int)))+m))-1))-(w64 (shK .shr .u64 (wu64 (w64 (x22.1.1+x22.1.2.1))) (1:Int)))))).toNat) ((0:Int),((0:Int),(((0:Int),((0:Int),((0:Int),((0:Int),())))),((0:Int),((0:Int),())))))) (getD' data (((w64 (shK .shr .u64 (wu64 (w64 (x22.1.1+x22.1.2.1))) (1:Int)))).toNat) ((0:Int),((0:Int),(((0:Int),((0:Int),((0:Int),((0:Int),())))),((0:Int),((0:Int),()))))))) fun r23 =>
  Option.bind (bif (!(decide (r23<0))) then some (((w64 ((w64 (shK .shr .u64 (wu64 (w64 (x22.1.1+x22.1.2.1))) (1:Int)))+1)),x22.1.2.1,()),())
  else some ((x22.1.1,(w64 (shK .shr .u64 (wu64 (w64 (x22.1.1+x22.1.2.1))) (1:Int))),()),())) fun x24 =>
  some (Sum.inl ((x24.1.1,x24.1.2.1,()),())))))
  else some (Sum.inr ((x22.1.1,()),()))
def qt (self:Zv1→Option Zv6) (data:List Zv8) (a:Int) (m:Int) (b:Int):Option Zv6 :=
  bif ((w64 (m-a))==1) then(Option.bind (iterW (qh data a) ((m,b,()),())) fun x4 =>
  Option.bind (iterW (qi x4) ((a,()),(data,()))) fun x10 =>
  some (x10.2.1,()))
  else bif ((w64 (b-m))==1) then(Option.bind (iterW (qj m data) ((a,m,()),())) fun x14 =>
  Option.bind (iterW (qk x14) ((m,()),(data,()))) fun x20 =>
  some (x20.2.1,()))
  else Option.bind (bif (decide (m>(w64 (shK .shr .u64 (wu64 (w64 (a+b))) (1:Int))))) then some (((w64 ((w64 ((w64 (shK .shr .u64 (wu64 (w64 (a+b))) (1:Int)))+m))-b)),(w64 (shK .shr .u64 (wu64 (w64 (a+b))) (1:Int))),()),())
  else some ((a,m,()),())) fun x21 =>
  Option.bind (iterW (qr a b m data) ((x21.1.1,x21.1.2.1,()),())) fun x25 =>
  Option.bind (bif ((decide (x25.1.1<m))&&(decide (m<(w64 ((w64 ((w64 (shK .shr .u64 (wu64 (w64 (a+b))) (1:Int)))+m))-x25.1.1))))) then(Option.bind (qq data x25.1.1 m (w64 ((w64 ((w64 (shK .shr .u64 (wu64 (w64 (a+b))) (1:Int)))+m))-x25.1.1))) fun r26 =>
  some ((),(r26.1,())))
  else some ((),(data,()))) fun x27 =>
  Option.bind (bif ((decide (a<x25.1.1))&&(decide (x25.1.1<(w64 (shK .shr .u64 (wu64 (w64 (a+b))) (1:Int)))))) then(Option.bind (self (x27.2.1,(),a,x25.1.1,(w64 (shK .shr .u64 (wu64 (w64 (a+b))) (1:Int))),())) fun r28 =>
  some ((),(r28.1,())))
  else some ((),(x27.2.1,()))) fun x29 =>
  Option.bind (bif ((decide ((w64 (shK .shr .u64 (wu64 (w64 (a+b))) (1:Int)))<(w64 ((w64 ((w64 (shK .shr .u64 (wu64 (w64 (a+b))) (1:Int)))+m))-x25.1.1))))&&(decide ((w64 ((w64 ((w64 (shK .shr .u64 (wu64 (w64 (a+b))) (1:Int)))+m))-x25.1.1))<b))) then(Option.bind (self (x29.2.1,(),(w64 (shK .shr .u64 (wu64 (w64 (a+b))) (1:Int))),(w64 ((w64 ((w64 (shK .shr .u64 (wu64 (w64 (a+b))) (1:Int)))+m))-x25.1.1)),b,())) fun r30 =>
  some ((),(r30.1,())))
  else some ((),(x29.2.1,()))) fun x31 =>
  some (x31.2.1,())
def qe (self:Zv1→Option Zv6) (x:Zv7×Unit×Int×Int×Int×Unit):Option Zv6:=qt self x.1 x.2.2.1 x.2.2.2.1 x.2.2.2.2.1
def qw (data:List Zv8) (a:Int) (m:Int) (b:Int):Option Zv6:=fixW qe (data,(),a,m,b,())
def qv (n:Int) (x2:Zv16×Zv6):Option (Zv2 ⊕ Zv3) :=
  bif (decide (x2.1.2.1≤n)) then(Option.bind (qg x2.2.1 x2.1.1 x2.1.2.1) fun r3 =>
  some (Sum.inl ((x2.1.2.1,(w64 (x2.1.2.1+20)),()),(r3.1,()))))
  else some (Sum.inr ((x2.1.1,()),(x2.2.1,())))
def qai (n:Int) (x6:Zv18×Zv6) (x7:Zv16×Zv6):Option (Zv2 ⊕ Zv3) :=
  bif (decide (x7.1.2.1≤n)) then(Option.bind (qw x7.2.1 x7.1.1 (w64 (x7.1.1+x6.1.1)) x7.1.2.1) fun r8 =>
  some (Sum.inl ((x7.1.2.1,(w64 (x7.1.2.1+(w64 ((2:Int)*x6.1.1)))),()),(r8.1,()))))
  else some (Sum.inr ((x7.1.1,()),(x7.2.1,())))
def qn (n:Int) (x6:Zv18×Zv6):Option (Zv3 ⊕ Zv4) :=
  bif (decide (x6.1.1<n)) then(Option.bind (Option.bind (iterW (qai n x6) (((0:Int),(w64 ((2:Int)*x6.1.1)),()),(x6.2.1,()))) fun x9 =>
  Option.bind (bif (decide ((w64 (x9.1.1+x6.1.1))<n)) then(Option.bind (qw x9.2.1 x9.1.1 (w64 (x9.1.1+x6.1.1)) n) fun r10 =>
  some ((),(r10.1,())))
  else some ((),(x9.2.1,()))) fun x11 =>
  some (((w64 (x6.1.1*(2:Int))),()),(x11.2.1,()))) fun x12 =>
  some (Sum.inl ((x12.1.1,()),(x12.2.1,()))))
  else some (Sum.inr ((),(x6.2.1,())))
def qB (data:List Zv8) (n:Int):Option Zv6 :=
  Option.bind (iterW (qv n) (((0:Int),(20:Int),()),(data,()))) fun x4 =>
  Option.bind (qg x4.2.1 x4.1.1 n) fun r5 =>
  Option.bind (iterW (qn n) (((20:Int),()),(r5.1,()))) fun x13 =>
  some (x13.2.1,())
def qbe (r5:List Int) (n:Int) (games:List Zv14) (x6:Zv5×(Unit)):Option ((Zv5×(Unit)) ⊕ (Zv6×(Unit))) :=
  bif (decide (x6.1.2.1<((r5.length:Nat):Int))) then(req (inb x6.1.2.1 r5.length) (Option.bind (qa9 n games x6.1.2.1) fun r7 =>
  req (room (x6.1.1.length+([(x6.1.2.1,((getD' r5 ((x6.1.2.1).toNat) (0:Int)),(r7,((0:Int),((0:Int),())))))]).length) 64) (some (Sum.inl (((x6.1.1++[(x6.1.2.1,((getD' r5 ((x6.1.2.1).toNat) (0:Int)),(r7,((0:Int),((0:Int),())))))]),(w64 (x6.1.2.1+1)),()),())))))
  else some (Sum.inr ((x6.1.1,()),()))
def qaD (y12:List Zv8) (x10:Zv18×Zv6) (x13:Zv18×Zv6):Option (Zv3 ⊕ Zv4) :=
  bif (decide (x13.1.1<((y12.length:Nat):Int))) then(req (inb x13.1.1 x13.2.1.length) (req (inb x10.1.1 x13.2.1.length) (Option.bind (qA (getD' x13.2.1 ((x13.1.1).toNat) ((0:Int),((0:Int),(((0:Int),((0:Int),((0:Int),((0:Int),())))),((0:Int),((0:Int),())))))) (getD' x13.2.1 ((x10.1.1).toNat) ((0:Int),((0:Int),(((0:Int),((0:Int),((0:Int),((0:Int),())))),((0:Int),((0:Int),()))))))) fun r14 =>
  Option.bind (bif (decide (r14<0)) then(req (inb x10.1.1 x13.2.1.length) (req (inb x10.1.1 x13.2.1.length) (Option.bind (some (getD' x13.2.1 ((x10.1.1).toNat) ((0:Int),((0:Int),(((0:Int),((0:Int),((0:Int),((0:Int),())))),((0:Int),((0:Int),()))))))) fun e15 =>
  Option.bind (some (x13.2.1.set ((x10.1.1).toNat) (e15.1,(e15.2.1,(e15.2.2.1,((w64 (((((getD' x13.2.1 ((x10.1.1).toNat) ((0:Int),((0:Int),(((0:Int),((0:Int),((0:Int),((0:Int),())))),((0:Int),((0:Int),())))))).2).2).2).1+1)),e15.2.2.2.2)))))) fun y16 =>
  req (inb x10.1.1 y16.length) (req (inb x10.1.1 y16.length) (Option.bind (some (getD' y16 ((x10.1.1).toNat) ((0:Int),((0:Int),(((0:Int),((0:Int),((0:Int),((0:Int),())))),((0:Int),((0:Int),()))))))) fun e17 =>
  Option.bind (some (y16.set ((x10.1.1).toNat) (e17.1,(e17.2.1,(e17.2.2.1,(e17.2.2.2.1,((w64 ((((((getD' y16 ((x10.1.1).toNat) ((0:Int),((0:Int),(((0:Int),((0:Int),((0:Int),((0:Int),())))),((0:Int),((0:Int),())))))).2).2).2).2).1+1)),()))))))) fun y18 =>
  some ((),(y18,())))))))
  else Option.bind (bif (r14==0) then(req (inb x10.1.1 x13.2.1.length) (req (inb x10.1.1 x13.2.1.length) (Option.bind (some (getD' x13.2.1 ((x10.1.1).toNat) ((0:Int),((0:Int),(((0:Int),((0:Int),((0:Int),((0:Int),())))),((0:Int),((0:Int),()))))))) fun e19 =>
  Option.bind (some (x13.2.1.set ((x10.1.1).toNat) (e19.1,(e19.2.1,(e19.2.2.1,(e19.2.2.2.1,((w64 ((((((getD' x13.2.1 ((x10.1.1).toNat) ((0:Int),((0:Int),(((0:Int),((0:Int),((0:Int),((0:Int),())))),((0:Int),((0:Int),())))))).2).2).2).2).1+1)),()))))))) fun y20 =>
  some ((),(y20,())))))
  else some ((),(x13.2.1,()))) fun x21 =>
  some ((),(x21.2.1,()))) fun x22 =>
  some (Sum.inl (((w64 (x13.1.1+1)),()),(x22.2.1,()))))))
  else some (Sum.inr ((),(x13.2.1,())))
def qaA (r9:Zv7×Unit) (x10:Zv18×Zv6):Option (Zv3 ⊕ Zv4) :=
  bif (decide (x10.1.1<((r9.1.length:Nat):Int))) then(Option.bind (req (inb x10.1.1 x10.2.1.length) (Option.bind (some (getD' x10.2.1 ((x10.1.1).toNat) ((0:Int),((0:Int),(((0:Int),((0:Int),((0:Int),((0:Int),())))),((0:Int),((0:Int),()))))))) fun e11 =>
  Option.bind (some (x10.2.1.set ((x10.1.1).toNat) (e11.1,(e11.2.1,(e11.2.2.1,((1:Int),e11.2.2.2.2)))))) fun y12 =>
  Option.bind (iterW (qaD y12 x10) (((0:Int),()),(y12,()))) fun x23 =>
  some ((),(x23.2.1,())))) fun x24 =>
  some (Sum.inl (((w64 (x10.1.1+1)),()),(x24.2.1,()))))
  else some (Sum.inr ((),(x10.2.1,())))
def qal (n:Int) (games:List Zv14):Option Zv5 :=
  Option.bind (qG n games) fun r4 =>
  bif (r4 !=0) then some (([]:List Zv8),(r4,()))
  else Option.bind (qaG n games) fun r5 =>
  Option.bind (iterW (qbe r5 n games) ((([]:List Zv8),(0:Int),()),())) fun x8 =>
  Option.bind (qB x8.1.1 ((x8.1.1.length:Nat):Int)) fun r9 =>
  Option.bind (iterW (qaA r9) (((0:Int),()),(r9.1,()))) fun x25 =>
  some (x25.2.1,((0:Int),()))
def qdK:Option (Bool) :=
  Option.bind (qal (1:Int) ([]:List Zv14)) fun r2 =>
  req (imp ((r2.2.1==0)&&(((r2.1.length:Nat):Int)==1)) (inb (0:Int) r2.1.length)) (some (((r2.2.1==0)&&(((r2.1.length:Nat):Int)==1))&&(((((getD' r2.1 0 ((0:Int),((0:Int),(((0:Int),((0:Int),((0:Int),((0:Int),())))),((0:Int),((0:Int),())))))).2).2).2).1==1)))
def qaj (n:Int) (games:List Zv14):Option Zv13 :=
  Option.bind (qG n games) fun r3 =>
  bif (r3 !=0) then some (([]:List Int),(r3,()))
  else Option.bind (qaG n games) fun r4 =>
  some (r4,((0:Int),()))
def qH (n:Int) (games:List Zv14) (player:Int):Option (Zv11×Int×Unit) :=
  Option.bind (qG n games) fun r3 =>
  bif (r3 !=0) then some (((0:Int),((0:Int),((0:Int),((0:Int),())))),(r3,()))
  else bif ((decide (player<0))||(decide (player≥n))) then some (((0:Int),((0:Int),((0:Int),((0:Int),())))),((1:Int),()))
  else Option.bind (qa9 n games player) fun r4 =>
  some (r4,((0:Int),()))
def qaW (games:List Zv14) (a:Int) (b:Int) (x3:Zv16×(Unit)):Option (Zv12 ⊕ Zv15) :=
  bif (decide (x3.1.2.1<((games.length:Nat):Int))) then(Option.bind (at? games x3.1.2.1) fun d4 =>
  Option.bind (bif ((d4.1==a)&&(d4.2.1==b)) then some (((w64 (x3.1.1+(w64 (d4.2.2.1-1)))),()),())
  else Option.bind (bif ((d4.1==b)&&(d4.2.1==a)) then some (((w64 (x3.1.1-(w64 (d4.2.2.1-1)))),()),())
  else some ((x3.1.1,()),())) fun x5 =>
  some ((x5.1.1,()),())) fun x6 =>
  some (Sum.inl ((x6.1.1,(w64 (x3.1.2.1+1)),()),())))
  else some (Sum.inr ((x3.1.1,()),()))
def qZ (n:Int) (games:List Zv14) (a:Int) (b:Int):Option Zv16 :=
  Option.bind (qG n games) fun r2 =>
  bif (r2 !=0) then some ((0:Int),(r2,()))
  else bif (!(qR n a b)) then some ((0:Int),((1:Int),()))
  else Option.bind (iterW (qaW games a b) (((0:Int),(0:Int),()),())) fun x7 =>
  some ((qE x7.1.1 (0:Int)),((0:Int),()))
def qb0 (x1:(Zv19×Zv19×Unit)×(Unit)) (x2:Zv18×(Unit)):Option (Zv15 ⊕ (Zv17 ⊕ Bool)) :=
  bif (decide (x2.1.1<((x1.1.1.length:Nat):Int))) then(req (inb x2.1.1 x1.1.1.length) (req (inb x2.1.1 x1.1.2.1.length) (bif ((getD' x1.1.1 ((x2.1.1).toNat) (0:Int))!=(getD' x1.1.2.1 ((x2.1.1).toNat) (0:Int))) then req (inb x2.1.1 x1.1.1.length) (req (inb x2.1.1 x1.1.2.1.length) (some (Sum.inr (Sum.inr (decide ((getD' x1.1.1 ((x2.1.1).toNat) (0:Int))>(getD' x1.1.2.1 ((x2.1.1).toNat) (0:Int))))))))
  else some (Sum.inl (((w64 (x2.1.1+1)),()),())))))
  else some (Sum.inr (Sum.inl ((),())))
def qcI (a:Int×Int×Zv11×Int×Int×Unit) (b:Int×Int×Zv11×Int×Int×Unit):Option (Bool) :=
  Option.bind (agree (agree (agree (req (room (([a.2.1]).length+([a.2.2.1.1,a.2.2.1.2.1,a.2.2.1.2.2.1,a.2.2.1.2.2.2.1]:List Int).length) 8) (agree (req (room (([b.2.1]).length+([b.2.2.1.1,b.2.2.1.2.1,b.2.2.1.2.2.1,b.2.2.1.2.2.2.1]:List Int).length) 8) (some ((([a.2.1]++([a.2.2.1.1,a.2.2.1.2.1,a.2.2.1.2.2.1,a.2.2.1.2.2.2.1]:List Int)),([b.2.1]++([b.2.2.1.1,b.2.2.1.2.1,b.2.2.1.2.2.1,b.2.2.1.2.2.2.1]:List Int)),()),()))) (req (room (([b.2.1]).length+([b.2.2.1.1,b.2.2.1.2.1,b.2.2.1.2.2.1,b.2.2.1.2.2.2.1]:List Int).length) 8) (some ((([a.2.1]++([a.2.2.1.1,a.2.2.1.2.1,a.2.2.1.2.2.1,a.2.2.1.2.2.2.1]:List Int)),([b.2.1]++([b.2.2.1.1,b.2.2.1.2.1,b.2.2.1.2.2.1,b.2.2.1.2.2.2.1]:List Int)),()),()))))) (agree (agree (req (room (([a.2.1]).length+([a.2.2.1.1,a.2.2.1.2.1,a.2.2.1.2.2.1,a.2.2.1.2.2.2.1]:List Int).length) 8) (agree (req (room (([b.2.1]).length+([b.2.2.1.1,b.2.2.1.2.1,b.2.2.1.2.2.1,b.2.2.1.2.2.2.1]:List Int).length) 8) (some ((([a.2.1]++([a.2.2.1.1,a.2.2.1.2.1,a.2.2.1.2.2.1,a.2.2.1.2.2.2.1]:List Int)),([b.2.1]++([b.2.2.1.1,b.2.2.1.2.1,b.2.2.1.2.2.1,b.2.2.1.2.2.2.1]:List Int)),()),()))) (req (room (([b.2.1]).length+([b.2.2.1.1,b.2.2.1.2.1,b.2.2.1.2.2.1,b.2.2.1.2.2.2.1]:List Int).length) 8) (some ((([a.2.1]++([a.2.2.1.1,a.2.2.1.2.1,a.2.2.1.2.2.1,a.2.2.1.2.2.2.1]:List Int)),([b.2.1]++([b.2.2.1.1,b.2.2.1.2.1,b.2.2.1.2.2.1,b.2.2.1.2.2.2.1]:List Int)),()),()))))) (agree (agree (req (room (([a.2.1]).length+([a.2.2.1.1,a.2.2.1.2.1,a.2.2.1.2.2.1,a.2.2.1.2.2.2.1]:List Int).length) 8) (req (room (([b.2.1]).length+([b.2.2.1.1,b.2.2.1.2.1,b.2.2.1.2.2.1,b.2.2.1.2.2.2.1]:List Int).length) 8) (some ((([a.2.1]++([a.2.2.1.1,a.2.2.1.2.1,a.2.2.1.2.2.1,a.2.2.1.2.2.2.1]:List Int)),([b.2.1]++([b.2.2.1.1,b.2.2.1.2.1,b.2.2.1.2.2.1,b.2.2.1.2.2.2.1]:List Int)),()),())))) (req (room (([a.2.1]).length+([a.2.2.1.1,a.2.2.1.2.1,a.2.2.1.2.2.1,a.2.2.1.2.2.2.1]:List Int).length) 8) (req (room (([b.2.1]).length+([b.2.2.1.1,b.2.2.1.2.1,b.2.2.1.2.2.1,b.2.2.1.2.2.2.1]:List Int).length) 8) (some ((([a.2.1]++([a.2.2.1.1,a.2.2.1.2.1,a.2.2.1.2.2.1,a.2.2.1.2.2.2.1]:List Int)),([b.2.1]++([b.2.2.1.1,b.2.2.1.2.1,b.2.2.1.2.2.1,b.2.2.1.2.2.2.1]:List Int)),()),()))))) (agree (req (room (([a.2.1]).length+([a.2.2.1.1,a.2.2.1.2.1,a.2.2.1.2.2.1,a.2.2.1.2.2.2.1]:List Int).length) 8) (req (room (([b.2.1]).length+([b.2.2.1.1,b.2.2.1.2.1,b.2.2.1.2.2.1,b.2.2.1.2.2.2.1]:List Int).length) 8) (some ((([a.2.1]++([a.2.2.1.1,a.2.2.1.2.1,a.2.2.1.2.2.1,a.2.2.1.2.2.2.1]:List Int)),([b.2.1]++([b.2.2.1.1,b.2.2.1.2.1,b.2.2.1.2.2.1,b.2.2.1.2.2.2.1]:List Int)),()),())))) (req (room (([a.2.1]).length+([a.2.2.1.1,a.2.2.1.2.1,a.2.2.1.2.2.1,a.2.2.1.2.2.2.1]:List Int).length) 8) (req (room (([b.2.1]).length+([b.2.2.1.1,b.2.2.1.2.1,b.2.2.1.2.2.1,b.2.2.1.2.2.2.1]:List Int).length) 8) (some ((([a.2.1]++([a.2.2.1.1,a.2.2.1.2.1,a.2.2.1.2.2.1,a.2.2.1.2.2.2.1]:List Int)),([b.2.1]++([b.2.2.1.1,b.2.2.1.2.1,b.2.2.1.2.2.1,b.2.2.1.2.2.2.1]:List Int)),()),()))))))) (agree (req (room (([a.2.1]).length+([a.2.2.1.1,a.2.2.1.2.1,a.2.2.1.2.2.1,a.2.2.1.2.2.2.1]:List Int).length) 8) (req (room (([b.2.1]).length+([b.2.2.1.1,b.2.2.1.2.1,b.2.2.1.2.2.1,b.2.2.1.2.2.2.1]:List Int).length) 8) (some ((([a.2.1]++([a.2.2.1.1,a.2.2.1.2.1,a.2.2.1.2.2.1,a.2.2.1.2.2.2.1]:List Int)),([b.2.1]++([b.2.2.1.1,b.2.2.1.2.1,b.2.2.1.2.2.1,b.2.2.1.2.2.2.1]:List Int)),()),())))) (agree (req (room (([a.2.1]).length+([a.2.2.1.1,a.2.2.1.2.1,a.2.2.1.2.2.1,a.2.2.1.2.2.2.1]:List Int).length) 8) (req (room (([b.2.1]).length+([b.2.2.1.1,b.2.2.1.2.1,b.2.2.1.2.2.1,b.2.2.1.2.2.2.1]:List Int).length) 8) (some ((([a.2.1]++([a.2.2.1.1,a.2.2.1.2.1,a.2.2.1.2.2.1,a.2.2.1.2.2.2.1]:List Int)),([b.2.1]++([b.2.2.1.1,b.2.2.1.2.1,b.2.2.1.2.2.1,b.2.2.1.2.2.2.1]:List Int)),()),())))) (req (room (([a.2.1]).length+([a.2.2.1.1,a.2.2.1.2.1,a.2.2.1.2.2.1,a.2.2.1.2.2.2.1]:List Int).length) 8) (req (room (([b.2.1]).length+([b.2.2.1.1,b.2.2.1.2.1,b.2.2.1.2.2.1,b.2.2.1.2.2.2.1]:List Int).length) 8) (some ((([a.2.1]++([a.2.2.1.1,a.2.2.1.2.1,a.2.2.1.2.2.1,a.2.2.1.2.2.2.1]:List Int)),([b.2.1]++([b.2.2.1.1,b.2.2.1.2.1,b.2.2.1.2.2.1,b.2.2.1.2.2.2.1]:List Int)),()),())))))))) (agree (agree (agree (req (room (([a.2.1]).length+([a.2.2.1.1,a.2.2.1.2.1,a.2.2.1.2.2.1,a.2.2.1.2.2.2.1]:List Int).length) 8) (agree (req (room (([b.2.1]).length+([b.2.2.1.1,b.2.2.1.2.1,b.2.2.1.2.2.1,b.2.2.1.2.2.2.1]:List Int).length) 8) (some ((([a.2.1]++([a.2.2.1.1,a.2.2.1.2.1,a.2.2.1.2.2.1,a.2.2.1.2.2.2.1]:List Int)),([b.2.1]++([b.2.2.1.1,b.2.2.1.2.1,b.2.2.1.2.2.1,b.2.2.1.2.2.2.1]:List Int)),()),()))) (req (room (([b.2.1]).length+([b.2.2.1.1,b.2.2.1.2.1,b.2.2.1.2.2.1,b.2.2.1.2.2.2.1]:List Int).length) 8) (some ((([a.2.1]++([a.2.2.1.1,a.2.2.1.2.1,a.2.2.1.2.2.1,a.2.2.1.2.2.2.1]:List Int)),([b.2.1]++([b.2.2.1.1,b.2.2.1.2.1,b.2.2.1.2.2.1,b.2.2.1.2.2.2.1]:List Int)),()),()))))) (agree (agree (req (room (([a.2.1]).length+([a.2.2.1.1,a.2.2.1.2.1,a.2.2.1.2.2.1,a.2.2.1.2.2.2.1]:List Int).length) 8) (req (room (([b.2.1]).length+([b.2.2.1.1,b.2.2.1.2.1,b.2.2.1.2.2.1,b.2.2.1.2.2.2.1]:List Int).length) 8) (some ((([a.2.1]++([a.2.2.1.1,a.2.2.1.2.1,a.2.2.1.2.2.1,a.2.2.1.2.2.2.1]:List Int)),([b.2.1]++([b.2.2.1.1,b.2.2.1.2.1,b.2.2.1.2.2.1,b.2.2.1.2.2.2.1]:List Int)),()),())))) (req (room (([a.2.1]).length+([a.2.2.1.1,a.2.2.1.2.1,a.2.2.1.2.2.1,a.2.2.1.2.2.2.1]:List Int).length) 8) (req (room (([b.2.1]).length+([b.2.2.1.1,b.2.2.1.2.1,b.2.2.1.2.2.1,b.2.2.1.2.2.2.1]:List Int).length) 8) (some ((([a.2.1]++([a.2.2.1.1,a.2.2.1.2.1,a.2.2.1.2.2.1,a.2.2.1.2.2.2.1]:List Int)),([b.2.1]++([b.2.2.1.1,b.2.2.1.2.1,b.2.2.1.2.2.1,b.2.2.1.2.2.2.1]:List Int)),()),()))))) (agree (req (room (([a.2.1]).length+([a.2.2.1.1,a.2.2.1.2.1,a.2.2.1.2.2.1,a.2.2.1.2.2.2.1]:List Int).length) 8) (req (room (([b.2.1]).length+([b.2.2.1.1,b.2.2.1.2.1,b.2.2.1.2.2.1,b.2.2.1.2.2.2.1]:List Int).length) 8) (some ((([a.2.1]++([a.2.2.1.1,a.2.2.1.2.1,a.2.2.1.2.2.1,a.2.2.1.2.2.2.1]:List Int)),([b.2.1]++([b.2.2.1.1,b.2.2.1.2.1,b.2.2.1.2.2.1,b.2.2.1.2.2.2.1]:List Int)),()),())))) (req (room (([a.2.1]).length+([a.2.2.1.1,a.2.2.1.2.1,a.2.2.1.2.2.1,a.2.2.1.2.2.2.1]:List Int).length) 8) (req (room (([b.2.1]).length+([b.2.2.1.1,b.2.2.1.2.1,b.2.2.1.2.2.1,b.2.2.1.2.2.2.1]:List Int).length) 8) (some ((([a.2.1]++([a.2.2.1.1,a.2.2.1.2.1,a.2.2.1.2.2.1,a.2.2.1.2.2.2.1]:List Int)),([b.2.1]++([b.2.2.1.1,b.2.2.1.2.1,b.2.2.1.2.2.1,b.2.2.1.2.2.2.1]:List Int)),()),()))))))) (agree (agree (agree (req (room (([a.2.1]).length+([a.2.2.1.1,a.2.2.1.2.1,a.2.2.1.2.2.1,a.2.2.1.2.2.2.1]:List Int).length) 8) (req (room (([b.2.1]).length+([b.2.2.1.1,b.2.2.1.2.1,b.2.2.1.2.2.1,b.2.2.1.2.2.2.1]:List Int).length) 8) (some ((([a.2.1]++([a.2.2.1.1,a.2.2.1.2.1,a.2.2.1.2.2.1,a.2.2.1.2.2.2.1]:List Int)),([b.2.1]++([b.2.2.1.1,b.2.2.1.2.1,b.2.2.1.2.2.1,b.2.2.1.2.2.2.1]:List Int)),()),())))) (req (room (([a.2.1]).length+([a.2.2.1.1,a.2.2.1.2.1,a.2.2.1.2.2.1,a.2.2.1.2.2.2.1]:List Int).length) 8) (req (room (([b.2.1]).length+([b.2.2.1.1,b.2.2.1.2.1,b.2.2.1.2.2.1,b.2.2.1.2.2.2.1]:List Int).length) 8) (some ((([a.2.1]++([a.2.2.1.1,a.2.2.1.2.1,a.2.2.1.2.2.1,a.2.2.1.2.2.2.1]:List Int)),([b.2.1]++([b.2.2.1.1,b.2.2.1.2.1,b.2.2.1.2.2.1,b.2.2.1.2.2.2.1]:List Int)),()),()))))) (req (room (([a.2.1]).length+([a.2.2.1.1,a.2.2.1.2.1,a.2.2.1.2.2.1,a.2.2.1.2.2.2.1]:List Int).length) 8) (req (room (([b.2.1]).length+([b.2.2.1.1,b.2.2.1.2.1,b.2.2.1.2.2.1,b.2.2.1.2.2.2.1]:List Int).length) 8) (some ((([a.2.1]++([a.2.2.1.1,a.2.2.1.2.1,a.2.2.1.2.2.1,a.2.2.1.2.2.2.1]:List Int)),([b.2.1]++([b.2.2.1.1,b.2.2.1.2.1,b.2.2.1.2.2.1,b.2.2.1.2.2.2.1]:List Int)),()),()))))) (agree (agree (req (room (([a.2.1]).length+([a.2.2.1.1,a.2.2.1.2.1,a.2.2.1.2.2.1,a.2.2.1.2.2.2.1]:List Int).length) 8) (req (room (([b.2.1]).length+([b.2.2.1.1,b.2.2.1.2.1,b.2.2.1.2.2.1,b.2.2.1.2.2.2.1]:List Int).length) 8) (some ((([a.2.1]++([a.2.2.1.1,a.2.2.1.2.1,a.2.2.1.2.2.1,a.2.2.1.2.2.2.1]:List Int)),([b.2.1]++([b.2.2.1.1,b.2.2.1.2.1,b.2.2.1.2.2.1,b.2.2.1.2.2.2.1]:List Int)),()),())))) (req (room (([a.2.1]).length+([a.2.2.1.1,a.2.2.1.2.1,a.2.2.1.2.2.1,a.2.2.1.2.2.2.1]:List Int).length) 8) (req (room (([b.2.1]).length+([b.2.2.1.1,b.2.2.1.2.1,b.2.2.1.2.2.1,b.2.2.1.2.2.2.1]:List Int).length) 8) (some ((([a.2.1]++([a.2.2.1.1,a.2.2.1.2.1,a.2.2.1.2.2.1,a.2.2.1.2.2.2.1]:List Int)),([b.2.1]++([b.2.2.1.1,b.2.2.1.2.1,b.2.2.1.2.2.1,b.2.2.1.2.2.2.1]:List Int)),()),()))))) (req (room (([a.2.1]).length+([a.2.2.1.1,a.2.2.1.2.1,a.2.2.1.2.2.1,a.2.2.1.2.2.2.1]:List Int).length) 8) (req (room (([b.2.1]).length+([b.2.2.1.1,b.2.2.1.2.1,b.2.2.1.2.2.1,b.2.2.1.2.2.2.1]:List Int).length) 8) (some ((([a.2.1]++([a.2.2.1.1,a.2.2.1.2.1,a.2.2.1.2.2.1,a.2.2.1.2.2.2.1]:List Int)),([b.2.1]++([b.2.2.1.1,b.2.2.1.2.1,b.2.2.1.2.2.1,b.2.2.1.2.2.2.1]:List Int)),()),()))))))) (agree (agree (req (room (([a.2.1]).length+([a.2.2.1.1,a.2.2.1.2.1,a.2.2.1.2.2.1,a.2.2.1.2.2.2.1]:List Int).length) 8) (req (room (([b.2.1]).length+([b.2.2.1.1,b.2.2.1.2.1,b.2.2.1.2.2.1,b.2.2.1.2.2.2.1]:List Int).length) 8) (some ((([a.2.1]++([a.2.2.1.1,a.2.2.1.2.1,a.2.2.1.2.2.1,a.2.2.1.2.2.2.1]:List Int)),([b.2.1]++([b.2.2.1.1,b.2.2.1.2.1,b.2.2.1.2.2.1,b.2.2.1.2.2.2.1]:List Int)),()),())))) (agree (req (room (([a.2.1]).length+([a.2.2.1.1,a.2.2.1.2.1,a.2.2.1.2.2.1,a.2.2.1.2.2.2.1]:List Int).length) 8) (req (room (([b.2.1]).length+([b.2.2.1.1,b.2.2.1.2.1,b.2.2.1.2.2.1,b.2.2.1.2.2.2.1]:List Int).length) 8) (some ((([a.2.1]++([a.2.2.1.1,a.2.2.1.2.1,a.2.2.1.2.2.1,a.2.2.1.2.2.2.1]:List Int)),([b.2.1]++([b.2.2.1.1,b.2.2.1.2.1,b.2.2.1.2.2.1,b.2.2.1.2.2.2.1]:List Int)),()),())))) (req (room (([a.2.1]).length+([a.2.2.1.1,a.2.2.1.2.1,a.2.2.1.2.2.1,a.2.2.1.2.2.2.1]:List Int).length) 8) (req (room (([b.2.1]).length+([b.2.2.1.1,b.2.2.1.2.1,b.2.2.1.2.2.1,b.2.2.1.2.2.2.1]:List Int).length) 8) (some ((([a.2.1]++([a.2.2.1.1,a.2.2.1.2.1,a.2.2.1.2.2.1,a.2.2.1.2.2.2.1]:List Int)),([b.2.1]++([b.2.2.1.1,b.2.2.1.2.1,b.2.2.1.2.2.1,b.2.2.1.2.2.2.1]:List Int)),()),())))))) (agree (agree (req (room (([a.2.1]).length+([a.2.2.1.1,a.2.2.1.2.1,a.2.2.1.2.2.1,a.2.2.1.2.2.2.1]:List Int).length) 8) (req (room (([b.2.1]).length+([b.2.2.1.1,b.2.2.1.2.1,b.2.2.1.2.2.1,b.2.2.1.2.2.2.1]:List Int).length) 8) (some ((([a.2.1]++([a.2.2.1.1,a.2.2.1.2.1,a.2.2.1.2.2.1,a.2.2.1.2.2.2.1]:List Int)),([b.2.1]++([b.2.2.1.1,b.2.2.1.2.1,b.2.2.1.2.2.1,b.2.2.1.2.2.2.1]:List Int)),()),())))) (req (room (([a.2.1]).length+([a.2.2.1.1,a.2.2.1.2.1,a.2.2.1.2.2.1,a.2.2.1.2.2.2.1]:List Int).length) 8) (req (room (([b.2.1]).length+([b.2.2.1.1,b.2.2.1.2.1,b.2.2.1.2.2.1,b.2.2.1.2.2.2.1]:List Int).length) 8) (some ((([a.2.1]++([a.2.2.1.1,a.2.2.1.2.1,a.2.2.1.2.2.1,a.2.2.1.2.2.2.1]:List Int)),([b.2.1]++([b.2.2.1.1,b.2.2.1.2.1,b.2.2.1.2.2.1,b.2.2.1.2.2.2.1]:List Int)),()),()))))) (req (room (([a.2.1]).length+([a.2.2.1.1,a.2.2.1.2.1,a.2.2.1.2.2.1,a.2.2.1.2.2.2.1]:List Int).length) 8) (req (room (([b.2.1]).length+([b.2.2.1.1,b.2.2.1.2.1,b.2.2.1.2.2.1,b.2.2.1.2.2.2.1]:List Int).length) 8) (some ((([a.2.1]++([a.2.2.1.1,a.2.2.1.2.1,a.2.2.1.2.2.1,a.2.2.1.2.2.2.1]:List Int)),([b.2.1]++([b.2.2.1.1,b.2.2.1.2.1,b.2.2.1.2.2.1,b.2.2.1.2.2.2.1]:List Int)),()),())))))))) (agree (agree (agree (req (room (([a.2.1]).length+([a.2.2.1.1,a.2.2.1.2.1,a.2.2.1.2.2.1,a.2.2.1.2.2.2.1]:List Int).length) 8) (agree (req (room (([b.2.1]).length+([b.2.2.1.1,b.2.2.1.2.1,b.2.2.1.2.2.1,b.2.2.1.2.2.2.1]:List Int).length) 8) (some ((([a.2.1]++([a.2.2.1.1,a.2.2.1.2.1,a.2.2.1.2.2.1,a.2.2.1.2.2.2.1]:List Int)),([b.2.1]++([b.2.2.1.1,b.2.2.1.2.1,b.2.2.1.2.2.1,b.2.2.1.2.2.2.1]:List Int)),()),()))) (req (room (([b.2.1]).length+([b.2.2.1.1,b.2.2.1.2.1,b.2.2.1.2.2.1,b.2.2.1.2.2.2.1]:List Int).length) 8) (some ((([a.2.1]++([a.2.2.1.1,a.2.2.1.2.1,a.2.2.1.2.2.1,a.2.2.1.2.2.2.1]:List Int)),([b.2.1]++([b.2.2.1.1,b.2.2.1.2.1,b.2.2.1.2.2.1,b.2.2.1.2.2.2.1]:List Int)),()),()))))) (agree (agree (req (room (([a.2.1]).length+([a.2.2.1.1,a.2.2.1.2.1,a.2.2.1.2.2.1,a.2.2.1.2.2.2.1]:List Int).length) 8) (agree (req (room (([b.2.1]).length+([b.2.2.1.1,b.2.2.1.2.1,b.2.2.1.2.2.1,b.2.2.1.2.2.2.1]:List Int).length) 8) (some ((([a.2.1]++([a.2.2.1.1,a.2.2.1.2.1,a.2.2.1.2.2.1,a.2.2.1.2.2.2.1]:List Int)),([b.2.1]++([b.2.2.1.1,b.2.2.1.2.1,b.2.2.1.2.2.1,b.2.2.1.2.2.2.1]:List Int)),()),()))) (req (room (([b.2.1]).length+([b.2.2.1.1,b.2.2.1.2.1,b.2.2.1.2.2.1,b.2.2.1.2.2.2.1]:List Int).length) 8) (some ((([a.2.1]++([a.2.2.1.1,a.2.2.1.2.1,a.2.2.1.2.2.1,a.2.2.1.2.2.2.1]:List Int)),([b.2.1]++([b.2.2.1.1,b.2.2.1.2.1,b.2.2.1.2.2.1,b.2.2.1.2.2.2.1]:List Int)),()),()))))) (agree (agree (req (room (([a.2.1]).length+([a.2.2.1.1,a.2.2.1.2.1,a.2.2.1.2.2.1,a.2.2.1.2.2.2.1]:List Int).length) 8) (req (room (([b.2.1]).length+([b.2.2.1.1,b.2.2.1.2.1,b.2.2.1.2.2.1,b.2.2.1.2.2.2.1]:List Int).length) 8) (some ((([a.2.1]++([a.2.2.1.1,a.2.2.1.2.1,a.2.2.1.2.2.1,a.2.2.1.2.2.2.1]:List Int)),([b.2.1]++([b.2.2.1.1,b.2.2.1.2.1,b.2.2.1.2.2.1,b.2.2.1.2.2.2.1]:List Int)),()),())))) (req (room (([a.2.1]).length+([a.2.2.1.1,a.2.2.1.2.1,a.2.2.1.2.2.1,a.2.2.1.2.2.2.1]:List Int).length) 8) (req (room (([b.2.1]).length+([b.2.2.1.1,b.2.2.1.2.1,b.2.2.1.2.2.1,b.2.2.1.2.2.2.1]:List Int).length) 8) (some ((([a.2.1]++([a.2.2.1.1,a.2.2.1.2.1,a.2.2.1.2.2.1,a.2.2.1.2.2.2.1]:List Int)),([b.2.1]++([b.2.2.1.1,b.2.2.1.2.1,b.2.2.1.2.2.1,b.2.2.1.2.2.2.1]:List Int)),()),()))))) (agree (req (room (([a.2.1]).length+([a.2.2.1.1,a.2.2.1.2.1,a.2.2.1.2.2.1,a.2.2.1.2.2.2.1]:List Int).length) 8) (req (room (([b.2.1]).length+([b.2.2.1.1,b.2.2.1.2.1,b.2.2.1.2.2.1,b.2.2.1.2.2.2.1]:List Int).length) 8) (some ((([a.2.1]++([a.2.2.1.1,a.2.2.1.2.1,a.2.2.1.2.2.1,a.2.2.1.2.2.2.1]:List Int)),([b.2.1]++([b.2.2.1.1,b.2.2.1.2.1,b.2.2.1.2.2.1,b.2.2.1.2.2.2.1]:List Int)),()),())))) (req (room (([a.2.1]).length+([a.2.2.1.1,a.2.2.1.2.1,a.2.2.1.2.2.1,a.2.2.1.2.2.2.1]:List Int).length) 8) (req (room (([b.2.1]).length+([b.2.2.1.1,b.2.2.1.2.1,b.2.2.1.2.2.1,b.2.2.1.2.2.2.1]:List Int).length) 8) (some ((([a.2.1]++([a.2.2.1.1,a.2.2.1.2.1,a.2.2.1.2.2.1,a.2.2.1.2.2.2.1]:List Int)),([b.2.1]++([b.2.2.1.1,b.2.2.1.2.1,b.2.2.1.2.2.1,b.2.2.1.2.2.2.1]:List Int)),()),()))))))) (agree (req (room (([a.2.1]).length+([a.2.2.1.1,a.2.2.1.2.1,a.2.2.1.2.2.1,a.2.2.1.2.2.2.1]:List Int).length) 8) (req (room (([b.2.1]).length+([b.2.2.1.1,b.2.2.1.2.1,b.2.2.1.2.2.1,b.2.2.1.2.2.2.1]:List Int).length) 8) (some ((([a.2.1]++([a.2.2.1.1,a.2.2.1.2.1,a.2.2.1.2.2.1,a.2.2.1.2.2.2.1]:List Int)),([b.2.1]++([b.2.2.1.1,b.2.2.1.2.1,b.2.2.1.2.2.1,b.2.2.1.2.2.2.1]:List Int)),()),())))) (agree (req (room (([a.2.1]).length+([a.2.2.1.1,a.2.2.1.2.1,a.2.2.1.2.2.1,a.2.2.1.2.2.2.1]:List Int).length) 8) (req (room (([b.2.1]).length+([b.2.2.1.1,b.2.2.1.2.1,b.2.2.1.2.2.1,b.2.2.1.2.2.2.1]:List Int).length) 8) (some ((([a.2.1]++([a.2.2.1.1,a.2.2.1.2.1,a.2.2.1.2.2.1,a.2.2.1.2.2.2.1]:List Int)),([b.2.1]++([b.2.2.1.1,b.2.2.1.2.1,b.2.2.1.2.2.1,b.2.2.1.2.2.2.1]:List Int)),()),())))) (req (room (([a.2.1]).length+([a.2.2.1.1,a.2.2.1.2.1,a.2.2.1.2.2.1,a.2.2.1.2.2.2.1]:List Int).length) 8) (req (room (([b.2.1]).length+([b.2.2.1.1,b.2.2.1.2.1,b.2.2.1.2.2.1,b.2.2.1.2.2.2.1]:List Int).length) 8) (some ((([a.2.1]++([a.2.2.1.1,a.2.2.1.2.1,a.2.2.1.2.2.1,a.2.2.1.2.2.2.1]:List Int)),([b.2.1]++([b.2.2.1.1,b.2.2.1.2.1,b.2.2.1.2.2.1,b.2.2.1.2.2.2.1]:List Int)),()),())))))))) (agree (agree (agree (req (room (([a.2.1]).length+([a.2.2.1.1,a.2.2.1.2.1,a.2.2.1.2.2.1,a.2.2.1.2.2.2.1]:List Int).length) 8) (agree (req (room (([b.2.1]).length+([b.2.2.1.1,b.2.2.1.2.1,b.2.2.1.2.2.1,b.2.2.1.2.2.2.1]:List Int).length) 8) (some ((([a.2.1]++([a.2.2.1.1,a.2.2.1.2.1,a.2.2.1.2.2.1,a.2.2.1.2.2.2.1]:List Int)),([b.2.1]++([b.2.2.1.1,b.2.2.1.2.1,b.2.2.1.2.2.1,b.2.2.1.2.2.2.1]:List Int)),()),()))) (req (room (([b.2.1]).length+([b.2.2.1.1,b.2.2.1.2.1,b.2.2.1.2.2.1,b.2.2.1.2.2.2.1]:List Int).length) 8) (some ((([a.2.1]++([a.2.2.1.1,a.2.2.1.2.1,a.2.2.1.2.2.1,a.2.2.1.2.2.2.1]:List Int)),([b.2.1]++([b.2.2.1.1,b.2.2.1.2.1,b.2.2.1.2.2.1,b.2.2.1.2.2.2.1]:List Int)),()),()))))) (agree (agree (req (room (([a.2.1]).length+([a.2.2.1.1,a.2.2.1.2.1,a.2.2.1.2.2.1,a.2.2.1.2.2.2.1]:List Int).length) 8) (req (room (([b.2.1]).length+([b.2.2.1.1,b.2.2.1.2.1,b.2.2.1.2.2.1,b.2.2.1.2.2.2.1]:List Int).length) 8) (some ((([a.2.1]++([a.2.2.1.1,a.2.2.1.2.1,a.2.2.1.2.2.1,a.2.2.1.2.2.2.1]:List Int)),([b.2.1]++([b.2.2.1.1,b.2.2.1.2.1,b.2.2.1.2.2.1,b.2.2.1.2.2.2.1]:List Int)),()),())))) (req (room (([a.2.1]).length+([a.2.2.1.1,a.2.2.1.2.1,a.2.2.1.2.2.1,a.2.2.1.2.2.2.1]:List Int).length) 8) (req (room (([b.2.1]).length+([b.2.2.1.1,b.2.2.1.2.1,b.2.2.1.2.2.1,b.2.2.1.2.2.2.1]:List Int).length) 8) (some ((([a.2.1]++([a.2.2.1.1,a.2.2.1.2.1,a.2.2.1.2.2.1,a.2.2.1.2.2.2.1]:List Int)),([b.2.1]++([b.2.2.1.1,b.2.2.1.2.1,b.2.2.1.2.2.1,b.2.2.1.2.2.2.1]:List Int)),()),()))))) (agree (req (room (([a.2.1]).length+([a.2.2.1.1,a.2.2.1.2.1,a.2.2.1.2.2.1,a.2.2.1.2.2.2.1]:List Int).length) 8) (req (room (([b.2.1]).length+([b.2.2.1.1,b.2.2.1.2.1,b.2.2.1.2.2.1,b.2.2.1.2.2.2.1]:List Int).length) 8) (some ((([a.2.1]++([a.2.2.1.1,a.2.2.1.2.1,a.2.2.1.2.2.1,a.2.2.1.2.2.2.1]:List Int)),([b.2.1]++([b.2.2.1.1,b.2.2.1.2.1,b.2.2.1.2.2.1,b.2.2.1.2.2.2.1]:List Int)),()),())))) (req (room (([a.2.1]).length+([a.2.2.1.1,a.2.2.1.2.1,a.2.2.1.2.2.1,a.2.2.1.2.2.2.1]:List Int).length) 8) (req (room (([b.2.1]).length+([b.2.2.1.1,b.2.2.1.2.1,b.2.2.1.2.2.1,b.2.2.1.2.2.2.1]:List Int).length) 8) (some ((([a.2.1]++([a.2.2.1.1,a.2.2.1.2.1,a.2.2.1.2.2.1,a.2.2.1.2.2.2.1]:List Int)),([b.2.1]++([b.2.2.1.1,b.2.2.1.2.1,b.2.2.1.2.2.1,b.2.2.1.2.2.2.1]:List Int)),()),()))))))) (agree (agree (agree (req (room (([a.2.1]).length+([a.2.2.1.1,a.2.2.1.2.1,a.2.2.1.2.2.1,a.2.2.1.2.2.2.1]:List Int).length) 8) (req (room (([b.2.1]).length+([b.2.2.1.1,b.2.2.1.2.1,b.2.2.1.2.2.1,b.2.2.1.2.2.2.1]:List Int).length) 8) (some ((([a.2.1]++([a.2.2.1.1,a.2.2.1.2.1,a.2.2.1.2.2.1,a.2.2.1.2.2.2.1]:List Int)),([b.2.1]++([b.2.2.1.1,b.2.2.1.2.1,b.2.2.1.2.2.1,b.2.2.1.2.2.2.1]:List Int)),()),())))) (req (room (([a.2.1]).length+([a.2.2.1.1,a.2.2.1.2.1,a.2.2.1.2.2.1,a.2.2.1.2.2.2.1]:List Int).length) 8) (req (room (([b.2.1]).length+([b.2.2.1.1,b.2.2.1.2.1,b.2.2.1.2.2.1,b.2.2.1.2.2.2.1]:List Int).length) 8) (some ((([a.2.1]++([a.2.2.1.1,a.2.2.1.2.1,a.2.2.1.2.2.1,a.2.2.1.2.2.2.1]:List Int)),([b.2.1]++([b.2.2.1.1,b.2.2.1.2.1,b.2.2.1.2.2.1,b.2.2.1.2.2.2.1]:List Int)),()),()))))) (req (room (([a.2.1]).length+([a.2.2.1.1,a.2.2.1.2.1,a.2.2.1.2.2.1,a.2.2.1.2.2.2.1]:List Int).length) 8) (req (room (([b.2.1]).length+([b.2.2.1.1,b.2.2.1.2.1,b.2.2.1.2.2.1,b.2.2.1.2.2.2.1]:List Int).length) 8) (some ((([a.2.1]++([a.2.2.1.1,a.2.2.1.2.1,a.2.2.1.2.2.1,a.2.2.1.2.2.2.1]:List Int)),([b.2.1]++([b.2.2.1.1,b.2.2.1.2.1,b.2.2.1.2.2.1,b.2.2.1.2.2.2.1]:List Int)),()),()))))) (agree (agree (req (room (([a.2.1]).length+([a.2.2.1.1,a.2.2.1.2.1,a.2.2.1.2.2.1,a.2.2.1.2.2.2.1]:List Int).length) 8) (req (room (([b.2.1]).length+([b.2.2.1.1,b.2.2.1.2.1,b.2.2.1.2.2.1,b.2.2.1.2.2.2.1]:List Int).length) 8) (some ((([a.2.1]++([a.2.2.1.1,a.2.2.1.2.1,a.2.2.1.2.2.1,a.2.2.1.2.2.2.1]:List Int)),([b.2.1]++([b.2.2.1.1,b.2.2.1.2.1,b.2.2.1.2.2.1,b.2.2.1.2.2.2.1]:List Int)),()),())))) (req (room (([a.2.1]).length+([a.2.2.1.1,a.2.2.1.2.1,a.2.2.1.2.2.1,a.2.2.1.2.2.2.1]:List Int).length) 8) (req (room (([b.2.1]).length+([b.2.2.1.1,b.2.2.1.2.1,b.2.2.1.2.2.1,b.2.2.1.2.2.2.1]:List Int).length) 8) (some ((([a.2.1]++([a.2.2.1.1,a.2.2.1.2.1,a.2.2.1.2.2.1,a.2.2.1.2.2.2.1]:List Int)),([b.2.1]++([b.2.2.1.1,b.2.2.1.2.1,b.2.2.1.2.2.1,b.2.2.1.2.2.2.1]:List Int)),()),()))))) (req (room (([a.2.1]).length+([a.2.2.1.1,a.2.2.1.2.1,a.2.2.1.2.2.1,a.2.2.1.2.2.2.1]:List Int).length) 8) (req (room (([b.2.1]).length+([b.2.2.1.1,b.2.2.1.2.1,b.2.2.1.2.2.1,b.2.2.1.2.2.2.1]:List Int).length) 8) (some ((([a.2.1]++([a.2.2.1.1,a.2.2.1.2.1,a.2.2.1.2.2.1,a.2.2.1.2.2.2.1]:List Int)),([b.2.1]++([b.2.2.1.1,b.2.2.1.2.1,b.2.2.1.2.2.1,b.2.2.1.2.2.2.1]:List Int)),()),()))))))) (agree (agree (req (room (([a.2.1]).length+([a.2.2.1.1,a.2.2.1.2.1,a.2.2.1.2.2.1,a.2.2.1.2.2.2.1]:List Int).length) 8) (req (room (([b.2.1]).length+([b.2.2.1.1,b.2.2.1.2.1,b.2.2.1.2.2.1,b.2.2.1.2.2.2.1]:List Int).length) 8) (some ((([a.2.1]++([a.2.2.1.1,a.2.2.1.2.1,a.2.2.1.2.2.1,a.2.2.1.2.2.2.1]:List Int)),([b.2.1]++([b.2.2.1.1,b.2.2.1.2.1,b.2.2.1.2.2.1,b.2.2.1.2.2.2.1]:List Int)),()),())))) (agree (req (room (([a.2.1]).length+([a.2.2.1.1,a.2.2.1.2.1,a.2.2.1.2.2.1,a.2.2.1.2.2.2.1]:List Int).length) 8) (req (room (([b.2.1]).length+([b.2.2.1.1,b.2.2.1.2.1,b.2.2.1.2.2.1,b.2.2.1.2.2.2.1]:List Int).length) 8) (some ((([a.2.1]++([a.2.2.1.1,a.2.2.1.2.1,a.2.2.1.2.2.1,a.2.2.1.2.2.2.1]:List Int)),([b.2.1]++([b.2.2.1.1,b.2.2.1.2.1,b.2.2.1.2.2.1,b.2.2.1.2.2.2.1]:List Int)),()),())))) (req (room (([a.2.1]).length+([a.2.2.1.1,a.2.2.1.2.1,a.2.2.1.2.2.1,a.2.2.1.2.2.2.1]:List Int).length) 8) (req (room (([b.2.1]).length+([b.2.2.1.1,b.2.2.1.2.1,b.2.2.1.2.2.1,b.2.2.1.2.2.2.1]:List Int).length) 8) (some ((([a.2.1]++([a.2.2.1.1,a.2.2.1.2.1,a.2.2.1.2.2.1,a.2.2.1.2.2.2.1]:List Int)),([b.2.1]++([b.2.2.1.1,b.2.2.1.2.1,b.2.2.1.2.2.1,b.2.2.1.2.2.2.1]:List Int)),()),())))))) (agree (agree (req (room (([a.2.1]).length+([a.2.2.1.1,a.2.2.1.2.1,a.2.2.1.2.2.1,a.2.2.1.2.2.2.1]:List Int).length) 8) (req (room (([b.2.1]).length+([b.2.2.1.1,b.2.2.1.2.1,b.2.2.1.2.2.1,b.2.2.1.2.2.2.1]:List Int).length) 8) (some ((([a.2.1]++([a.2.2.1.1,a.2.2.1.2.1,a.2.2.1.2.2.1,a.2.2.1.2.2.2.1]:List Int)),([b.2.1]++([b.2.2.1.1,b.2.2.1.2.1,b.2.2.1.2.2.1,b.2.2.1.2.2.2.1]:List Int)),()),())))) (req (room (([a.2.1]).length+([a.2.2.1.1,a.2.2.1.2.1,a.2.2.1.2.2.1,a.2.2.1.2.2.2.1]:List Int).length) 8) (req (room (([b.2.1]).length+([b.2.2.1.1,b.2.2.1.2.1,b.2.2.1.2.2.1,b.2.2.1.2.2.2.1]:List Int).length) 8) (some ((([a.2.1]++([a.2.2.1.1,a.2.2.1.2.1,a.2.2.1.2.2.1,a.2.2.1.2.2.2.1]:List Int)),([b.2.1]++([b.2.2.1.1,b.2.2.1.2.1,b.2.2.1.2.2.1,b.2.2.1.2.2.2.1]:List Int)),()),()))))) (req (room (([a.2.1]).length+([a.2.2.1.1,a.2.2.1.2.1,a.2.2.1.2.2.1,a.2.2.1.2.2.2.1]:List Int).length) 8) (req (room (([b.2.1]).length+([b.2.2.1.1,b.2.2.1.2.1,b.2.2.1.2.2.1,b.2.2.1.2.2.2.1]:List Int).length) 8) (some ((([a.2.1]++([a.2.2.1.1,a.2.2.1.2.1,a.2.2.1.2.2.1,a.2.2.1.2.2.2.1]:List Int)),([b.2.1]++([b.2.2.1.1,b.2.2.1.2.1,b.2.2.1.2.2.1,b.2.2.1.2.2.2.1]:List Int)),()),())))))))) (agree (agree (agree (agree (req (room (([a.2.1]).length+([a.2.2.1.1,a.2.2.1.2.1,a.2.2.1.2.2.1,a.2.2.1.2.2.2.1]:List Int).length) 8) (agree (req (room (([b.2.1]).length+([b.2.2.1.1,b.2.2.1.2.1,b.2.2.1.2.2.1,b.2.2.1.2.2.2.1]:List Int).length) 8) (some ((([a.2.1]++([a.2.2.1.1,a.2.2.1.2.1,a.2.2.1.2.2.1,a.2.2.1.2.2.2.1]:List Int)),([b.2.1]++([b.2.2.1.1,b.2.2.1.2.1,b.2.2.1.2.2.1,b.2.2.1.2.2.2.1]:List Int)),()),()))) (req (room (([b.2.1]).length+([b.2.2.1.1,b.2.2.1.2.1,b.2.2.1.2.2.1,b.2.2.1.2.2.2.1]:List Int).length) 8) (some ((([a.2.1]++([a.2.2.1.1,a.2.2.1.2.1,a.2.2.1.2.2.1,a.2.2.1.2.2.2.1]:List Int)),([b.2.1]++([b.2.2.1.1,b.2.2.1.2.1,b.2.2.1.2.2.1,b.2.2.1.2.2.2.1]:List Int)),()),()))))) (agree (agree (req (room (([a.2.1]).length+([a.2.2.1.1,a.2.2.1.2.1,a.2.2.1.2.2.1,a.2.2.1.2.2.2.1]:List Int).length) 8) (req (room (([b.2.1]).length+([b.2.2.1.1,b.2.2.1.2.1,b.2.2.1.2.2.1,b.2.2.1.2.2.2.1]:List Int).length) 8) (some ((([a.2.1]++([a.2.2.1.1,a.2.2.1.2.1,a.2.2.1.2.2.1,a.2.2.1.2.2.2.1]:List Int)),([b.2.1]++([b.2.2.1.1,b.2.2.1.2.1,b.2.2.1.2.2.1,b.2.2.1.2.2.2.1]:List Int)),()),())))) (req (room (([a.2.1]).length+([a.2.2.1.1,a.2.2.1.2.1,a.2.2.1.2.2.1,a.2.2.1.2.2.2.1]:List Int).length) 8) (req (room (([b.2.1]).length+([b.2.2.1.1,b.2.2.1.2.1,b.2.2.1.2.2.1,b.2.2.1.2.2.2.1]:List Int).length) 8) (some ((([a.2.1]++([a.2.2.1.1,a.2.2.1.2.1,a.2.2.1.2.2.1,a.2.2.1.2.2.2.1]:List Int)),([b.2.1]++([b.2.2.1.1,b.2.2.1.2.1,b.2.2.1.2.2.1,b.2.2.1.2.2.2.1]:List Int)),()),()))))) (agree (req (room (([a.2.1]).length+([a.2.2.1.1,a.2.2.1.2.1,a.2.2.1.2.2.1,a.2.2.1.2.2.2.1]:List Int).length) 8) (req (room (([b.2.1]).length+([b.2.2.1.1,b.2.2.1.2.1,b.2.2.1.2.2.1,b.2.2.1.2.2.2.1]:List Int).length) 8) (some ((([a.2.1]++([a.2.2.1.1,a.2.2.1.2.1,a.2.2.1.2.2.1,a.2.2.1.2.2.2.1]:List Int)),([b.2.1]++([b.2.2.1.1,b.2.2.1.2.1,b.2.2.1.2.2.1,b.2.2.1.2.2.2.1]:List Int)),()),())))) (req (room (([a.2.1]).length+([a.2.2.1.1,a.2.2.1.2.1,a.2.2.1.2.2.1,a.2.2.1.2.2.2.1]:List Int).length) 8) (req (room (([b.2.1]).length+([b.2.2.1.1,b.2.2.1.2.1,b.2.2.1.2.2.1,b.2.2.1.2.2.2.1]:List Int).length) 8) (some ((([a.2.1]++([a.2.2.1.1,a.2.2.1.2.1,a.2.2.1.2.2.1,a.2.2.1.2.2.2.1]:List Int)),([b.2.1]++([b.2.2.1.1,b.2.2.1.2.1,b.2.2.1.2.2.1,b.2.2.1.2.2.2.1]:List Int)),()),()))))))) (agree (agree (agree (req (room (([a.2.1]).length+([a.2.2.1.1,a.2.2.1.2.1,a.2.2.1.2.2.1,a.2.2.1.2.2.2.1]:List Int).length) 8) (req (room (([b.2.1]).length+([b.2.2.1.1,b.2.2.1.2.1,b.2.2.1.2.2.1,b.2.2.1.2.2.2.1]:List Int).length) 8) (some ((([a.2.1]++([a.2.2.1.1,a.2.2.1.2.1,a.2.2.1.2.2.1,a.2.2.1.2.2.2.1]:List Int)),([b.2.1]++([b.2.2.1.1,b.2.2.1.2.1,b.2.2.1.2.2.1,b.2.2.1.2.2.2.1]:List Int)),()),())))) (req (room (([a.2.1]).length+([a.2.2.1.1,a.2.2.1.2.1,a.2.2.1.2.2.1,a.2.2.1.2.2.2.1]:List Int).length) 8) (req (room (([b.2.1]).length+([b.2.2.1.1,b.2.2.1.2.1,b.2.2.1.2.2.1,b.2.2.1.2.2.2.1]:List Int).length) 8) (some ((([a.2.1]++([a.2.2.1.1,a.2.2.1.2.1,a.2.2.1.2.2.1,a.2.2.1.2.2.2.1]:List Int)),([b.2.1]++([b.2.2.1.1,b.2.2.1.2.1,b.2.2.1.2.2.1,b.2.2.1.2.2.2.1]:List Int)),()),()))))) (req (room (([a.2.1]).length+([a.2.2.1.1,a.2.2.1.2.1,a.2.2.1.2.2.1,a.2.2.1.2.2.2.1]:List Int).length) 8) (req (room (([b.2.1]).length+([b.2.2.1.1,b.2.2.1.2.1,b.2.2.1.2.2.1,b.2.2.1.2.2.2.1]:List Int).length) 8) (some ((([a.2.1]++([a.2.2.1.1,a.2.2.1.2.1,a.2.2.1.2.2.1,a.2.2.1.2.2.2.1]:List Int)),([b.2.1]++([b.2.2.1.1,b.2.2.1.2.1,b.2.2.1.2.2.1,b.2.2.1.2.2.2.1]:List Int)),()),()))))) (agree (agree (req (room (([a.2.1]).length+([a.2.2.1.1,a.2.2.1.2.1,a.2.2.1.2.2.1,a.2.2.1.2.2.2.1]:List Int).length) 8) (req (room (([b.2.1]).length+([b.2.2.1.1,b.2.2.1.2.1,b.2.2.1.2.2.1,b.2.2.1.2.2.2.1]:List Int).length) 8) (some ((([a.2.1]++([a.2.2.1.1,a.2.2.1.2.1,a.2.2.1.2.2.1,a.2.2.1.2.2.2.1]:List Int)),([b.2.1]++([b.2.2.1.1,b.2.2.1.2.1,b.2.2.1.2.2.1,b.2.2.1.2.2.2.1]:List Int)),()),())))) (req (room (([a.2.1]).length+([a.2.2.1.1,a.2.2.1.2.1,a.2.2.1.2.2.1,a.2.2.1.2.2.2.1]:List Int).length) 8) (req (room (([b.2.1]).length+([b.2.2.1.1,b.2.2.1.2.1,b.2.2.1.2.2.1,b.2.2.1.2.2.2.1]:List Int).length) 8) (some ((([a.2.1]++([a.2.2.1.1,a.2.2.1.2.1,a.2.2.1.2.2.1,a.2.2.1.2.2.2.1]:List Int)),([b.2.1]++([b.2.2.1.1,b.2.2.1.2.1,b.2.2.1.2.2.1,b.2.2.1.2.2.2.1]:List Int)),()),()))))) (req (room (([a.2.1]).length+([a.2.2.1.1,a.2.2.1.2.1,a.2.2.1.2.2.1,a.2.2.1.2.2.2.1]:List Int).length) 8) (req (room (([b.2.1]).length+([b.2.2.1.1,b.2.2.1.2.1,b.2.2.1.2.2.1,b.2.2.1.2.2.2.1]:List Int).length) 8) (some ((([a.2.1]++([a.2.2.1.1,a.2.2.1.2.1,a.2.2.1.2.2.1,a.2.2.1.2.2.2.1]:List Int)),([b.2.1]++([b.2.2.1.1,b.2.2.1.2.1,b.2.2.1.2.2.1,b.2.2.1.2.2.2.1]:List Int)),()),()))))))) (agree (agree (agree (req (room (([a.2.1]).length+([a.2.2.1.1,a.2.2.1.2.1,a.2.2.1.2.2.1,a.2.2.1.2.2.2.1]:List Int).length) 8) (agree (req (room (([b.2.1]).length+([b.2.2.1.1,b.2.2.1.2.1,b.2.2.1.2.2.1,b.2.2.1.2.2.2.1]:List Int).length) 8) (some ((([a.2.1]++([a.2.2.1.1,a.2.2.1.2.1,a.2.2.1.2.2.1,a.2.2.1.2.2.2.1]:List Int)),([b.2.1]++([b.2.2.1.1,b.2.2.1.2.1,b.2.2.1.2.2.1,b.2.2.1.2.2.2.1]:List Int)),()),()))) (req (room (([b.2.1]).length+([b.2.2.1.1,b.2.2.1.2.1,b.2.2.1.2.2.1,b.2.2.1.2.2.2.1]:List Int).length) 8) (some ((([a.2.1]++([a.2.2.1.1,a.2.2.1.2.1,a.2.2.1.2.2.1,a.2.2.1.2.2.2.1]:List Int)),([b.2.1]++([b.2.2.1.1,b.2.2.1.2.1,b.2.2.1.2.2.1,b.2.2.1.2.2.2.1]:List Int)),()),()))))) (agree (agree (req (room (([a.2.1]).length+([a.2.2.1.1,a.2.2.1.2.1,a.2.2.1.2.2.1,a.2.2.1.2.2.2.1]:List Int).length) 8) (req (room (([b.2.1]).length+([b.2.2.1.1,b.2.2.1.2.1,b.2.2.1.2.2.1,b.2.2.1.2.2.2.1]:List Int).length) 8) (some ((([a.2.1]++([a.2.2.1.1,a.2.2.1.2.1,a.2.2.1.2.2.1,a.2.2.1.2.2.2.1]:List Int)),([b.2.1]++([b.2.2.1.1,b.2.2.1.2.1,b.2.2.1.2.2.1,b.2.2.1.2.2.2.1]:List Int)),()),())))) (req (room (([a.2.1]).length+([a.2.2.1.1,a.2.2.1.2.1,a.2.2.1.2.2.1,a.2.2.1.2.2.2.1]:List Int).length) 8) (req (room (([b.2.1]).length+([b.2.2.1.1,b.2.2.1.2.1,b.2.2.1.2.2.1,b.2.2.1.2.2.2.1]:List Int).length) 8) (some ((([a.2.1]++([a.2.2.1.1,a.2.2.1.2.1,a.2.2.1.2.2.1,a.2.2.1.2.2.2.1]:List Int)),([b.2.1]++([b.2.2.1.1,b.2.2.1.2.1,b.2.2.1.2.2.1,b.2.2.1.2.2.2.1]:List Int)),()),()))))) (agree (req (room (([a.2.1]).length+([a.2.2.1.1,a.2.2.1.2.1,a.2.2.1.2.2.1,a.2.2.1.2.2.2.1]:List Int).length) 8) (req (room (([b.2.1]).length+([b.2.2.1.1,b.2.2.1.2.1,b.2.2.1.2.2.1,b.2.2.1.2.2.2.1]:List Int).length) 8) (some ((([a.2.1]++([a.2.2.1.1,a.2.2.1.2.1,a.2.2.1.2.2.1,a.2.2.1.2.2.2.1]:List Int)),([b.2.1]++([b.2.2.1.1,b.2.2.1.2.1,b.2.2.1.2.2.1,b.2.2.1.2.2.2.1]:List Int)),()),())))) (req (room (([a.2.1]).length+([a.2.2.1.1,a.2.2.1.2.1,a.2.2.1.2.2.1,a.2.2.1.2.2.2.1]:List Int).length) 8) (req (room (([b.2.1]).length+([b.2.2.1.1,b.2.2.1.2.1,b.2.2.1.2.2.1,b.2.2.1.2.2.2.1]:List Int).length) 8) (some ((([a.2.1]++([a.2.2.1.1,a.2.2.1.2.1,a.2.2.1.2.2.1,a.2.2.1.2.2.2.1]:List Int)),([b.2.1]++([b.2.2.1.1,b.2.2.1.2.1,b.2.2.1.2.2.1,b.2.2.1.2.2.2.1]:List Int)),()),()))))))) (agree (agree (agree (req (room (([a.2.1]).length+([a.2.2.1.1,a.2.2.1.2.1,a.2.2.1.2.2.1,a.2.2.1.2.2.2.1]:List Int).length) 8) (req (room (([b.2.1]).length+([b.2.2.1.1,b.2.2.1.2.1,b.2.2.1.2.2.1,b.2.2.1.2.2.2.1]:List Int).length) 8) (some ((([a.2.1]++([a.2.2.1.1,a.2.2.1.2.1,a.2.2.1.2.2.1,a.2.2.1.2.2.2.1]:List Int)),([b.2.1]++([b.2.2.1.1,b.2.2.1.2.1,b.2.2.1.2.2.1,b.2.2.1.2.2.2.1]:List Int)),()),())))) (req (room (([a.2.1]).length+([a.2.2.1.1,a.2.2.1.2.1,a.2.2.1.2.2.1,a.2.2.1.2.2.2.1]:List Int).length) 8) (req (room (([b.2.1]).length+([b.2.2.1.1,b.2.2.1.2.1,b.2.2.1.2.2.1,b.2.2.1.2.2.2.1]:List Int).length) 8) (some ((([a.2.1]++([a.2.2.1.1,a.2.2.1.2.1,a.2.2.1.2.2.1,a.2.2.1.2.2.2.1]:List Int)),([b.2.1]++([b.2.2.1.1,b.2.2.1.2.1,b.2.2.1.2.2.1,b.2.2.1.2.2.2.1]:List Int)),()),()))))) (req (room (([a.2.1]).length+([a.2.2.1.1,a.2.2.1.2.1,a.2.2.1.2.2.1,a.2.2.1.2.2.2.1]:List Int).length) 8) (req (room (([b.2.1]).length+([b.2.2.1.1,b.2.2.1.2.1,b.2.2.1.2.2.1,b.2.2.1.2.2.2.1]:List Int).length) 8) (some ((([a.2.1]++([a.2.2.1.1,a.2.2.1.2.1,a.2.2.1.2.2.1,a.2.2.1.2.2.2.1]:List Int)),([b.2.1]++([b.2.2.1.1,b.2.2.1.2.1,b.2.2.1.2.2.1,b.2.2.1.2.2.2.1]:List Int)),()),()))))) (agree (agree (req (room (([a.2.1]).length+([a.2.2.1.1,a.2.2.1.2.1,a.2.2.1.2.2.1,a.2.2.1.2.2.2.1]:List Int).length) 8) (req (room (([b.2.1]).length+([b.2.2.1.1,b.2.2.1.2.1,b.2.2.1.2.2.1,b.2.2.1.2.2.2.1]:List Int).length) 8) (some ((([a.2.1]++([a.2.2.1.1,a.2.2.1.2.1,a.2.2.1.2.2.1,a.2.2.1.2.2.2.1]:List Int)),([b.2.1]++([b.2.2.1.1,b.2.2.1.2.1,b.2.2.1.2.2.1,b.2.2.1.2.2.2.1]:List Int)),()),())))) (req (room (([a.2.1]).length+([a.2.2.1.1,a.2.2.1.2.1,a.2.2.1.2.2.1,a.2.2.1.2.2.2.1]:List Int).length) 8) (req (room (([b.2.1]).length+([b.2.2.1.1,b.2.2.1.2.1,b.2.2.1.2.2.1,b.2.2.1.2.2.2.1]:List Int).length) 8) (some ((([a.2.1]++([a.2.2.1.1,a.2.2.1.2.1,a.2.2.1.2.2.1,a.2.2.1.2.2.2.1]:List Int)),([b.2.1]++([b.2.2.1.1,b.2.2.1.2.1,b.2.2.1.2.2.1,b.2.2.1.2.2.2.1]:List Int)),()),()))))) (req (room (([a.2.1]).length+([a.2.2.1.1,a.2.2.1.2.1,a.2.2.1.2.2.1,a.2.2.1.2.2.2.1]:List Int).length) 8) (req (room (([b.2.1]).length+([b.2.2.1.1,b.2.2.1.2.1,b.2.2.1.2.2.1,b.2.2.1.2.2.2.1]:List Int).length) 8) (some ((([a.2.1]++([a.2.2.1.1,a.2.2.1.2.1,a.2.2.1.2.2.1,a.2.2.1.2.2.2.1]:List Int)),([b.2.1]++([b.2.2.1.1,b.2.2.1.2.1,b.2.2.1.2.2.1,b.2.2.1.2.2.2.1]:List Int)),()),()))))))) (agree (agree (agree (agree (req (room (([a.2.1]).length+([a.2.2.1.1,a.2.2.1.2.1,a.2.2.1.2.2.1,a.2.2.1.2.2.2.1]:List Int).length) 8) (req (room (([b.2.1]).length+([b.2.2.1.1,b.2.2.1.2.1,b.2.2.1.2.2.1,b.2.2.1.2.2.2.1]:List Int).length) 8) (some ((([a.2.1]++([a.2.2.1.1,a.2.2.1.2.1,a.2.2.1.2.2.1,a.2.2.1.2.2.2.1]:List Int)),([b.2.1]++([b.2.2.1.1,b.2.2.1.2.1,b.2.2.1.2.2.1,b.2.2.1.2.2.2.1]:List Int)),()),())))) (req (room (([a.2.1]).length+([a.2.2.1.1,a.2.2.1.2.1,a.2.2.1.2.2.1,a.2.2.1.2.2.2.1]:List Int).length) 8) (req (room (([b.2.1]).length+([b.2.2.1.1,b.2.2.1.2.1,b.2.2.1.2.2.1,b.2.2.1.2.2.2.1]:List Int).length) 8) (some ((([a.2.1]++([a.2.2.1.1,a.2.2.1.2.1,a.2.2.1.2.2.1,a.2.2.1.2.2.2.1]:List Int)),([b.2.1]++([b.2.2.1.1,b.2.2.1.2.1,b.2.2.1.2.2.1,b.2.2.1.2.2.2.1]:List Int)),()),()))))) (req (room (([a.2.1]).length+([a.2.2.1.1,a.2.2.1.2.1,a.2.2.1.2.2.1,a.2.2.1.2.2.2.1]:List Int).length) 8) (req (room (([b.2.1]).length+([b.2.2.1.1,b.2.2.1.2.1,b.2.2.1.2.2.1,b.2.2.1.2.2.2.1]:List Int).length) 8) (some ((([a.2.1]++([a.2.2.1.1,a.2.2.1.2.1,a.2.2.1.2.2.1,a.2.2.1.2.2.2.1]:List Int)),([b.2.1]++([b.2.2.1.1,b.2.2.1.2.1,b.2.2.1.2.2.1,b.2.2.1.2.2.2.1]:List Int)),()),()))))) (agree (agree (agree (req (room (([a.2.1]).length+([a.2.2.1.1,a.2.2.1.2.1,a.2.2.1.2.2.1,a.2.2.1.2.2.2.1]:List Int).length) 8) (req (room (([b.2.1]).length+([b.2.2.1.1,b.2.2.1.2.1,b.2.2.1.2.2.1,b.2.2.1.2.2.2.1]:List Int).length) 8) (some ((([a.2.1]++([a.2.2.1.1,a.2.2.1.2.1,a.2.2.1.2.2.1,a.2.2.1.2.2.2.1]:List Int)),([b.2.1]++([b.2.2.1.1,b.2.2.1.2.1,b.2.2.1.2.2.1,b.2.2.1.2.2.2.1]:List Int)),()),())))) (req (room (([a.2.1]).length+([a.2.2.1.1,a.2.2.1.2.1,a.2.2.1.2.2.1,a.2.2.1.2.2.2.1]:List Int).length) 8) (req (room (([b.2.1]).length+([b.2.2.1.1,b.2.2.1.2.1,b.2.2.1.2.2.1,b.2.2.1.2.2.2.1]:List Int).length) 8) (some ((([a.2.1]++([a.2.2.1.1,a.2.2.1.2.1,a.2.2.1.2.2.1,a.2.2.1.2.2.2.1]:List Int)),([b.2.1]++([b.2.2.1.1,b.2.2.1.2.1,b.2.2.1.2.2.1,b.2.2.1.2.2.2.1]:List Int)),()),()))))) (req (room (([a.2.1]).length+([a.2.2.1.1,a.2.2.1.2.1,a.2.2.1.2.2.1,a.2.2.1.2.2.2.1]:List Int).length) 8) (req (room (([b.2.1]).length+([b.2.2.1.1,b.2.2.1.2.1,b.2.2.1.2.2.1,b.2.2.1.2.2.2.1]:List Int).length) 8) (some ((([a.2.1]++([a.2.2.1.1,a.2.2.1.2.1,a.2.2.1.2.2.1,a.2.2.1.2.2.2.1]:List Int)),([b.2.1]++([b.2.2.1.1,b.2.2.1.2.1,b.2.2.1.2.2.1,b.2.2.1.2.2.2.1]:List Int)),()),()))))) (agree (req (room (([a.2.1]).length+([a.2.2.1.1,a.2.2.1.2.1,a.2.2.1.2.2.1,a.2.2.1.2.2.2.1]:List Int).length) 8) (req (room (([b.2.1]).length+([b.2.2.1.1,b.2.2.1.2.1,b.2.2.1.2.2.1,b.2.2.1.2.2.2.1]:List Int).length) 8) (some ((([a.2.1]++([a.2.2.1.1,a.2.2.1.2.1,a.2.2.1.2.2.1,a.2.2.1.2.2.2.1]:List Int)),([b.2.1]++([b.2.2.1.1,b.2.2.1.2.1,b.2.2.1.2.2.1,b.2.2.1.2.2.2.1]:List Int)),()),())))) (req (room (([a.2.1]).length+([a.2.2.1.1,a.2.2.1.2.1,a.2.2.1.2.2.1,a.2.2.1.2.2.2.1]:List Int).length) 8) (req (room (([b.2.1]).length+([b.2.2.1.1,b.2.2.1.2.1,b.2.2.1.2.2.1,b.2.2.1.2.2.2.1]:List Int).length) 8) (some ((([a.2.1]++([a.2.2.1.1,a.2.2.1.2.1,a.2.2.1.2.2.1,a.2.2.1.2.2.2.1]:List Int)),([b.2.1]++([b.2.2.1.1,b.2.2.1.2.1,b.2.2.1.2.2.1,b.2.2.1.2.2.2.1]:List Int)),()),()))))))) (agree (agree (agree (req (room (([a.2.1]).length+([a.2.2.1.1,a.2.2.1.2.1,a.2.2.1.2.2.1,a.2.2.1.2.2.2.1]:List Int).length) 8) (req (room (([b.2.1]).length+([b.2.2.1.1,b.2.2.1.2.1,b.2.2.1.2.2.1,b.2.2.1.2.2.2.1]:List Int).length) 8) (some ((([a.2.1]++([a.2.2.1.1,a.2.2.1.2.1,a.2.2.1.2.2.1,a.2.2.1.2.2.2.1]:List Int)),([b.2.1]++([b.2.2.1.1,b.2.2.1.2.1,b.2.2.1.2.2.1,b.2.2.1.2.2.2.1]:List Int)),()),())))) (req (room (([a.2.1]).length+([a.2.2.1.1,a.2.2.1.2.1,a.2.2.1.2.2.1,a.2.2.1.2.2.2.1]:List Int).length) 8) (req (room (([b.2.1]).length+([b.2.2.1.1,b.2.2.1.2.1,b.2.2.1.2.2.1,b.2.2.1.2.2.2.1]:List Int).length) 8) (some ((([a.2.1]++([a.2.2.1.1,a.2.2.1.2.1,a.2.2.1.2.2.1,a.2.2.1.2.2.2.1]:List Int)),([b.2.1]++([b.2.2.1.1,b.2.2.1.2.1,b.2.2.1.2.2.1,b.2.2.1.2.2.2.1]:List Int)),()),()))))) (req (room (([a.2.1]).length+([a.2.2.1.1,a.2.2.1.2.1,a.2.2.1.2.2.1,a.2.2.1.2.2.2.1]:List Int).length) 8) (req (room (([b.2.1]).length+([b.2.2.1.1,b.2.2.1.2.1,b.2.2.1.2.2.1,b.2.2.1.2.2.2.1]:List Int).length) 8) (some ((([a.2.1]++([a.2.2.1.1,a.2.2.1.2.1,a.2.2.1.2.2.1,a.2.2.1.2.2.2.1]:List Int)),([b.2.1]++([b.2.2.1.1,b.2.2.1.2.1,b.2.2.1.2.2.1,b.2.2.1.2.2.2.1]:List Int)),()),()))))) (agree (agree (agree (req (room (([a.2.1]).length+([a.2.2.1.1,a.2.2.1.2.1,a.2.2.1.2.2.1,a.2.2.1.2.2.2.1]:List Int).length) 8) (req (room (([b.2.1]).length+([b.2.2.1.1,b.2.2.1.2.1,b.2.2.1.2.2.1,b.2.2.1.2.2.2.1]:List Int).length) 8) (some ((([a.2.1]++([a.2.2.1.1,a.2.2.1.2.1,a.2.2.1.2.2.1,a.2.2.1.2.2.2.1]:List Int)),([b.2.1]++([b.2.2.1.1,b.2.2.1.2.1,b.2.2.1.2.2.1,b.2.2.1.2.2.2.1]:List Int)),()),())))) (req (room (([a.2.1]).length+([a.2.2.1.1,a.2.2.1.2.1,a.2.2.1.2.2.1,a.2.2.1.2.2.2.1]:List Int).length) 8) (req (room (([b.2.1]).length+([b.2.2.1.1,b.2.2.1.2.1,b.2.2.1.2.2.1,b.2.2.1.2.2.2.1]:List Int).length) 8) (some ((([a.2.1]++([a.2.2.1.1,a.2.2.1.2.1,a.2.2.1.2.2.1,a.2.2.1.2.2.2.1]:List Int)),([b.2.1]++([b.2.2.1.1,b.2.2.1.2.1,b.2.2.1.2.2.1,b.2.2.1.2.2.2.1]:List Int)),()),()))))) (req (room (([a.2.1]).length+([a.2.2.1.1,a.2.2.1.2.1,a.2.2.1.2.2.1,a.2.2.1.2.2.2.1]:List Int).length) 8) (req (room (([b.2.1]).length+([b.2.2.1.1,b.2.2.1.2.1,b.2.2.1.2.2.1,b.2.2.1.2.2.2.1]:List Int).length) 8) (some ((([a.2.1]++([a.2.2.1.1,a.2.2.1.2.1,a.2.2.1.2.2.1,a.2.2.1.2.2.2.1]:List Int)),([b.2.1]++([b.2.2.1.1,b.2.2.1.2.1,b.2.2.1.2.2.1,b.2.2.1.2.2.2.1]:List Int)),()),()))))) (agree (req (room (([a.2.1]).length+([a.2.2.1.1,a.2.2.1.2.1,a.2.2.1.2.2.1,a.2.2.1.2.2.2.1]:List Int).length) 8) (req (room (([b.2.1]).length+([b.2.2.1.1,b.2.2.1.2.1,b.2.2.1.2.2.1,b.2.2.1.2.2.2.1]:List Int).length) 8) (some ((([a.2.1]++([a.2.2.1.1,a.2.2.1.2.1,a.2.2.1.2.2.1,a.2.2.1.2.2.2.1]:List Int)),([b.2.1]++([b.2.2.1.1,b.2.2.1.2.1,b.2.2.1.2.2.1,b.2.2.1.2.2.2.1]:List Int)),()),())))) (req (room (([a.2.1]).length+([a.2.2.1.1,a.2.2.1.2.1,a.2.2.1.2.2.1,a.2.2.1.2.2.2.1]:List Int).length) 8) (req (room (([b.2.1]).length+([b.2.2.1.1,b.2.2.1.2.1,b.2.2.1.2.2.1,b.2.2.1.2.2.2.1]:List Int).length) 8) (some ((([a.2.1]++([a.2.2.1.1,a.2.2.1.2.1,a.2.2.1.2.2.1,a.2.2.1.2.2.2.1]:List Int)),([b.2.1]++([b.2.2.1.1,b.2.2.1.2.1,b.2.2.1.2.2.1,b.2.2.1.2.2.2.1]:List Int)),()),())))))))))) (agree (agree (agree (req (room (([a.2.1]).length+([a.2.2.1.1,a.2.2.1.2.1,a.2.2.1.2.2.1,a.2.2.1.2.2.2.1]:List Int).length) 8) (req (room (([b.2.1]).length+([b.2.2.1.1,b.2.2.1.2.1,b.2.2.1.2.2.1,b.2.2.1.2.2.2.1]:List Int).length) 8) (some ((([a.2.1]++([a.2.2.1.1,a.2.2.1.2.1,a.2.2.1.2.2.1,a.2.2.1.2.2.2.1]:List Int)),([b.2.1]++([b.2.2.1.1,b.2.2.1.2.1,b.2.2.1.2.2.1,b.2.2.1.2.2.2.1]:List Int)),()),())))) (agree (req (room (([a.2.1]).length+([a.2.2.1.1,a.2.2.1.2.1,a.2.2.1.2.2.1,a.2.2.1.2.2.2.1]:List Int).length) 8) (req (room (([b.2.1]).length+([b.2.2.1.1,b.2.2.1.2.1,b.2.2.1.2.2.1,b.2.2.1.2.2.2.1]:List Int).length) 8) (some ((([a.2.1]++([a.2.2.1.1,a.2.2.1.2.1,a.2.2.1.2.2.1,a.2.2.1.2.2.2.1]:List Int)),([b.2.1]++([b.2.2.1.1,b.2.2.1.2.1,b.2.2.1.2.2.1,b.2.2.1.2.2.2.1]:List Int)),()),())))) (req (room (([a.2.1]).length+([a.2.2.1.1,a.2.2.1.2.1,a.2.2.1.2.2.1,a.2.2.1.2.2.2.1]:List Int).length) 8) (req (room (([b.2.1]).length+([b.2.2.1.1,b.2.2.1.2.1,b.2.2.1.2.2.1,b.2.2.1.2.2.2.1]:List Int).length) 8) (some ((([a.2.1]++([a.2.2.1.1,a.2.2.1.2.1,a.2.2.1.2.2.1,a.2.2.1.2.2.2.1]:List Int)),([b.2.1]++([b.2.2.1.1,b.2.2.1.2.1,b.2.2.1.2.2.1,b.2.2.1.2.2.2.1]:List Int)),()),())))))) (agree (agree (req (room (([a.2.1]).length+([a.2.2.1.1,a.2.2.1.2.1,a.2.2.1.2.2.1,a.2.2.1.2.2.2.1]:List Int).length) 8) (req (room (([b.2.1]).length+([b.2.2.1.1,b.2.2.1.2.1,b.2.2.1.2.2.1,b.2.2.1.2.2.2.1]:List Int).length) 8) (some ((([a.2.1]++([a.2.2.1.1,a.2.2.1.2.1,a.2.2.1.2.2.1,a.2.2.1.2.2.2.1]:List Int)),([b.2.1]++([b.2.2.1.1,b.2.2.1.2.1,b.2.2.1.2.2.1,b.2.2.1.2.2.2.1]:List Int)),()),())))) (req (room (([a.2.1]).length+([a.2.2.1.1,a.2.2.1.2.1,a.2.2.1.2.2.1,a.2.2.1.2.2.2.1]:List Int).length) 8) (req (room (([b.2.1]).length+([b.2.2.1.1,b.2.2.1.2.1,b.2.2.1.2.2.1,b.2.2.1.2.2.2.1]:List Int).length) 8) (some ((([a.2.1]++([a.2.2.1.1,a.2.2.1.2.1,a.2.2.1.2.2.1,a.2.2.1.2.2.2.1]:List Int)),([b.2.1]++([b.2.2.1.1,b.2.2.1.2.1,b.2.2.1.2.2.1,b.2.2.1.2.2.2.1]:List Int)),()),()))))) (req (room (([a.2.1]).length+([a.2.2.1.1,a.2.2.1.2.1,a.2.2.1.2.2.1,a.2.2.1.2.2.2.1]:List Int).length) 8) (req (room (([b.2.1]).length+([b.2.2.1.1,b.2.2.1.2.1,b.2.2.1.2.2.1,b.2.2.1.2.2.2.1]:List Int).length) 8) (some ((([a.2.1]++([a.2.2.1.1,a.2.2.1.2.1,a.2.2.1.2.2.1,a.2.2.1.2.2.2.1]:List Int)),([b.2.1]++([b.2.2.1.1,b.2.2.1.2.1,b.2.2.1.2.2.1,b.2.2.1.2.2.2.1]:List Int)),()),())))))) (agree (agree (agree (req (room (([a.2.1]).length+([a.2.2.1.1,a.2.2.1.2.1,a.2.2.1.2.2.1,a.2.2.1.2.2.2.1]:List Int).length) 8) (req (room (([b.2.1]).length+([b.2.2.1.1,b.2.2.1.2.1,b.2.2.1.2.2.1,b.2.2.1.2.2.2.1]:List Int).length) 8) (some ((([a.2.1]++([a.2.2.1.1,a.2.2.1.2.1,a.2.2.1.2.2.1,a.2.2.1.2.2.2.1]:List Int)),([b.2.1]++([b.2.2.1.1,b.2.2.1.2.1,b.2.2.1.2.2.1,b.2.2.1.2.2.2.1]:List Int)),()),())))) (agree (req (room (([a.2.1]).length+([a.2.2.1.1,a.2.2.1.2.1,a.2.2.1.2.2.1,a.2.2.1.2.2.2.1]:List Int).length) 8) (req (room (([b.2.1]).length+([b.2.2.1.1,b.2.2.1.2.1,b.2.2.1.2.2.1,b.2.2.1.2.2.2.1]:List Int).length) 8) (some ((([a.2.1]++([a.2.2.1.1,a.2.2.1.2.1,a.2.2.1.2.2.1,a.2.2.1.2.2.2.1]:List Int)),([b.2.1]++([b.2.2.1.1,b.2.2.1.2.1,b.2.2.1.2.2.1,b.2.2.1.2.2.2.1]:List Int)),()),())))) (req (room (([a.2.1]).length+([a.2.2.1.1,a.2.2.1.2.1,a.2.2.1.2.2.1,a.2.2.1.2.2.2.1]:List Int).length) 8) (req (room (([b.2.1]).length+([b.2.2.1.1,b.2.2.1.2.1,b.2.2.1.2.2.1,b.2.2.1.2.2.2.1]:List Int).length) 8) (some ((([a.2.1]++([a.2.2.1.1,a.2.2.1.2.1,a.2.2.1.2.2.1,a.2.2.1.2.2.2.1]:List Int)),([b.2.1]++([b.2.2.1.1,b.2.2.1.2.1,b.2.2.1.2.2.1,b.2.2.1.2.2.2.1]:List Int)),()),())))))) (agree (agree (req (room (([a.2.1]).length+([a.2.2.1.1,a.2.2.1.2.1,a.2.2.1.2.2.1,a.2.2.1.2.2.2.1]:List Int).length) 8) (req (room (([b.2.1]).length+([b.2.2.1.1,b.2.2.1.2.1,b.2.2.1.2.2.1,b.2.2.1.2.2.2.1]:List Int).length) 8) (some ((([a.2.1]++([a.2.2.1.1,a.2.2.1.2.1,a.2.2.1.2.2.1,a.2.2.1.2.2.2.1]:List Int)),([b.2.1]++([b.2.2.1.1,b.2.2.1.2.1,b.2.2.1.2.2.1,b.2.2.1.2.2.2.1]:List Int)),()),())))) (req (room (([a.2.1]).length+([a.2.2.1.1,a.2.2.1.2.1,a.2.2.1.2.2.1,a.2.2.1.2.2.2.1]:List Int).length) 8) (req (room (([b.2.1]).length+([b.2.2.1.1,b.2.2.1.2.1,b.2.2.1.2.2.1,b.2.2.1.2.2.2.1]:List Int).length) 8) (some ((([a.2.1]++([a.2.2.1.1,a.2.2.1.2.1,a.2.2.1.2.2.1,a.2.2.1.2.2.2.1]:List Int)),([b.2.1]++([b.2.2.1.1,b.2.2.1.2.1,b.2.2.1.2.2.1,b.2.2.1.2.2.2.1]:List Int)),()),()))))) (req (room (([a.2.1]).length+([a.2.2.1.1,a.2.2.1.2.1,a.2.2.1.2.2.1,a.2.2.1.2.2.2.1]:List Int).length) 8) (req (room (([b.2.1]).length+([b.2.2.1.1,b.2.2.1.2.1,b.2.2.1.2.2.1,b.2.2.1.2.2.2.1]:List Int).length) 8) (some ((([a.2.1]++([a.2.2.1.1,a.2.2.1.2.1,a.2.2.1.2.2.1,a.2.2.1.2.2.2.1]:List Int)),([b.2.1]++([b.2.2.1.1,b.2.2.1.2.1,b.2.2.1.2.2.1,b.2.2.1.2.2.2.1]:List Int)),()),())))))) (agree (agree (agree (req (room (([a.2.1]).length+([a.2.2.1.1,a.2.2.1.2.1,a.2.2.1.2.2.1,a.2.2.1.2.2.2.1]:List Int).length) 8) (req (room (([b.2.1]).length+([b.2.2.1.1,b.2.2.1.2.1,b.2.2.1.2.2.1,b.2.2.1.2.2.2.1]:List Int).length) 8) (some ((([a.2.1]++([a.2.2.1.1,a.2.2.1.2.1,a.2.2.1.2.2.1,a.2.2.1.2.2.2.1]:List Int)),([b.2.1]++([b.2.2.1.1,b.2.2.1.2.1,b.2.2.1.2.2.1,b.2.2.1.2.2.2.1]:List Int)),()),())))) (req (room (([a.2.1]).length+([a.2.2.1.1,a.2.2.1.2.1,a.2.2.1.2.2.1,a.2.2.1.2.2.2.1]:List Int).length) 8) (req (room (([b.2.1]).length+([b.2.2.1.1,b.2.2.1.2.1,b.2.2.1.2.2.1,b.2.2.1.2.2.2.1]:List Int).length) 8) (some ((([a.2.1]++([a.2.2.1.1,a.2.2.1.2.1,a.2.2.1.2.2.1,a.2.2.1.2.2.2.1]:List Int)),([b.2.1]++([b.2.2.1.1,b.2.2.1.2.1,b.2.2.1.2.2.1,b.2.2.1.2.2.2.1]:List Int)),()),()))))) (req (room (([a.2.1]).length+([a.2.2.1.1,a.2.2.1.2.1,a.2.2.1.2.2.1,a.2.2.1.2.2.2.1]:List Int).length) 8) (req (room (([b.2.1]).length+([b.2.2.1.1,b.2.2.1.2.1,b.2.2.1.2.2.1,b.2.2.1.2.2.2.1]:List Int).length) 8) (some ((([a.2.1]++([a.2.2.1.1,a.2.2.1.2.1,a.2.2.1.2.2.1,a.2.2.1.2.2.2.1]:List Int)),([b.2.1]++([b.2.2.1.1,b.2.2.1.2.1,b.2.2.1.2.2.1,b.2.2.1.2.2.2.1]:List Int)),()),()))))) (agree (agree (agree (req (room (([a.2.1]).length+([a.2.2.1.1,a.2.2.1.2.1,a.2.2.1.2.2.1,a.2.2.1.2.2.2.1]:List Int).length) 8) (req (room (([b.2.1]).length+([b.2.2.1.1,b.2.2.1.2.1,b.2.2.1.2.2.1,b.2.2.1.2.2.2.1]:List Int).length) 8) (some ((([a.2.1]++([a.2.2.1.1,a.2.2.1.2.1,a.2.2.1.2.2.1,a.2.2.1.2.2.2.1]:List Int)),([b.2.1]++([b.2.2.1.1,b.2.2.1.2.1,b.2.2.1.2.2.1,b.2.2.1.2.2.2.1]:List Int)),()),())))) (req (room (([a.2.1]).length+([a.2.2.1.1,a.2.2.1.2.1,a.2.2.1.2.2.1,a.2.2.1.2.2.2.1]:List Int).length) 8) (req (room (([b.2.1]).length+([b.2.2.1.1,b.2.2.1.2.1,b.2.2.1.2.2.1,b.2.2.1.2.2.2.1]:List Int).length) 8) (some ((([a.2.1]++([a.2.2.1.1,a.2.2.1.2.1,a.2.2.1.2.2.1,a.2.2.1.2.2.2.1]:List Int)),([b.2.1]++([b.2.2.1.1,b.2.2.1.2.1,b.2.2.1.2.2.1,b.2.2.1.2.2.2.1]:List Int)),()),()))))) (req (room (([a.2.1]).length+([a.2.2.1.1,a.2.2.1.2.1,a.2.2.1.2.2.1,a.2.2.1.2.2.2.1]:List Int).length) 8) (req (room (([b.2.1]).length+([b.2.2.1.1,b.2.2.1.2.1,b.2.2.1.2.2.1,b.2.2.1.2.2.2.1]:List Int).length) 8) (some ((([a.2.1]++([a.2.2.1.1,a.2.2.1.2.1,a.2.2.1.2.2.1,a.2.2.1.2.2.2.1]:List Int)),([b.2.1]++([b.2.2.1.1,b.2.2.1.2.1,b.2.2.1.2.2.1,b.2.2.1.2.2.2.1]:List Int)),()),()))))) (agree (req (room (([a.2.1]).length+([a.2.2.1.1,a.2.2.1.2.1,a.2.2.1.2.2.1,a.2.2.1.2.2.2.1]:List Int).length) 8) (req (room (([b.2.1]).length+([b.2.2.1.1,b.2.2.1.2.1,b.2.2.1.2.2.1,b.2.2.1.2.2.2.1]:List Int).length) 8) (some ((([a.2.1]++([a.2.2.1.1,a.2.2.1.2.1,a.2.2.1.2.2.1,a.2.2.1.2.2.2.1]:List Int)),([b.2.1]++([b.2.2.1.1,b.2.2.1.2.1,b.2.2.1.2.2.1,b.2.2.1.2.2.2.1]:List Int)),()),())))) (req (room (([a.2.1]).length+([a.2.2.1.1,a.2.2.1.2.1,a.2.2.1.2.2.1,a.2.2.1.2.2.2.1]:List Int).length) 8) (req (room (([b.2.1]).length+([b.2.2.1.1,b.2.2.1.2.1,b.2.2.1.2.2.1,b.2.2.1.2.2.2.1]:List Int).length) 8) (some ((([a.2.1]++([a.2.2.1.1,a.2.2.1.2.1,a.2.2.1.2.2.1,a.2.2.1.2.2.2.1]:List Int)),([b.2.1]++([b.2.2.1.1,b.2.2.1.2.1,b.2.2.1.2.2.1,b.2.2.1.2.2.2.1]:List Int)),()),())))))))))))) fun x1 =>
  Option.bind (α:=Zv17 ⊕ Bool) (iterW (qb0 x1) (((0:Int),()),())) (Sum.elim (fun x3 =>
  some false) some)
def qb9 (games:List Zv14) (x1:Zv18×Zv6) (x4:Zv18×Zv6):Option (Zv3 ⊕ Zv4) :=
  bif (decide (x4.1.1<((games.length:Nat):Int))) then(Option.bind (at? games x4.1.1) fun d5 =>
  Option.bind (bif (d5.1==x1.1.1) then(req (inb x1.1.1 x4.2.1.length) (req (inb x1.1.1 x4.2.1.length) (Option.bind (some (getD' x4.2.1 ((x1.1.1).toNat) ((0:Int),((0:Int),(((0:Int),((0:Int),((0:Int),((0:Int),())))),((0:Int),((0:Int),()))))))) fun e6 =>
  Option.bind (some (x4.2.1.set ((x1.1.1).toNat) (e6.1,((w64 (((getD' x4.2.1 ((x1.1.1).toNat) ((0:Int),((0:Int),(((0:Int),((0:Int),((0:Int),((0:Int),())))),((0:Int),((0:Int),())))))).2).1+d5.2.2.1)),e6.2.2)))) fun y7 =>
  some ((),(y7,())))))
  else some ((),(x4.2.1,()))) fun x8 =>
  Option.bind (bif (d5.2.1==x1.1.1) then(req (inb x1.1.1 x8.2.1.length) (req (inb x1.1.1 x8.2.1.length) (Option.bind (some (getD' x8.2.1 ((x1.1.1).toNat) ((0:Int),((0:Int),(((0:Int),((0:Int),((0:Int),((0:Int),())))),((0:Int),((0:Int),()))))))) fun e9 =>
  Option.bind (some (x8.2.1.set ((x1.1.1).toNat) (e9.1,((w64 (((getD' x8.2.1 ((x1.1.1).toNat) ((0:Int),((0:Int),(((0:Int),((0:Int),((0:Int),((0:Int),())))),((0:Int),((0:Int),())))))).2).1+(w64 ((2:Int)-d5.2.2.1)))),e9.2.2)))) fun y10 =>
  some ((),(y10,())))))
  else some ((),(x8.2.1,()))) fun x11 =>
  some (Sum.inl (((w64 (x4.1.1+1)),()),(x11.2.1,()))))
  else some (Sum.inr ((),(x4.2.1,())))
def qcc (n:Int) (games:List Zv14) (x1:Zv18×Zv6):Option (Zv3 ⊕ Zv4) :=
  bif (decide (x1.1.1<(((List.replicate (n).toNat ((0:Int),((0:Int),(((0:Int),((0:Int),((0:Int),((0:Int),())))),((0:Int),((0:Int),())))))).length:Nat):Int))) then(Option.bind (req (inb x1.1.1 x1.2.1.length) (Option.bind (some (getD' x1.2.1 ((x1.1.1).toNat) ((0:Int),((0:Int),(((0:Int),((0:Int),((0:Int),((0:Int),())))),((0:Int),((0:Int),()))))))) fun e2 =>
  Option.bind (some (x1.2.1.set ((x1.1.1).toNat) (x1.1.1,e2.2))) fun y3 =>
  Option.bind (iterW (qb9 games x1) (((0:Int),()),(y3,()))) fun x12 =>
  some ((),(x12.2.1,())))) fun x13 =>
  some (Sum.inl (((w64 (x1.1.1+1)),()),(x13.2.1,()))))
  else some (Sum.inr ((),(x1.2.1,())))
def qc6 (games:List Zv14) (x15:Zv18×Zv6) (x16:Zv18×Zv6):Option (Zv3 ⊕ Zv4) :=
  bif (decide (x16.1.1<((games.length:Nat):Int))) then(Option.bind (at? games x16.1.1) fun d17 =>
  Option.bind (bif (x15.1.1==d17.1) then(req (inb d17.2.1 x16.2.1.length) (Option.bind (some (getD' x16.2.1 ((x15.1.1).toNat) ((0:Int),((0:Int),(((0:Int),((0:Int),((0:Int),((0:Int),())))),((0:Int),((0:Int),()))))))) fun e18 =>
  Option.bind (some (x16.2.1.set ((x15.1.1).toNat) (e18.1,(e18.2.1,(((w64 (((((getD' x16.2.1 ((x15.1.1).toNat) ((0:Int),((0:Int),(((0:Int),((0:Int),((0:Int),((0:Int),())))),((0:Int),((0:Int),())))))).2).2).1).1+((getD' x16.2.1 ((d17.2.1).toNat) ((0:Int),((0:Int),(((0:Int),((0:Int),((0:Int),((0:Int),())))),((0:Int),((0:Int),())))))).2).1)),e18.2.2.1.2),e18.2.2.2))))) fun y19 =>
  req (inb d17.2.1 y19.length) (Option.bind (some (getD' y19 ((x15.1.1).toNat) ((0:Int),((0:Int),(((0:Int),((0:Int),((0:Int),((0:Int),())))),((0:Int),((0:Int),()))))))) fun e20 =>
  Option.bind (some (y19.set ((x15.1.1).toNat) (e20.1,(e20.2.1,((e20.2.2.1.1,((w64 ((((((getD' y19 ((x15.1.1).toNat) ((0:Int),((0:Int),(((0:Int),((0:Int),((0:Int),((0:Int),())))),((0:Int),((0:Int),())))))).2).2).1).2).1+(w64 (((getD' y19 ((d17.2.1).toNat) ((0:Int),((0:Int),(((0:Int),((0:Int),((0:Int),((0:Int),())))),((0:Int),((0:Int),())))))).2).1*d17.2.2.1)))),e20.2.2.1.2.2)),e20.2.2.2))))) fun y21 =>
  Option.bind (some (getD' y21 ((x15.1.1).toNat) ((0:Int),((0:Int),(((0:Int),((0:Int),((0:Int),((0:Int),())))),((0:Int),((0:Int),()))))))) fun e22 =>
  Option.bind (some (y21.set ((x15.1.1).toNat) (e22.1,(e22.2.1,((e22.2.2.1.1,(e22.2.2.1.2.1,((w64 (((((((getD' y21 ((x15.1.1).toNat) ((0:Int),((0:Int),(((0:Int),((0:Int),((0:Int),((0:Int),())))),((0:Int),((0:Int),())))))).2).2).1).2).2).1+(w64 (d17.2.2.1.tdiv 2)))),e22.2.2.1.2.2.2))),e22.2.2.2))))) fun y23 =>
  some ((),(y23,())))))
  else Option.bind (bif (x15.1.1==d17.2.1) then(req (inb d17.1 x16.2.1.length) (Option.bind (some (getD' x16.2.1 ((x15.1.1).toNat) ((0:Int),((0:Int),(((0:Int),((0:Int),((0:Int),((0:Int),())))),((0:Int),((0:Int),()))))))) fun e24 =>
  Option.bind (some (x16.2.1.set ((x15.1.1).toNat) (e24.1,(e24.2.1,(((w64 (((((getD' x16.2.1 ((x15.1.1).toNat) ((0:Int),((0:Int),(((0:Int),((0:Int),((0:Int),((0:Int),())))),((0:Int),((0:Int),())))))).2).2).1).1+((getD' x16.2.1 ((d17.1).toNat) ((0:Int),((0:Int),(((0:Int),((0:Int),((0:Int),((0:Int),())))),((0:Int),((0:Int),())))))).2).1)),e24.2.2.1.2),e24.2.2.2))))) fun y25 =>
  req (inb d17.1 y25.length) (Option.bind (some (getD' y25 ((x15.1.1).toNat) ((0:Int),((0:Int),(((0:Int),((0:Int),((0:Int),((0:Int),())))),((0:Int),((0:Int),()))))))) fun e26 =>
  Option.bind (some (y25.set ((x15.1.1).toNat) (e26.1,(e26.2.1,((e26.2.2.1.1,((w64 ((((((getD' y25 ((x15.1.1).toNat) ((0:Int),((0:Int),(((0:Int),((0:Int),((0:Int),((0:Int),())))),((0:Int),((0:Int),())))))).2).2).1).2).1+(w64 (((getD' y25 ((d17.1).toNat) ((0:Int),((0:Int),(((0:Int),((0:Int),((0:Int),((0:Int),())))),((0:Int),((0:Int),())))))).2).1*(w64 ((2:Int)-d17.2.2.1)))))),e26.2.2.1.2.2)),e26.2.2.2))))) fun y27 =>
  Option.bind (some (getD' y27 ((x15.1.1).toNat) ((0:Int),((0:Int),(((0:Int),((0:Int),((0:Int),((0:Int),())))),((0:Int),((0:Int),()))))))) fun e28 =>
  Option.bind (some (y27.set ((x15.1.1).toNat) (e28.1,(e28.2.1,((e28.2.2.1.1,(e28.2.2.1.2.1,((w64 (((((((getD' y27 ((x15.1.1).toNat) ((0:Int),((0:Int),(((0:Int),((0:Int),((0:Int),((0:Int),())))),((0:Int),((0:Int),())))))).2).2).1).2).2).1+(w64 ((w64 ((2:Int)-d17.2.2.1)).tdiv 2)))),e28.2.2.1.2.2.2))),e28.2.2.2))))) fun y29 =>
  Option.bind (some (getD' y29 ((x15.1.1).toNat) ((0:Int),((0:Int),(((0:Int),((0:Int),((0:Int),((0:Int),())))),((0:Int),((0:Int),()))))))) fun e30 =>
  Option.bind (some (y29.set ((x15.1.1).toNat) (e30.1,(e30.2.1,((e30.2.2.1.1,(e30.2.2.1.2.1,(e30.2.2.1.2.2.1,((w64 ((((((((getD' y29 ((x15.1.1).toNat) ((0:Int),((0:Int),(((0:Int),((0:Int),((0:Int),((0:Int),())))),((0:Int),((0:Int),())))))).2).2).1).2).2).2).1+1)),())))),e30.2.2.2))))) fun y31 =>
  some ((),(y31,())))))
  else some ((),(x16.2.1,()))) fun x32 =>
  some ((),(x32.2.1,()))) fun x33 =>
  some (Sum.inl (((w64 (x16.1.1+1)),()),(x33.2.1,()))))
  else some (Sum.inr ((),(x16.2.1,())))
def qce (x14:(Unit)×Zv6) (games:List Zv14) (x15:Zv18×Zv6):Option (Zv3 ⊕ Zv4) :=
  bif (decide (x15.1.1<((x14.2.1.length:Nat):Int))) then(Option.bind (req (inb x15.1.1 x15.2.1.length) (Option.bind (iterW (qc6 games x15) (((0:Int),()),(x15.2.1,()))) fun x34 =>
  some ((),(x34.2.1,())))) fun x35 =>
  some (Sum.inl (((w64 (x15.1.1+1)),()),(x35.2.1,()))))
  else some (Sum.inr ((),(x15.2.1,())))
def qci (y41:List Zv8) (x37:Zv18×Zv6) (x42:Zv18×Zv6):Option (Zv3 ⊕ Zv4) :=
  bif (decide (x42.1.1<((y41.length:Nat):Int))) then(req (inb x42.1.1 x42.2.1.length) (req (inb x37.1.1 x42.2.1.length) (Option.bind (qcI (getD' x42.2.1 ((x42.1.1).toNat) ((0:Int),((0:Int),(((0:Int),((0:Int),((0:Int),((0:Int),())))),((0:Int),((0:Int),())))))) (getD' x42.2.1 ((x37.1.1).toNat) ((0:Int),((0:Int),(((0:Int),((0:Int),((0:Int),((0:Int),())))),((0:Int),((0:Int),()))))))) fun r43 =>
  Option.bind (bif r43 then(req (inb x37.1.1 x42.2.1.length) (req (inb x37.1.1 x42.2.1.length) (Option.bind (some (getD' x42.2.1 ((x37.1.1).toNat) ((0:Int),((0:Int),(((0:Int),((0:Int),((0:Int),((0:Int),())))),((0:Int),((0:Int),()))))))) fun e44 =>
  Option.bind (some (x42.2.1.set ((x37.1.1).toNat) (e44.1,(e44.2.1,(e44.2.2.1,((w64 (((((getD' x42.2.1 ((x37.1.1).toNat) ((0:Int),((0:Int),(((0:Int),((0:Int),((0:Int),((0:Int),())))),((0:Int),((0:Int),())))))).2).2).2).1+1)),e44.2.2.2.2)))))) fun y45 =>
  some ((),(y45,())))))
  else some ((),(x42.2.1,()))) fun x46 =>
  req (inb x37.1.1 x46.2.1.length) (req (inb x42.1.1 x46.2.1.length) (Option.bind (qcI (getD' x46.2.1 ((x37.1.1).toNat) ((0:Int),((0:Int),(((0:Int),((0:Int),((0:Int),((0:Int),())))),((0:Int),((0:Int),())))))) (getD' x46.2.1 ((x42.1.1).toNat) ((0:Int),((0:Int),(((0:Int),((0:Int),((0:Int),((0:Int),())))),((0:Int),((0:Int),()))))))) fun r47 =>
  Option.bind (bif (!r47) then(req (inb x37.1.1 x46.2.1.length) (req (inb x37.1.1 x46.2.1.length) (Option.bind (some (getD' x46.2.1 ((x37.1.1).toNat) ((0:Int),((0:Int),(((0:Int),((0:Int),((0:Int),((0:Int),())))),((0:Int),((0:Int),()))))))) fun e48 =>
  Option.bind (some (x46.2.1.set ((x37.1.1).toNat) (e48.1,(e48.2.1,(e48.2.2.1,(e48.2.2.2.1,((w64 ((((((getD' x46.2.1 ((x37.1.1).toNat) ((0:Int),((0:Int),(((0:Int),((0:Int),((0:Int),((0:Int),())))),((0:Int),((0:Int),())))))).2).2).2).2).1+1)),()))))))) fun y49 =>
  some ((),(y49,())))))
  else some ((),(x46.2.1,()))) fun x50 =>
  some (Sum.inl (((w64 (x42.1.1+1)),()),(x50.2.1,()))))))))
  else some (Sum.inr ((),(x42.2.1,())))
def qcb (x36:(Unit)×Zv6) (x37:Zv18×Zv6):Option (Zv3 ⊕ Zv4) :=
  bif (decide (x37.1.1<((x36.2.1.length:Nat):Int))) then(Option.bind (req (inb x37.1.1 x37.2.1.length) (Option.bind (some (getD' x37.2.1 ((x37.1.1).toNat) ((0:Int),((0:Int),(((0:Int),((0:Int),((0:Int),((0:Int),())))),((0:Int),((0:Int),()))))))) fun e38 =>
  Option.bind (some (x37.2.1.set ((x37.1.1).toNat) (e38.1,(e38.2.1,(e38.2.2.1,((1:Int),e38.2.2.2.2)))))) fun y39 =>
  req (inb x37.1.1 y39.length) (Option.bind (some (getD' y39 ((x37.1.1).toNat) ((0:Int),((0:Int),(((0:Int),((0:Int),((0:Int),((0:Int),())))),((0:Int),((0:Int),()))))))) fun e40 =>
  Option.bind (some (y39.set ((x37.1.1).toNat) (e40.1,(e40.2.1,(e40.2.2.1,(e40.2.2.2.1,((0:Int),()))))))) fun y41 =>
  Option.bind (iterW (qci y41 x37) (((0:Int),()),(y41,()))) fun x51 =>
  some ((),(x51.2.1,()))))) fun x52 =>
  some (Sum.inl (((w64 (x37.1.1+1)),()),(x52.2.1,()))))
  else some (Sum.inr ((),(x37.2.1,())))
def qfk (n:Int) (games:List Zv14):Option Zv7 :=
  req (decide (0≤n)&&(n==n&&room (n).toNat 64)) (Option.bind (iterW (qcc n games) (((0:Int),()),((List.replicate (n).toNat ((0:Int),((0:Int),(((0:Int),((0:Int),((0:Int),((0:Int),())))),((0:Int),((0:Int),())))))),()))) fun x14 =>
  Option.bind (iterW (qce x14 games) (((0:Int),()),(x14.2.1,()))) fun x36 =>
  Option.bind (iterW (qcb x36) (((0:Int),()),(x36.2.1,()))) fun x53 =>
  some x53.2.1)
def qb1 (games:List Zv14) (a:Int) (b:Int) (x1:Zv14×(Unit)):Option ((Zv14×(Unit)) ⊕ Zv12) :=
  bif (decide (x1.1.2.2.1<((games.length:Nat):Int))) then(Option.bind (at? games x1.1.2.2.1) fun d2 =>
  Option.bind (bif ((d2.1==a)&&(d2.2.1==b)) then some (((w64 (x1.1.1+d2.2.2.1)),(w64 ((w64 (x1.1.2.1+2))-d2.2.2.1)),()),())
  else some ((x1.1.1,x1.1.2.1,()),())) fun x3 =>
  Option.bind (bif ((d2.1==b)&&(d2.2.1==a)) then some (((w64 ((w64 (x3.1.1+2))-d2.2.2.1)),(w64 (x3.1.2.1+d2.2.2.1)),()),())
  else some ((x3.1.1,x3.1.2.1,()),())) fun x4 =>
  some (Sum.inl ((x4.1.1,x4.1.2.1,(w64 (x1.1.2.2.1+1)),()),())))
  else some (Sum.inr ((x1.1.1,x1.1.2.1,()),()))
def qb8 (n:Int) (games:List Zv14) (a:Int) (b:Int) (d:Int) (h:Int):Option (Bool) :=
  bif (((decide ((if b<a then b else a)<0))||(decide ((if b>a then b else a)≥n)))||(a==b)) then some ((h==1)&&(d==0))
  else Option.bind (iterW (qb1 games a b) (((0:Int),(0:Int),(0:Int),()),())) fun x5 =>
  some ((((h==0)&&((decide (d>0))==(decide (x5.1.1>x5.1.2.1))))&&((decide (d<0))==(decide (x5.1.1<x5.1.2.1))))&&(decide ((w64 (d*d))≤1)))
def qas (rows:List Zv8) (x3:Zv18×(Unit)):Option (Zv15 ⊕ (Zv17 ⊕ Zv13)) :=
  bif (decide (x3.1.1<((rows.length:Nat):Int))) then(Option.bind (at? rows x3.1.1) fun d4 =>
  Option.bind (gat (!((((decide (d4.2.2.2.1<1))||(decide (d4.2.2.2.1>(w64 (x3.1.1+1)))))||(decide (d4.2.2.2.2.1<(w64 (x3.1.1+1)))))||(decide (d4.2.2.2.2.1>((rows.length:Nat):Int))))) ((0:Int),((0:Int),(((0:Int),((0:Int),((0:Int),((0:Int),())))),((0:Int),((0:Int),()))))) rows (w64 (d4.2.2.2.1-1))) fun d5 =>
  Option.bind (gat (!(((((decide (d4.2.2.2.1<1))||(decide (d4.2.2.2.1>(w64 (x3.1.1+1)))))||(decide (d4.2.2.2.2.1<(w64 (x3.1.1+1)))))||(decide (d4.2.2.2.2.1>((rows.length:Nat):Int))))||(d5.2.2.2.1 !=d4.2.2.2.1))) ((0:Int),((0:Int),(((0:Int),((0:Int),((0:Int),((0:Int),())))),((0:Int),((0:Int),()))))) rows (w64 (d4.2.2.2.1-1))) fun d6 =>
  bif ((((((decide (d4.2.2.2.1<1))||(decide (d4.2.2.2.1>(w64 (x3.1.1+1)))))||(decide (d4.2.2.2.2.1<(w64 (x3.1.1+1)))))||(decide (d4.2.2.2.2.1>((rows.length:Nat):Int))))||(d5.2.2.2.1 !=d4.2.2.2.1))||(d6.2.2.2.2.1 !=d4.2.2.2.2.1)) then some (Sum.inr (Sum.inr (([]:List Int),((3:Int),()))))
  else some (Sum.inl (((w64 (x3.1.1+1)),()),())))
  else some (Sum.inr (Sum.inl ((),())))
def qa0 (prizes:List Int) (d9:Int×Int×Zv11×Int×Int×Unit) (x10:Zv16×(Unit)):Option (Zv12 ⊕ Zv15) :=
  bif (decide (x10.1.2.1≤(if ((prizes.length:Nat):Int)<d9.2.2.2.2.1 then((prizes.length:Nat):Int) else d9.2.2.2.2.1))) then(Option.bind (at? prizes (w64 (x10.1.2.1-1))) fun d11 =>
  some (Sum.inl (((w64 (x10.1.1+d11)),(w64 (x10.1.2.1+1)),()),())))
  else some (Sum.inr ((x10.1.1,()),()))
def qar (rows:List Zv8) (prizes:List Int) (x8:Zv13×(Unit)):Option ((Zv13×(Unit)) ⊕ ((Zv19×Unit)×(Unit))) :=
  bif (decide (x8.1.2.1<((rows.length:Nat):Int))) then(Option.bind (Option.bind (at? rows x8.1.2.1) fun d9 =>
  Option.bind (iterW (qa0 prizes d9) (((0:Int),d9.2.2.2.1,()),())) fun x12 =>
  req ((w64 ((w64 (d9.2.2.2.2.1-d9.2.2.2.1))+1))!=0) (req ((w64 ((w64 (d9.2.2.2.2.1-d9.2.2.2.1))+1))!=0) (Option.bind (bif (decide ((w64 ((w64 (x8.1.2.1+1))-d9.2.2.2.1))<(x12.1.1.tmod (w64 ((w64 (d9.2.2.2.2.1-d9.2.2.2.1))+1))))) then some (((w64 ((w64 (x12.1.1.tdiv (w64 ((w64 (d9.2.2.2.2.1-d9.2.2.2.1))+1))))+1)),()),())
  else some (((w64 (x12.1.1.tdiv (w64 ((w64 (d9.2.2.2.2.1-d9.2.2.2.1))+1)))),()),())) fun x13 =>
  req (room (x8.1.1.length+([x13.1.1]).length) 8) (some (((x8.1.1++[x13.1.1]),()),()))))) fun x14 =>
  some (Sum.inl ((x14.1.1,(w64 (x8.1.2.1+1)),()),())))
  else some (Sum.inr ((x8.1.1,()),()))
def qK (prizes:List Int) (rows:List Zv8) (x1:Zv18×(Unit)):Option (Zv15 ⊕ (Zv17 ⊕ Zv13)) :=
  bif (decide (x1.1.1<((prizes.length:Nat):Int))) then(Option.bind (at? prizes x1.1.1) fun d2 =>
  bif ((decide (d2<0))||(decide (d2>100000000))) then(Option.map Sum.inr (Option.map Sum.inr (bif (decide (x1.1.1≥0)) then some (([]:List Int),((4:Int),()))
  else Option.bind (α:=Zv17 ⊕ Zv13) (iterW (qas rows) (((0:Int),()),())) (Sum.elim (fun x7 =>
  Option.bind (iterW (qar rows prizes) ((([]:List Int),(0:Int),()),())) fun x15 =>
  some (x15.1.1,((0:Int),()))) some))))
  else some (Sum.inl (((w64 (x1.1.1+1)),()),())))
  else some (Sum.inr (Sum.inl ((),())))
def qaH (rows:List Zv8) (prizes:List Int):Option Zv13 :=
  bif ((decide (((rows.length:Nat):Int)>32))||(decide (((prizes.length:Nat):Int)>32))) then some (([]:List Int),((2:Int),()))
  else Option.bind (α:=Zv17 ⊕ Zv13) (iterW (qK prizes rows) (((0:Int),()),())) (Sum.elim (fun x16 =>
  Option.bind (α:=Zv17 ⊕ Zv13) (iterW (qas rows) (((0:Int),()),())) (Sum.elim (fun x21 =>
  Option.bind (iterW (qar rows prizes) ((([]:List Int),(0:Int),()),())) fun x29 =>
  some (x29.1.1,((0:Int),()))) some)) some)
def qan (prizes:List Int) (r2:Zv19×Int×Unit) (x3:Zv18×(Unit)):Option (Zv15 ⊕ (Zv17 ⊕ Bool)) :=
  bif (decide (x3.1.1<((prizes.length:Nat):Int))) then(Option.bind (at? prizes x3.1.1) fun d4 =>
  bif ((decide (d4<0))||(decide (d4>100000000))) then some (Sum.inr (Sum.inr ((r2.2.1==4)&&(((r2.1.length:Nat):Int)==0))))
  else some (Sum.inl (((w64 (x3.1.1+1)),()),())))
  else some (Sum.inr (Sum.inl ((),())))
def qbE (prizes:List Int) (d7:Int×Int×Zv11×Int×Int×Unit) (x8:Zv16×(Unit)):Option (Zv12 ⊕ Zv15) :=
  bif (decide (x8.1.2.1<((prizes.length:Nat):Int))) then(Option.bind (bif ((decide ((w64 (x8.1.2.1+1))≥d7.2.2.2.1))&&(decide ((w64 (x8.1.2.1+1))≤d7.2.2.2.2.1))) then(Option.bind (at? prizes x8.1.2.1) fun d9 =>
  some (((w64 (x8.1.1+d9)),()),()))
  else some ((x8.1.1,()),())) fun x10 =>
  some (Sum.inl ((x10.1.1,(w64 (x8.1.2.1+1)),()),())))
  else some (Sum.inr ((x8.1.1,()),()))
def qbF (l:List Zv8) (prizes:List Int) (r2:Zv19×Int×Unit) (x6:Zv18×(Unit)):Option (Zv15 ⊕ (Zv17 ⊕ Bool)) :=
  bif (decide (x6.1.1<((l.length:Nat):Int))) then(Option.bind (α:=Zv17 ⊕ (Zv15 ⊕ (Zv17 ⊕ Bool))) (Option.bind (at? l x6.1.1) fun d7 =>
  Option.bind (iterW (qbE prizes d7) (((0:Int),(0:Int),()),())) fun x11 =>
  req (inb x6.1.1 r2.1.length) (req ((w64 ((w64 (d7.2.2.2.2.1-d7.2.2.2.1))+1))!=0) (bif ((getD' r2.1 ((x6.1.1).toNat) (0:Int))!=(w64 ((w64 ((w64 ((w64 (x11.1.1+(w64 ((w64 (d7.2.2.2.2.1-d7.2.2.2.1))+1))))-1))-(w64 ((w64 (x6.1.1+1))-d7.2.2.2.1)))).tdiv (w64 ((w64 (d7.2.2.2.2.1-d7.2.2.2.1))+1))))) then some (Sum.inr (Sum.inr (Sum.inr false)))
  else some (Sum.inl ((),()))))) (Sum.elim (fun x12 =>
  some (Sum.inl (((w64 (x6.1.1+1)),()),()))) some))
  else some (Sum.inr (Sum.inl ((),())))
def qcd (l:List Zv8) (prizes:List Int):Option (Bool) :=
  Option.bind (qaH l prizes) fun r2 =>
  Option.bind (α:=Zv17 ⊕ Bool) (iterW (qan prizes r2) (((0:Int),()),())) (Sum.elim (fun x5 =>
  bif ((r2.2.1 !=0)||(((r2.1.length:Nat):Int)!=((l.length:Nat):Int))) then some false
  else Option.bind (α:=Zv17 ⊕ Bool) (iterW (qbF l prizes r2) (((0:Int),()),())) (Sum.elim (fun x13 =>
  some true) some)) some)
def qab (games:List Zv14) (n:Int) (x16:Zv16×(Unit)):Option (Zv12 ⊕ Zv15) :=
  bif (decide (x16.1.2.1<((((games.take ((if (60:Int)<((games.length:Nat):Int) then(60:Int) else((games.length:Nat):Int))).toNat).drop 0).length:Nat):Int))) then(Option.bind (at? ((games.take ((if (60:Int)<((games.length:Nat):Int) then(60:Int) else((games.length:Nat):Int))).toNat).drop 0) x16.1.2.1) fun d17 =>
  Option.bind (bif (x16.1.1 !=0) then some ((x16.1.1,()),())
  else Option.bind (bif (((decide ((if d17.2.1<d17.1 then d17.2.1 else d17.1)<0))||(decide ((if d17.2.1>d17.1 then d17.2.1 else d17.1)≥n)))||(d17.1==d17.2.1)) then some (((3:Int),()),())
  else Option.bind (bif ((decide (d17.2.2.1<0))||(decide (d17.2.2.1>2))) then some (((4:Int),()),())
  else some ((x16.1.1,()),())) fun x18 =>
  some ((x18.1.1,()),())) fun x19 =>
  some ((x19.1.1,()),())) fun x20 =>
  some (Sum.inl ((x20.1.1,(w64 (x16.1.2.1+1)),()),())))
  else some (Sum.inr ((x16.1.1,()),()))
def qag (r11:Zv7×Int×Unit) (n:Int) (r23:List Zv8) (r12:Zv19×Int×Unit) (x25:Zv18×(Unit)):Option (Zv15 ⊕ (Zv17 ⊕ Bool)) :=
  bif (decide (x25.1.1<((r11.1.length:Nat):Int))) then(req (inb x25.1.1 r11.1.length) (req (imp (!((decide ((getD' r11.1 ((x25.1.1).toNat) ((0:Int),((0:Int),(((0:Int),((0:Int),((0:Int),((0:Int),())))),((0:Int),((0:Int),())))))).1<0))||(decide ((getD' r11.1 ((x25.1.1).toNat) ((0:Int),((0:Int),(((0:Int),((0:Int),((0:Int),((0:Int),())))),((0:Int),((0:Int),())))))).1≥n)))) (inb (getD' r11.1 ((x25.1.1).toNat) ((0:Int),((0:Int),(((0:Int),((0:Int),((0:Int),((0:Int),())))),((0:Int),((0:Int),())))))).1 r23.length)) (req (imp (!(((((decide ((getD' r11.1 ((x25.1.1).toNat) ((0:Int),((0:Int),(((0:Int),((0:Int),((0:Int),((0:Int),())))),((0:Int),((0:Int),())))))).1<0))||(decide ((getD' r11.1 ((x25.1.1).toNat) ((0:Int),((0:Int),(((0:Int),((0:Int),((0:Int),((0:Int),())))),((0:Int),((0:Int),())))))).1≥n)))||(!(((getD' r11.1 ((x25.1.1).toNat) ((0:Int),((0:Int),(((0:Int),((0:Int),((0:Int),((0:Int),())))),((0:Int),((0:Int),())))))).1==(getD' r23 (((getD' r11.1 ((x25.1.1).toNat) ((0:Int),((0:Int),(((0:Int),((0:Int),((0:Int),((0:Int),())))),((0:Int),((0:Int),())))))).1).toNat) ((0:Int),((0:Int),(((0:Int),((0:Int),((0:Int),((0:Int),())))),((0:Int),((0:Int),())))))).1)&&((((getD' r11.1 ((x25.1.1).toNat) ((0:Int),((0:Int),(((0:Int),((0:Int),((0:Int),((0:Int),())))),((0:Int),((0:Int),())))))).2).1==((getD' r23 (((getD' r11.1 ((x25.1.1).toNat) ((0:Int),((0:Int),(((0:Int),((0:Int),((0:Int),((0:Int),())))),((0:Int),((0:Int),())))))).1).toNat) ((0:Int),((0:Int),(((0:Int),((0:Int),((0:Int),((0:Int),())))),((0:Int),((0:Int),())))))).2).1)&&(((((((getD' r11.1 ((x25.1.1).toNat) ((0:Int),((0:Int),(((0:Int),((0:Int),((0:Int),((0:Int),())))),((0:Int),((0:Int),())))))).2).2).1).1==((((getD' r23 (((getD' r11.1 ((x25.1.1).toNat) ((0:Int),((0:Int),(((0:Int),((0:Int),((0:Int),((0:Int),())))),((0:Int),((0:Int),())))))).1).toNat) ((0:Int),((0:Int),(((0:Int),((0:Int),((0:Int),((0:Int),())))),((0:Int),((0:Int),())))))).2).2).1).1)&&(((((((getD' r11.1 ((x25.1.1).toNat) ((0:Int),((0:Int),(((0:Int),((0:Int),((0:Int),((0:Int),())))),((0:Int),((0:Int),())))))).2).2).1).2).1==(((((getD' r23 (((getD' r11.1 ((x25.1.1).toNat) ((0:Int),((0:Int),(((0:Int),((0:Int),((0:Int),((0:Int),())))),((0:Int),((0:Int),())))))).1).toNat) ((0:Int),((0:Int),(((0:Int),((0:Int),((0:Int),((0:Int),())))),((0:Int),((0:Int),())))))).2).2).1).2).1)&&((((((((getD' r11.1 ((x25.1.1).toNat) ((0:Int),((0:Int),(((0:Int),((0:Int),((0:Int),((0:Int),())))),((0:Int),((0:Int),())))))).2).2).1).2).2).1==((((((getD' r23 (((getD' r11.1 ((x25.1.1).toNat) ((0:Int),((0:Int),(((0:Int),((0:Int),((0:Int),((0:Int),())))),((0:Int),((0:Int),())))))).1).toNat) ((0:Int),((0:Int),(((0:Int),((0:Int),((0:Int),((0:Int),())))),((0:Int),((0:Int),())))))).2).2).1).2).2).1)&&(((((((((getD' r11.1 ((x25.1.1).toNat) ((0:Int),((0:Int),(((0:Int),((0:Int),((0:Int),((0:Int),())))),((0:Int),((0:Int),())))))).2).2).1).2).2).2).1==(((((((getD' r23 (((getD' r11.1 ((x25.1.1).toNat) ((0:Int),((0:Int),(((0:Int),((0:Int),((0:Int),((0:Int),())))),((0:Int),((0:Int),())))))).1).toNat) ((0:Int),((0:Int),(((0:Int),((0:Int),((0:Int),((0:Int),())))),((0:Int),((0:Int),())))))).2).2).1).2).2).2).1)&&true))))&&((((((getD' r11.1 ((x25.1.1).toNat) ((0:Int),((0:Int),(((0:Int),((0:Int),((0:Int),((0:Int),())))),((0:Int),((0:Int),())))))).2).2).2).1==((((getD' r23 (((getD' r11.1 ((x25.1.1).toNat) ((0:Int),((0:Int),(((0:Int),((0:Int),((0:Int),((0:Int),())))),((0:Int),((0:Int),())))))).1).toNat) ((0:Int),((0:Int),(((0:Int),((0:Int),((0:Int),((0:Int),())))),((0:Int),((0:Int),())))))).2).2).2).1)&&(((((((getD' r11.1 ((x25.1.1).toNat) ((0:Int),((0:Int),(((0:Int),((0:Int),((0:Int),((0:Int),())))),((0:Int),((0:Int),())))))).2).2).2).2).1==(((((getD' r23 (((getD' r11.1 ((x25.1.1).toNat) ((0:Int),((0:Int),(((0:Int),((0:Int),((0:Int),((0:Int),())))),((0:Int),((0:Int),())))))).1).toNat) ((0:Int),((0:Int),(((0:Int),((0:Int),((0:Int),((0:Int),())))),((0:Int),((0:Int),())))))).2).2).2).2).1)&&true)))))))||(decide (((((getD' r11.1 ((x25.1.1).toNat) ((0:Int),((0:Int),(((0:Int),((0:Int),((0:Int),((0:Int),())))),((0:Int),((0:Int),())))))).2).2).2).1>(w64 (x25.1.1+1)))))||(decide ((((((getD' r11.1 ((x25.1.1).toNat) ((0:Int),((0:Int),(((0:Int),((0:Int),((0:Int),((0:Int),())))),((0:Int),((0:Int),())))))).2).2).2).2).1<(w64 (x25.1.1+1)))))) (inb (getD' r11.1 ((x25.1.1).toNat) ((0:Int),((0:Int),(((0:Int),((0:Int),((0:Int),((0:Int),())))),((0:Int),((0:Int),())))))).1 r12.1.length)) (bif ((((((decide ((getD' r11.1 ((x25.1.1).toNat) ((0:Int),((0:Int),(((0:Int),((0:Int),((0:Int),((0:Int),())))),((0:Int),((0:Int),())))))).1<0))||(decide ((getD' r11.1 ((x25.1.1).toNat) ((0:Int),((0:Int),(((0:Int),((0:Int),((0:Int),((0:Int),())))),((0:Int),((0:Int),())))))).1≥n)))||(!(((getD' r11.1 ((x25.1.1).toNat) ((0:Int),((0:Int),(((0:Int),((0:Int),((0:Int),((0:Int),())))),((0:Int),((0:Int),())))))).1==(getD' r23 (((getD' r11.1 ((x25.1.1).toNat) ((0:Int),((0:Int),(((0:Int),((0:Int),((0:Int),((0:Int),())))),((0:Int),((0:Int),())))))).1).toNat) ((0:Int),((0:Int),(((0:Int),((0:Int),((0:Int),((0:Int),())))),((0:Int),((0:Int),())))))).1)&&((((getD' r11.1 ((x25.1.1).toNat) ((0:Int),((0:Int),(((0:Int),((0:Int),((0:Int),((0:Int),())))),((0:Int),((0:Int),())))))).2).1==((getD' r23 (((getD' r11.1 ((x25.1.1).toNat) ((0:Int),((0:Int),(((0:Int),((0:Int),((0:Int),((0:Int),())))),((0:Int),((0:Int),())))))).1).toNat) ((0:Int),((0:Int),(((0:Int),((0:Int),((0:Int),((0:Int),())))),((0:Int),((0:Int),())))))).2).1)&&(((((((getD' r11.1 ((x25.1.1).toNat) ((0:Int),((0:Int),(((0:Int),((0:Int),((0:Int),((0:Int),())))),((0:Int),((0:Int),())))))).2).2).1).1==((((getD' r23 (((getD' r11.1 ((x25.1.1).toNat) ((0:Int),((0:Int),(((0:Int),((0:Int),((0:Int),((0:Int),())))),((0:Int),((0:Int),())))))).1).toNat) ((0:Int),((0:Int),(((0:Int),((0:Int),((0:Int),((0:Int),())))),((0:Int),((0:Int),())))))).2).2).1).1)&&(((((((getD' r11.1 ((x25.1.1).toNat) ((0:Int),((0:Int),(((0:Int),((0:Int),((0:Int),((0:Int),())))),((0:Int),((0:Int),())))))).2).2).1).2).1==(((((getD' r23 (((getD' r11.1 ((x25.1.1).toNat) ((0:Int),((0:Int),(((0:Int),((0:Int),((0:Int),((0:Int),())))),((0:Int),((0:Int),())))))).1).toNat) ((0:Int),((0:Int),(((0:Int),((0:Int),((0:Int),((0:Int),())))),((0:Int),((0:Int),())))))).2).2).1).2).1)&&((((((((getD' r11.1 ((x25.1.1).toNat) ((0:Int),((0:Int),(((0:Int),((0:Int),((0:Int),((0:Int),())))),((0:Int),((0:Int),())))))).2).2).1).2).2).1==((((((getD' r23 (((getD' r11.1 ((x25.1.1).toNat) ((0:Int),((0:Int),(((0:Int),((0:Int),((0:Int),((0:Int),())))),((0:Int),((0:Int),())))))).1).toNat) ((0:Int),((0:Int),(((0:Int),((0:Int),((0:Int),((0:Int),())))),((0:Int),((0:Int),())))))).2).2).1).2).2).1)&&(((((((((getD' r11.1 ((x25.1.1).toNat) ((0:Int),((0:Int),(((0:Int),((0:Int),((0:Int),((0:Int),())))),((0:Int),((0:Int),())))))).2).2).1).2).2).2).1==(((((((getD' r23 (((getD' r11.1 ((x25.1.1).toNat) ((0:Int),((0:Int),(((0:Int),((0:Int),((0:Int),((0:Int),())))),((0:Int),((0:Int),())))))).1).toNat) ((0:Int),((0:Int),(((0:Int),((0:Int),((0:Int),((0:Int),())))),((0:Int),((0:Int),())))))).2).2).1).2).2).2).1)&&true))))&&((((((getD' r11.1 ((x25.1.1).toNat) ((0:Int),((0:Int),(((0:Int),((0:Int),((0:Int),((0:Int),())))),((0:Int),((0:Int),())))))).2).2).2).1==((((getD' r23 (((getD' r11.1 ((x25.1.1).toNat) ((0:Int),((0:Int),(((0:Int),((0:Int),((0:Int),((0:Int),())))),((0:Int),((0:Int),())))))).1).toNat) ((0:Int),((0:Int),(((0:Int),((0:Int),((0:Int),((0:Int),())))),((0:Int),((0:Int),())))))).2).2).2).1)&&(((((((getD' r11.1 ((x25.1.1).toNat) ((0:Int),((0:Int),(((0:Int),((0:Int),((0:Int),((0:Int),())))),((0:Int),((0:Int),())))))).2).2).2).2).1==(((((getD' r23 (((getD' r11.1 ((x25.1.1).toNat) ((0:Int),((0:Int),(((0:Int),((0:Int),((0:Int),((0:Int),())))),((0:Int),((0:Int),())))))).1).toNat) ((0:Int),((0:Int),(((0:Int),((0:Int),((0:Int),((0:Int),())))),((0:Int),((0:Int),())))))).2).2).2).2).1)&&true)))))))||(decide (((((getD' r11.1 ((x25.1.1).toNat) ((0:Int),((0:Int),(((0:Int),((0:Int),((0:Int),((0:Int),())))),((0:Int),((0:Int),())))))).2).2).2).1>(w64 (x25.1.1+1)))))||(decide ((((((getD' r11.1 ((x25.1.1).toNat) ((0:Int),((0:Int),(((0:Int),((0:Int),((0:Int),((0:Int),())))),((0:Int),((0:Int),())))))).2).2).2).2).1<(w64 (x25.1.1+1)))))||((getD' r12.1 (((getD' r11.1 ((x25.1.1).toNat) ((0:Int),((0:Int),(((0:Int),((0:Int),((0:Int),((0:Int),())))),((0:Int),((0:Int),())))))).1).toNat) (0:Int))!=((getD' r11.1 ((x25.1.1).toNat) ((0:Int),((0:Int),(((0:Int),((0:Int),((0:Int),((0:Int),())))),((0:Int),((0:Int),())))))).2).1)) then some (Sum.inr (Sum.inr false))
  else req (imp (decide (x25.1.1>0)) (inb (w64 (x25.1.1-1)) r11.1.length)) (req (imp ((decide (x25.1.1>0))&&(((((getD' r11.1 (((w64 (x25.1.1-1))).toNat) ((0:Int),((0:Int),(((0:Int),((0:Int),((0:Int),((0:Int),())))),((0:Int),((0:Int),())))))).2).2).2).1==((((getD' r11.1 ((x25.1.1).toNat) ((0:Int),((0:Int),(((0:Int),((0:Int),((0:Int),((0:Int),())))),((0:Int),((0:Int),())))))).2).2).2).1)) (inb (w64 (x25.1.1-1)) r11.1.length)) (bif (((decide (x25.1.1>0))&&(((((getD' r11.1 (((w64 (x25.1.1-1))).toNat) ((0:Int),((0:Int),(((0:Int),((0:Int),((0:Int),((0:Int),())))),((0:Int),((0:Int),())))))).2).2).2).1==((((getD' r11.1 ((x25.1.1).toNat) ((0:Int),((0:Int),(((0:Int),((0:Int),((0:Int),((0:Int),())))),((0:Int),((0:Int),())))))).2).2).2).1))&&(decide ((getD' r11.1 (((w64 (x25.1.1-1))).toNat) ((0:Int),((0:Int),(((0:Int),((0:Int),((0:Int),((0:Int),())))),((0:Int),((0:Int),())))))).1≥(getD' r11.1 ((x25.1.1).toNat) ((0:Int),((0:Int),(((0:Int),((0:Int),((0:Int),((0:Int),())))),((0:Int),((0:Int),())))))).1))) then some (Sum.inr (Sum.inr false))
  else some (Sum.inl (((w64 (x25.1.1+1)),()),()))))))))
  else some (Sum.inr (Sum.inl ((),())))
def qbT (n:Int) (games:List Zv14) (prizes:List Int) (a:Int) (b:Int):Option (Bool) :=
  Option.bind (qdK) fun r10 =>
  bif (!r10) then some false
  else req (qa4 (0:Int) (if (60:Int)<((games.length:Nat):Int) then(60:Int) else((games.length:Nat):Int)) games.length) (req (qa4 (0:Int) (if (12:Int)<((prizes.length:Nat):Int) then(12:Int) else((prizes.length:Nat):Int)) prizes.length) (Option.bind (qal n ((games.take ((if (60:Int)<((games.length:Nat):Int) then(60:Int) else((games.length:Nat):Int))).toNat).drop 0)) fun r11 =>
  Option.bind (qaj n ((games.take ((if (60:Int)<((games.length:Nat):Int) then(60:Int) else((games.length:Nat):Int))).toNat).drop 0)) fun r12 =>
  Option.bind (qH n ((games.take ((if (60:Int)<((games.length:Nat):Int) then(60:Int) else((games.length:Nat):Int))).toNat).drop 0) a) fun r13 =>
  Option.bind (qZ n ((games.take ((if (60:Int)<((games.length:Nat):Int) then(60:Int) else((games.length:Nat):Int))).toNat).drop 0) a b) fun r14 =>
  Option.bind (bif ((decide (n<1))||(decide (n>32))) then some (((2:Int),()),())
  else some (((0:Int),()),())) fun x15 =>
  Option.bind (iterW (qab games n) ((x15.1.1,(0:Int),()),())) fun x21 =>
  Option.bind (qG n ((games.take ((if (60:Int)<((games.length:Nat):Int) then(60:Int) else((games.length:Nat):Int))).toNat).drop 0)) fun r22 =>
  bif (r22 !=x21.1.1) then some false
  else bif (x21.1.1 !=0) then some (((((r11.2.1==x21.1.1)&&(r12.2.1==x21.1.1))&&(r13.2.1==x21.1.1))&&(r14.2.1==x21.1.1))&&((w64 ((w64 ((w64 (((r11.1.length:Nat):Int)+((r12.1.length:Nat):Int)))+r13.1.1))+r14.1))==0))
  else Option.bind (qfk n ((games.take ((if (60:Int)<((games.length:Nat):Int) then(60:Int) else((games.length:Nat):Int))).toNat).drop 0)) fun r23 =>
  Option.bind (α:=Zv17 ⊕ Bool) (bif ((decide (a<0))||(decide (a≥n))) then(bif ((r13.2.1 !=1)||(!((r13.1.1==0)&&((r13.1.2.1==0)&&((r13.1.2.2.1==0)&&((r13.1.2.2.2.1==0)&&true)))))) then some (Sum.inr false)
  else some (Sum.inl ((),())))
  else req (imp (!(r13.2.1 !=0)) (inb a r23.length)) (bif ((r13.2.1 !=0)||(!((r13.1.1==((((getD' r23 ((a).toNat) ((0:Int),((0:Int),(((0:Int),((0:Int),((0:Int),((0:Int),())))),((0:Int),((0:Int),())))))).2).2).1).1)&&((r13.1.2.1==(((((getD' r23 ((a).toNat) ((0:Int),((0:Int),(((0:Int),((0:Int),((0:Int),((0:Int),())))),((0:Int),((0:Int),())))))).2).2).1).2).1)&&((r13.1.2.2.1==((((((getD' r23 ((a).toNat) ((0:Int),((0:Int),(((0:Int),((0:Int),((0:Int),((0:Int),())))),((0:Int),((0:Int),())))))).2).2).1).2).2).1)&&((r13.1.2.2.2.1==(((((((getD' r23 ((a).toNat) ((0:Int),((0:Int),(((0:Int),((0:Int),((0:Int),((0:Int),())))),((0:Int),((0:Int),())))))).2).2).1).2).2).2).1)&&true)))))) then some (Sum.inr false)
  else some (Sum.inl ((),())))) (Sum.elim (fun x24 =>
  bif ((((r11.2.1 !=0)||(((r11.1.length:Nat):Int)!=n))||(r12.2.1 !=0))||(((r12.1.length:Nat):Int)!=n)) then some false
  else Option.bind (α:=Zv17 ⊕ Bool) (iterW (qag r11 n r23 r12) (((0:Int),()),())) (Sum.elim (fun x26 =>
  Option.bind (qb8 n ((games.take ((if (60:Int)<((games.length:Nat):Int) then(60:Int) else((games.length:Nat):Int))).toNat).drop 0) a b r14.1 r14.2.1) fun r27 =>
  Option.bind (gopt r27 false (qcd r11.1 ((prizes.take ((if (12:Int)<((prizes.length:Nat):Int) then(12:Int) else((prizes.length:Nat):Int))).toNat).drop 0))) fun r28 =>
  some (r27&&r28)) some)) some)))
end
end Go.Proofs.Ytcifaoaepbidoaa
