/- Several texts in one: DenD, DenE, DenF, DenG, Tabs, MSortS, CoreS, SwissPairsS, DenP, DenL, SwissPairsM, SwissA, SwissB, SwissD, SwissE. -/
import Derived.Test.YtcifaoaepbidoaaDenC
import Derived.Test.YtcifaoaepbidoaaMAA
namespace Go.Den
open Go.Eng
set_option linter.unusedVariables false
set_option linter.unusedSectionVars false
set_option linter.unusedSimpArgs false
variable [CT : Ctx]

theorem listed_spec {o:Nat}:∀ {l:List (Nat×Option OTy)},listed o l=true↔o∈l.map Prod.fst
  | []=>by simp[listed]
  | (p,q)::r=>by
    simp only[listed,Bool.or_eq_true,List.map_cons,List.mem_cons,listed_spec (l:=r)];constructor
    · rintro (h | h)
      · exact .inl (Nat.eq_of_beq_eq_true h).symm
      · exact .inr h
    · rintro (rfl | h)
      · exact .inl (by simp)
      · exact .inr h
theorem qV {o:Nat}:∀ {l:List (Nat×Option OTy)},qR o l=true→listed o l=true
  | (p,none)::r,h=>by
    simp only[qR,Bool.or_eq_true] at h;simp only[listed,Bool.or_eq_true];exact h.imp id qV
  | (p,some _)::r,h=>by
    simp only[qR] at h;simp only[listed,Bool.or_eq_true];exact .inr (qV h)

section
variable {F : Fr} {n0 : Nat} {objs' : List OB} {γ' : Gh} {w' : World} {T : Nat → Prop}

theorem qak:∀(l:List (Nat×Option OTy)) (y:DL (tysO l)) (base:List OB),base.length≤(concO l y base).length
  | [],_,base=>Nat.le_refl _
  | (o,none)::r,y,base=>by
    have:=qak r y (base.set o .dead);simpa[concO] using this
  | (o,some (.box τ))::r,y,base=>by
    have:=qak r y.2 (base.set o (.box (cc τ y.1 base.length).1)++(cc τ y.1 base.length).2);simp only[List.length_append,List.length_set] at this;simp only[concO];omega
  | (o,some (.arr i e))::r,y,base=>by
    have:=qak r y.2 (base.set o (.arr i e y.1 false));simpa[concO] using this
  | (o,some (.bld t i))::r,y,base=>by
    have:=qak r y.2 (base.set o (.bld t (.os base.length))++(cc (.osl i (.int .u8)) y.1 base.length).2);simp only[List.length_append,List.length_set] at this;simp only[concO];omega
theorem qm:∀(l:List (Nat×Option OTy)) (y:DL (tysO l)) (base:List OB) (o:Nat),o<base.length→listed o l=false→(concO l y base)[o]?=base[o]?
  | [],_,base,o,_,_=>rfl
  | (p,none)::r,y,base,o,ho,hl=>by
    simp only[listed,Bool.or_eq_false_iff] at hl
    have hne:p≠o:=fun e=>by subst e;simp at hl
    simp only[concO];rw[qm r y (base.set p .dead) o (by simpa using ho) hl.2,qg hne]
  | (p,some (.box τ))::r,y,base,o,ho,hl=>by
    simp only[listed,Bool.or_eq_false_iff] at hl
    have hne:p≠o:=fun e=>by subst e;simp at hl
    simp only[concO];rw[qm r y.2 _ o (by simp;omega) hl.2,List.getElem?_append_left (by simpa using ho),qg hne]
  | (p,some (.arr i e))::r,y,base,o,ho,hl=>by
    simp only[listed,Bool.or_eq_false_iff] at hl
    have hne:p≠o:=fun e=>by subst e;simp at hl
    simp only[concO];rw[qm r y.2 (base.set p (.arr i e y.1 false)) o (by simpa using ho) hl.2,qg hne]
  | (p,some (.bld t i))::r,y,base,o,ho,hl=>by
    simp only[listed,Bool.or_eq_false_iff] at hl
    have hne:p≠o:=fun e=>by subst e;simp at hl
    simp only[concO];rw[qm r y.2 _ o (by simp;omega) hl.2,List.getElem?_append_left (by simpa using ho),qg hne]
theorem qbI (r:ORel F objs' γ' w') (hT:∀k,Imm objs' γ' w' k→T k):∀(l:List (Nat×Option OTy)) {y:DL (tysO l)} (base:List OB),absO objs' l=some y→(l.map Prod.fst).Nodup→(∀q∈l,q.1<n0)→n0≤base.length →
    (∀o∈qp (idsD objs') objs' l,∀b,(γ' o).2=some b→T b) →
    ∃gs:List (Value×Option Nat),(concO l y base).length=base.length+gs.length∧gs.flatMap (fun g=>g.2.toList)=blocks γ' (qp (idsO objs') objs' l)∧(∀o∈qp (idsO objs') objs' l,Mut objs' o) ∧
      (∀q∈l,Mut (concO l y base) q.1→Mut objs' q.1∧qR q.1 l=false)∧(∀q∈l,∀i (e:Ty) (xs:List (D e)),(concO l y base)[q.1]?≠some (.arr i e xs true)) ∧
      ∀(OF:List OB) (γF:Gh),(∀o,o<(concO l y base).length→OF[o]?=(concO l y base)[o]?)→(∀k,T k→Imm OF γF w' k)→(∀o,o<n0→γF o=γ' o)→(∀j g,gs[j]?=some g→γF (base.length+j)=g)→(concO l y base).length≤OF.length →
        (∀q∈l,∀ob,OF[q.1]?=some ob→ObR OF γF w' ob (γF q.1))∧(∀o ob,base.length≤o→o<(concO l y base).length→OF[o]?=some ob→ObR OF γF w' ob (γF o)∧mutOb ob=true)
  | [],y,base,_,_,_,_,_=>⟨[],by simp[concO],by simp[qp,blocks],fun o ho=>(by simp[qp] at ho),fun q hq=>(by cases hq),fun q hq=>(by cases hq),fun OF γF _ _ _ _ _=>⟨fun q hq=>(by cases hq),fun o ob h1 h2=>(by simp[concO] at h2;omega)⟩⟩
  | (p,none)::l,y,base,h,hnd,hlt,hb,hids=>by
    simp only[absO] at h;simp only[List.map_cons,List.nodup_cons] at hnd;have hpl:listed p l=false:=Bool.eq_false_iff.2 fun hh=>hnd.1 (listed_spec.1 hh);have hp:=hlt (p,none) List.mem_cons_self;obtain⟨gs,g1,g2,g3,g4,g4b,g5⟩:=qbI r hT l (base.set p .dead) h hnd.2 (fun q hq=>hlt q (List.mem_cons_of_mem _ hq)) (by simpa using hb) (fun o ho=>hids o (by simpa[qp] using ho));have hpe:(concO l y (base.set p .dead))[p]?=some .dead:=by
      rw[qm l y _ p (by simp;simp at hp;omega) hpl,List.getElem?_set_self (by simp at hp;omega)]
    refine⟨gs,by simpa[concO] using g1,by simpa[qp] using g2,fun o ho=>g3 o (by simpa[qp] using ho),fun q hq hm=>?_,fun q hq i e xs=>?_,fun OF γF e1 e2 e3 e4 e5=>?_⟩
    · rcases List.mem_cons.1 hq with rfl | hq
      · obtain⟨ob,h1,h2⟩:=hm;simp only[concO] at h1;rw[hpe] at h1;cases h1;cases h2
      · obtain⟨h1,h2⟩:=g4 q hq hm;refine⟨h1,?_⟩;simp only[qR,Bool.or_eq_false_iff];refine⟨Bool.eq_false_iff.2 fun hh=>?_,h2⟩;have:=Nat.eq_of_beq_eq_true hh;exact hnd.1 (this▸List.mem_map_of_mem hq)
    · rcases List.mem_cons.1 hq with rfl | hq
      · simp only[concO];rw[hpe];simp
      · exact g4b q hq i e xs
    · obtain⟨f1,f2⟩:=g5 OF γF e1 e2 e3 (by simpa using e4) e5;refine⟨fun q hq ob hob=>?_,fun o ob h1 h2=>f2 o ob (by simpa using h1) h2⟩;rcases List.mem_cons.1 hq with rfl | hq
      · have hlen:=qak l y (base.set p .dead);rw[e1 p (by simp only[concO];simp at hlen hp;omega)] at hob;simp only[concO] at hob;rw[hpe] at hob;cases hob;trivial
      · exact f1 q hq ob hob
  | (p,some (.arr i e))::l,y,base,h,hnd,hlt,hb,hids=>by
    simp only[absO,Option.bind_eq_some_iff] at h;obtain⟨ob,hob,h⟩:=h
    cases ob with
    | arr i' e' xs fz =>
      cases fz with
      | true=>simp at h
      | false =>
        simp only[chk_some,Option.bind_eq_some_iff] at h;obtain⟨hi,x,hx,y2,hy,hyy⟩:=h;have hyy:(x,y2)=y:=Option.some.inj hyy;subst hyy;have hi:=Nat.eq_of_beq_eq_true hi;subst hi;obtain⟨rfl,hx⟩:=qr hx;subst hx;simp only[List.map_cons,List.nodup_cons] at hnd;have hpl:listed p l=false:=Bool.eq_false_iff.2 fun hh=>hnd.1 (listed_spec.1 hh);have hp:=hlt (p,some (.arr i e')) List.mem_cons_self;obtain⟨gs,g1,g2,g3,g4,g4b,g5⟩:=qbI r hT l (base.set p (.arr i e' xs false)) hy hnd.2 (fun q hq=>hlt q (List.mem_cons_of_mem _ hq)) (by simpa using hb) (fun o ho=>hids o (by simpa[qp] using ho));have hpe:(concO l y2 (base.set p (.arr i e' xs false)))[p]?=some (.arr i e' xs false):=by
          rw[qm l y2 _ p (by simp;simp at hp;omega) hpl,List.getElem?_set_self (by simp at hp;omega)]
        refine⟨gs,by simpa[concO] using g1,by simpa[qp] using g2,fun o ho=>g3 o (by simpa[qp] using ho),fun q hq hm=>?_,fun q hq i2 e2 xs2=>?_,fun OF γF e1 e2 e3 e4 e5=>?_⟩
        · rcases List.mem_cons.1 hq with rfl | hq
          · refine⟨⟨_,hob,rfl⟩,?_⟩;simp only[qR]
            exact Bool.eq_false_iff.2 fun hh=>by rw[qV hh] at hpl;cases hpl
          · obtain⟨h1,h2⟩:=g4 q hq hm;exact⟨h1,by simpa[qR] using h2⟩
        · rcases List.mem_cons.1 hq with rfl | hq
          · simp only[concO];rw[hpe];simp
          · exact g4b q hq i2 e2 xs2
        · obtain⟨f1,f2⟩:=g5 OF γF e1 e2 e3 (by simpa using e4) e5;refine⟨fun q hq ob' hob'=>?_,fun o ob h1 h2=>f2 o ob (by simpa using h1) h2⟩;rcases List.mem_cons.1 hq with rfl | hq
          · have hlen:=qak l y2 (base.set p (.arr i e' xs false));rw[e1 p (by simp only[concO];simp at hlen hp;omega)] at hob';simp only[concO] at hob';rw[hpe] at hob';cases hob';obtain⟨us,h6,h7⟩:=r.rep p _ hob;rw[e3 p hp];exact⟨us,h6,h7.mono fun x c hx=>Rep.mono (fun k hk=>e2 k (hT k hk)) (fun _ _=>rfl) _ hx (by simp)⟩
          · exact f1 q hq ob' hob'
    | _=>simp at h
  | (p,some (.box τ))::l,y,base,h,hnd,hlt,hb,hids=>by
    simp only[absO,Option.bind_eq_some_iff] at h;obtain⟨ob,hob,h⟩:=h
    cases ob with
    | box cs =>
      simp only[Option.bind_eq_some_iff] at h;obtain⟨x,hx,y2,hy,hyy⟩:=h;have hyy:(x,y2)=y:=Option.some.inj hyy;subst hyy;simp only[List.map_cons,List.nodup_cons] at hnd;have hpl:listed p l=false:=Bool.eq_false_iff.2 fun hh=>hnd.1 (listed_spec.1 hh);have hp:p<n0:=hlt (p,some (.box τ)) List.mem_cons_self;obtain⟨b,Tt,cells,hg,hheap,hvl⟩:=r.rep p _ hob;have hids1:∀o∈idsD objs' τ cs,∀b,(γ' o).2=some b→T b:=fun o ho=>hids o (by simp only[qp,hob,List.mem_append];exact .inl ho);obtain⟨hrep,hmo⟩:=qu (S:=T) r hT τ hx hvl hids1;obtain⟨gs0,c1,c2,c3⟩:=qaD τ hrep base.length
      obtain⟨gs,g1,g2,g3,g4,g4b,g5⟩:=qbI r hT l (base.set p (.box (cc τ x base.length).1)++(cc τ x base.length).2) hy hnd.2 (fun q hq=>hlt q (List.mem_cons_of_mem _ hq)) (by simp;omega) (fun o ho=>hids o (by simp only[qp,hob,List.mem_append];exact .inr ho));have hpe:(concO l y2 (base.set p (.box (cc τ x base.length).1)++(cc τ x base.length).2))[p]?=some (.box (cc τ x base.length).1):=by
        rw[qm l y2 _ p (by simp;omega) hpl,List.getElem?_append_left (by simp;omega),List.getElem?_set_self (by omega)]
      have hlen0:(base.set p (.box (cc τ x base.length).1)++(cc τ x base.length).2).length=base.length+gs0.length:=by simp[c1]
      refine⟨gs0++gs,?_,?_,fun o ho=>?_,fun q hq hm=>?_,fun q hq i2 e2 xs2=>?_,fun OF γF e1 e2 e3 e4 e5=>?_⟩
      · simp only[concO];rw[g1,hlen0,List.length_append,Nat.add_assoc]
      · rw[List.flatMap_append,←c2,g2];simp only[qp,hob,blocks,List.flatMap_append]
      · simp only[qp,hob,List.mem_append] at ho;exact ho.elim (hmo o) (g3 o)
      · rcases List.mem_cons.1 hq with rfl | hq
        · refine⟨⟨_,hob,rfl⟩,?_⟩;simp only[qR]
          exact Bool.eq_false_iff.2 fun hh=>by rw[qV hh] at hpl;cases hpl
        · obtain⟨h1,h2⟩:=g4 q hq hm;exact⟨h1,by simpa[qR] using h2⟩
      · rcases List.mem_cons.1 hq with rfl | hq
        · simp only[concO];rw[hpe];simp
        · exact g4b q hq i2 e2 xs2
      · have hle:=qak l y2 (base.set p (.box (cc τ x base.length).1)++(cc τ x base.length).2);rw[hlen0] at hle;simp only[concO] at e1 e5;have c3':=c3 OF γF e2 (fun j g hj=>e4 j g (by rw[List.getElem?_append_left (qf hj)];exact hj)) (by omega)
        obtain⟨f1,f2⟩:=g5 OF γF e1 e2 e3 (fun j g hj=>by
          rw[hlen0,Nat.add_assoc]
          exact e4 (gs0.length+j) g (by rw[List.getElem?_append_right (by omega)];simpa using hj)) e5
        refine⟨fun q hq ob' hob'=>?_,fun o ob' h1 h2 h3=>?_⟩
        · rcases List.mem_cons.1 hq with rfl | hq
          · rw[e1 p (by omega),hpe] at hob';cases hob';rw[e3 p hp];exact⟨b,Tt,cells,hg,hheap,c3'.1⟩
          · exact f1 q hq ob' hob'
        · simp only[concO] at h2;by_cases ho:o<base.length+gs0.length
          · rw[e1 o h2,qm l y2 _ o (by rw[hlen0];exact ho) (Bool.eq_false_iff.2 fun hh=>by
              obtain⟨q,hq,rfl⟩:=List.mem_map.1 (listed_spec.1 hh);have:=hlt q (List.mem_cons_of_mem _ hq)
              omega),List.getElem?_append_right (by simpa using h1)] at h3
            simp only[List.length_set] at h3
            have hj:o-base.length<gs0.length:=by omega
            have e6:=e4 (o-base.length) gs0[o-base.length] (by rw[List.getElem?_append_left hj];exact List.getElem?_eq_getElem hj);rw[show base.length+(o-base.length)=o by omega] at e6;rw[e6];exact c3'.2 (o-base.length) ob' _ h3 (List.getElem?_eq_getElem hj)
          · exact f2 o ob' (by rw[hlen0];omega) h2 h3
    | _=>simp at h
  | (p,some (.bld tb i))::l,y,base,h,hnd,hlt,hb,hids=>by
    simp only[absO,Option.bind_eq_some_iff] at h;obtain⟨ob,hob,h⟩:=h
    cases ob with
    | bld tb' c =>
      simp only[chk_some,Option.bind_eq_some_iff] at h;obtain⟨htt,x,hx,y2,hy,hyy⟩:=h;obtain rfl:=Nat.eq_of_beq_eq_true htt;have hyy:(x,y2)=y:=Option.some.inj hyy;subst hyy;simp only[List.map_cons,List.nodup_cons] at hnd;have hpl:listed p l=false:=Bool.eq_false_iff.2 fun hh=>hnd.1 (listed_spec.1 hh);have hp:p<n0:=hlt (p,some (.bld tb' i)) List.mem_cons_self;obtain⟨b,pp,vv,hg,hheap,hpp,hvc⟩:=r.rep p _ hob;have hvl:VRL objs' γ' w' [c] [vv]:=⟨vv,[],rfl,hvc,rfl⟩;have hids1:∀o∈idsD objs' (.osl i (.int .u8)) [c],∀b,(γ' o).2=some b→T b:=fun o ho=>hids o (by simp only[qp,hob,List.mem_append];exact .inl ho);obtain⟨hrep,hmo⟩:=qu (S:=T) r hT (.osl i (.int .u8)) hx hvl hids1;obtain⟨gs0,c1,c2,c3⟩:=qaD (.osl i (.int .u8)) hrep base.length
      obtain⟨gs,g1,g2,g3,g4,g4b,g5⟩:=qbI r hT l (base.set p (.bld tb' (.os base.length))++(cc (.osl i (.int .u8)) x base.length).2) hy hnd.2 (fun q hq=>hlt q (List.mem_cons_of_mem _ hq)) (by simp;omega) (fun o ho=>hids o (by simp only[qp,hob,List.mem_append];exact .inr ho));have hpe:(concO l y2 (base.set p (.bld tb' (.os base.length))++(cc (.osl i (.int .u8)) x base.length).2))[p]?=some (.bld tb' (.os base.length)):=by
        rw[qm l y2 _ p (by simp;omega) hpl,List.getElem?_append_left (by simp;omega),List.getElem?_set_self (by omega)]
      have hlen0:(base.set p (.bld tb' (.os base.length))++(cc (.osl i (.int .u8)) x base.length).2).length=base.length+gs0.length:=by simp[c1]
      refine⟨gs0++gs,?_,?_,fun o ho=>?_,fun q hq hm=>?_,fun q hq i2 e2 xs2=>?_,fun OF γF e1 e2 e3 e4 e5=>?_⟩
      · simp only[concO];rw[g1,hlen0,List.length_append,Nat.add_assoc]
      · rw[List.flatMap_append,←c2,g2];simp only[qp,hob,blocks,List.flatMap_append]
      · simp only[qp,hob,List.mem_append] at ho;exact ho.elim (hmo o) (g3 o)
      · rcases List.mem_cons.1 hq with rfl | hq
        · refine⟨⟨_,hob,rfl⟩,?_⟩;simp only[qR]
          exact Bool.eq_false_iff.2 fun hh=>by rw[qV hh] at hpl;cases hpl
        · obtain⟨h1,h2⟩:=g4 q hq hm;exact⟨h1,by simpa[qR] using h2⟩
      · rcases List.mem_cons.1 hq with rfl | hq
        · simp only[concO];rw[hpe];simp
        · exact g4b q hq i2 e2 xs2
      · have hle:=qak l y2 (base.set p (.bld tb' (.os base.length))++(cc (.osl i (.int .u8)) x base.length).2);rw[hlen0] at hle;simp only[concO] at e1 e5;have c3':=c3 OF γF e2 (fun j g hj=>e4 j g (by rw[List.getElem?_append_left (qf hj)];exact hj)) (by omega)
        obtain⟨f1,f2⟩:=g5 OF γF e1 e2 e3 (fun j g hj=>by
          rw[hlen0,Nat.add_assoc]
          exact e4 (gs0.length+j) g (by rw[List.getElem?_append_right (by omega)];simpa using hj)) e5
        refine⟨fun q hq ob' hob'=>?_,fun o ob' h1 h2 h3=>?_⟩
        · rcases List.mem_cons.1 hq with rfl | hq
          · rw[e1 p (by omega),hpe] at hob';cases hob';rw[e3 p hp];obtain⟨v1,q1,e7,e8,_⟩:=c3'.1;cases e7;exact⟨b,pp,_,hg,hheap,hpp,e8⟩
          · exact f1 q hq ob' hob'
        · simp only[concO] at h2;by_cases ho:o<base.length+gs0.length
          · rw[e1 o h2,qm l y2 _ o (by rw[hlen0];exact ho) (Bool.eq_false_iff.2 fun hh=>by
              obtain⟨q,hq,rfl⟩:=List.mem_map.1 (listed_spec.1 hh);have:=hlt q (List.mem_cons_of_mem _ hq)
              omega),List.getElem?_append_right (by simpa using h1)] at h3
            simp only[List.length_set] at h3
            have hj:o-base.length<gs0.length:=by omega
            have e6:=e4 (o-base.length) gs0[o-base.length] (by rw[List.getElem?_append_left hj];exact List.getElem?_eq_getElem hj);rw[show base.length+(o-base.length)=o by omega] at e6;rw[e6];exact c3'.2 (o-base.length) ob' _ h3 (List.getElem?_eq_getElem hj)
          · exact f2 o ob' (by rw[hlen0];omega) h2 h3
    | _=>simp at h

theorem qcf:∀(l:List (Nat×Ty)) (x:DL (tysS l)) (σ:AState),σ.objs.length≤(concS l x σ).objs.length∧(∀o,o<σ.objs.length→(concS l x σ).objs[o]?=σ.objs[o]?)∧(concS l x σ).n=σ.n∧(concS l x σ).prS=σ.prS∧(concS l x σ).prO=σ.prO∧(concS l x σ).gs=σ.gs∧(concS l x σ).known=σ.known∧∀t,(∀q∈l,q.1≠t)→get (concS l x σ).slots t=get σ.slots t
  | [],_,σ=>⟨Nat.le_refl _,fun _ _=>rfl,rfl,rfl,rfl,rfl,rfl,fun _ _=>rfl⟩
  | (t,τ)::r,x,σ=>by
    simp only[concS];obtain⟨h1,h2,h3,h4,h5,h6,h7,h8⟩:=qcf r x.2 { σ with slots:=(t,some ([],qbA τ.isAgg (cc τ x.1 σ.objs.length).1))::σ.slots,objs:=σ.objs++(cc τ x.1 σ.objs.length).2 };simp only[List.length_append] at h1;refine⟨by omega,fun o ho=>?_,h3,h4,h5,h6,h7,fun t' ht'=>?_⟩
    · rw[h2 o (by simp;omega)];simp only;rw[List.getElem?_append_left ho]
    · rw[h8 t' fun q hq=>ht' q (List.mem_cons_of_mem _ hq)];simp only;rw[qn,if_neg (ht' (t,τ) List.mem_cons_self)]
theorem qfy {σ':AState} {a':Act} (r':Rel F σ' γ' a' w') (hT:∀k,Imm σ'.objs γ' w' k→T k):∀(l:List (Nat×Ty)) {x:DL (tysS l)} (σ1:AState),absS σ'.objs σ'.slots l=some x →
    (∀o∈qL (idsD σ'.objs) σ'.slots l,∀b,(γ' o).2=some b→T b) →
    ∃gs:List (Value×Option Nat),(concS l x σ1).objs.length=σ1.objs.length+gs.length∧gs.flatMap (fun g=>g.2.toList)=blocks γ' (qL (idsO σ'.objs) σ'.slots l)∧(∀o∈qL (idsO σ'.objs) σ'.slots l,Mut σ'.objs o) ∧
      ∀(γF:Gh),(∀k,T k→Imm (concS l x σ1).objs γF w' k)→(∀j g,gs[j]?=some g→γF (σ1.objs.length+j)=g) →
        ∀(OF:List OB),OF=(concS l x σ1).objs →
        (∀t tg pv,get (concS l x σ1).slots t=some (tg,pv)→get σ1.slots t=some (tg,pv)∨(tg=[]∧∃v,a'.tmps[t]?=some v∧PR OF γF w' pv v)) ∧
        (∀o ob,σ1.objs.length≤o→OF[o]?=some ob→ObR OF γF w' ob (γF o)∧mutOb ob=true)
  | [],x,σ1,h,_=>⟨[],by simp[concS],by simp[qL,blocks],fun o ho=>by simp[qL] at ho,fun γF _ _ OF hOF=>⟨fun t tg pv hg => .inl hg,fun o ob h1 h2=>by subst hOF;have:=qf h2;simp only[concS] at this;omega⟩⟩
  | (t,τ)::l,x,σ1,h,hids=>by
    simp only[absS,Option.bind_eq_some_iff,chk_some] at h;obtain⟨⟨tg,pv⟩,h1,h2,cs,h3,h4,x1,h5,x2,h6,hx⟩:=h;have hx:(x1,x2)=x:=Option.some.inj hx;subst hx
    have htg:tg=[]:=by simpa using h2
    subst htg;obtain⟨v,hv,hp⟩:=r'.slots t [] pv h1 (qc _);have hvl:=qas h3 hp
    have hidd:(((get σ'.slots t).bind fun e=>qW e.2).elim [] (idsD σ'.objs τ))=idsD σ'.objs τ cs:=by simp only[h1,Option.bind_some,h3,Option.elim_some]
    have hido:(((get σ'.slots t).bind fun e=>qW e.2).elim [] (idsO σ'.objs τ))=idsO σ'.objs τ cs:=by simp only[h1,Option.bind_some,h3,Option.elim_some]
    obtain⟨hrep,hmo⟩:=qu (S:=T) r'.o hT τ h5 hvl (fun o ho=>hids o (by simp only[qL,hidd,List.mem_append];exact .inl ho));obtain⟨gs0,c1,c2,c3⟩:=qaD τ hrep σ1.objs.length;obtain⟨gs,g1,g2,g3,g5⟩:=qfy r' hT l { σ1 with slots:=(t,some ([],qbA τ.isAgg (cc τ x1 σ1.objs.length).1))::σ1.slots,objs:=σ1.objs++(cc τ x1 σ1.objs.length).2 } h6 (fun o ho=>hids o (by simp only[qL,hidd,List.mem_append];exact .inr ho));have hcl:=qcf l x2 { σ1 with slots:=(t,some ([],qbA τ.isAgg (cc τ x1 σ1.objs.length).1))::σ1.slots,objs:=σ1.objs++(cc τ x1 σ1.objs.length).2 };simp only[List.length_append,←c1] at g1 g5 hcl;refine⟨gs0++gs,?_,?_,fun o ho=>?_,fun γF e2 e4 OF hOF=>?_⟩
    · simp only[concS];rw[g1,List.length_append,Nat.add_assoc]
    · rw[List.flatMap_append,←c2,g2];simp only[qL,hido,blocks,List.flatMap_append]
    · simp only[qL,hido,List.mem_append] at ho;exact ho.elim (hmo o) (g3 o)
    · simp only[concS] at e2 hOF ⊢;subst hOF;have c3':=c3 _ γF e2 (fun j g hj=>e4 j g (by rw[List.getElem?_append_left (qf hj)];exact hj)) (by omega)
      obtain⟨f1,f2⟩:=g5 γF e2 (fun j g hj=>by
        rw[Nat.add_assoc]
        exact e4 (gs0.length+j) g (by rw[List.getElem?_append_right (by omega)];simpa using hj)) _ rfl
      refine⟨fun t' tg' pv' hg=>?_,fun o ob h1' h2'=>?_⟩
      · rcases f1 t' tg' pv' hg with hg' | hg'
        · rw[qn] at hg';split at hg'
          · rename_i e;subst e;cases hg';refine .inr ⟨rfl,v,hv,?_⟩;have:=qaa (τ:=τ) (qbb τ x1 σ1.objs.length) c3'.1;rw[←qeK h3 h4 hp] at this;exact this
          · exact .inl hg'
        · exact .inr hg'
      · by_cases ho:o<σ1.objs.length+gs0.length
        · rw[hcl.2.1 o ho] at h2';rw[List.getElem?_append_right h1'] at h2'
          have hj:o-σ1.objs.length<gs0.length:=by omega
          have e6:=e4 (o-σ1.objs.length) gs0[o-σ1.objs.length] (by rw[List.getElem?_append_left hj];exact List.getElem?_eq_getElem hj);rw[show σ1.objs.length+(o-σ1.objs.length)=o by omega] at e6;rw[e6];exact c3'.2 _ ob _ h2' (List.getElem?_eq_getElem hj)
        · exact f2 o ob (by omega) h2'
end

theorem qgd {slots:Slots} {t:Nat} {e:Tag×PV}:∀ {l:List Nat},get (keepF slots l) t=some e→t∈l∧kf slots t=some e
  | [],h=>by simp[keepF,get] at h
  | u::l,h=>by
    simp only[keepF] at h;rw[qn] at h;split at h
    · rename_i e1;subst e1;exact⟨List.mem_cons_self,h⟩
    · obtain⟨h1,h2⟩:=qgd h;exact⟨List.mem_cons_of_mem _ h1,h2⟩
theorem qeZ {slots:Slots} {t:Nat}:∀ {l:List Nat},t∈l→get (keepF slots l) t=kf slots t
  | u::l,h=>by
    simp only[keepF];rw[qn];split
    · rename_i e1;subst e1;rfl
    · rename_i e1;rcases List.mem_cons.1 h with rfl | h
      · exact absurd rfl e1
      · exact qeZ h
theorem qcW {slots:Slots} {t:Nat} {e:Tag×PV} (h:kf slots t=some e):get slots t=some e∧e.1=[]∧stable e.2=true:=by
  simp only[kf,Option.bind_eq_some_iff,chk_some,Bool.and_eq_true,Option.some.injEq] at h;obtain⟨e',h1,⟨h2,h3⟩,rfl⟩:=h;exact⟨h1,by simpa using h2,h3⟩
theorem kf_of {slots:Slots} {t:Nat} {e:Tag×PV} (h1:get slots t=some e) (h2:e.1=[]) (h3:stable e.2=true):kf slots t=some e:=by
  simp[kf,h1,h2,h3,chk]
theorem mask_bit {t:Nat}:∀ {l:List Nat},bitB (maskN l) t=true↔t∈l
  | []=>by
    rw[qch];simp[maskN]
  | u::l=>by
    simp only[maskN];rw[qaU,qfq,Bool.or_eq_true,mask_bit (l:=l),List.mem_cons];simp only[decide_eq_true_eq];exact⟨fun h=>h.imp Eq.symm id,fun h=>h.imp Eq.symm id⟩
theorem qeg {l:List (Nat×Option OTy)} {o:Nat}:∀ {n:Nat},o<n→listed o l=false→bitB (protO l n) o=true
  | n+1,h,hl=>by
    simp only[protO];by_cases e:o=n
    · subst e;rw[hl];exact qeu _ _
    · have:=qeg (n:=n) (by omega) hl;by_cases hn:listed n l=true
      · simp only[hn,cond_true];exact this
      · simp only[Bool.eq_false_iff.2 hn,cond_false];exact qbs this
theorem ofSl_os {e:Ty} {objs:List OB} {o:Nat} {xs:List (D e)} (h:ofSl e objs (.os o)=some xs):∃i,∃e:Ty,∃xs:List (D e),∃fz,objs[o]?=some (.arr i e xs fz):=by
  simp only[ofSl,Option.bind_eq_some_iff] at h;obtain⟨ob,hob,h3⟩:=h
  cases ob with
  | arr i e' xs fz=>exact⟨i,e',xs,fz,hob⟩
  | _=>simp at h3
theorem qbS {objs:List OB} {o:Nat}:∀(τ:Ty) {l:List Cv} {x:D τ},toD objs τ l=some x→o∈idsD objs τ l→∃i,∃e:Ty,∃xs:List (D e),∃fz,objs[o]?=some (.arr i e xs fz)
  | .int _,l,_,_,h=>by simp[idsD] at h
  | .bool,l,_,_,h=>by simp[idsD] at h
  | .str,l,_,_,h=>by simp[idsD] at h
  | .nil,l,_,_,h=>by simp[idsD] at h
  | .osl _ _,l,_,_,h=>by simp[idsD] at h
  | .onl _ _,l,_,_,h=>by simp[idsD] at h
  | .sl e,l,x,hx,h=>by
    obtain⟨c,h1,h2⟩:=Option.bind_eq_some_iff.1 hx;simp only[idsD,h1,Option.elim_some] at h;clear hx
    cases c with
    | os p =>
      have hop:o=p:=by simpa[osId] using h
      subst hop;exact ofSl_os h2
    | _=>simp[osId] at h
  | .obx e,l,x,hx,h=>by
    obtain⟨bl,h1,h2⟩:=Option.bind_eq_some_iff.1 (show((ownB objs l).bind fun l=>toD objs e l)=some x from hx);simp only[idsD,h1,Option.getD_some] at h;exact qbS (x:=x) e h2 h
  | .st f r,l,x,hx,h=>by
    simp only[toD,Option.bind_eq_some_iff] at hx;obtain⟨x1,h1,x2,h2,_⟩:=hx;simp only[idsD,List.mem_append] at h;exact h.elim (qbS f h1) (qbS r h2)
theorem qhp {objs:List OB} {slots:Slots} {o:Nat}:∀(l:List (Nat×Ty)) {x:DL (tysS l)},absS objs slots l=some x→o∈qL (idsD objs) slots l→∃i,∃e:Ty,∃xs:List (D e),∃fz,objs[o]?=some (.arr i e xs fz)
  | [],_,_,h=>by simp[qL] at h
  | (t,τ)::l,x,hx,h=>by
    simp only[absS,Option.bind_eq_some_iff,chk_some] at hx;obtain⟨⟨tg,pv⟩,h1,h2,cs,h3,h4,x1,h5,x2,h6,_⟩:=hx;simp only[qL,h1,Option.bind_some,h3,Option.elim_some,List.mem_append] at h;exact h.elim (qbS τ h5) (qhp l h6)
theorem qc5 {objs:List OB} {o:Nat}:∀(l:List (Nat×Option OTy)) {x:DL (tysO l)},absO objs l=some x→o∈qp (idsD objs) objs l→∃i,∃e:Ty,∃xs:List (D e),∃fz,objs[o]?=some (.arr i e xs fz)
  | [],_,_,h=>by simp[qp] at h
  | (p,none)::l,x,hx,h=>qc5 l hx (by simpa[qp] using h)
  | (p,some (.arr i e))::l,x,hx,h=>by
    simp only[absO,Option.bind_eq_some_iff] at hx;obtain⟨ob,hob,h2⟩:=hx
    cases ob with
    | arr i' e' xs fz =>
      cases fz with
      | true=>simp at h2
      | false =>
        simp only[chk_some,Option.bind_eq_some_iff] at h2;obtain⟨_,x1,_,y2,hy,_⟩:=h2;exact qc5 l hy (by simpa[qp] using h)
    | _=>simp at h2
  | (p,some (.box τ))::l,x,hx,h=>by
    simp only[absO,Option.bind_eq_some_iff] at hx;obtain⟨ob,hob,h2⟩:=hx
    cases ob with
    | box cs =>
      simp only[Option.bind_eq_some_iff] at h2;obtain⟨x1,h3,y2,hy,_⟩:=h2;simp only[qp,hob,List.mem_append] at h;exact h.elim (qbS τ h3) (qc5 l hy)
    | _=>simp at h2
  | (p,some (.bld tb i))::l,x,hx,h=>by
    simp only[absO,Option.bind_eq_some_iff] at hx;obtain⟨ob,hob,h2⟩:=hx
    cases ob with
    | bld tb' c =>
      simp only[chk_some,Option.bind_eq_some_iff] at h2;obtain⟨_,x1,h3,y2,hy,_⟩:=h2;simp only[qp,hob,List.mem_append] at h;exact h.elim (qbS (.osl i (.int .u8)) h3) (qc5 l hy)
    | _=>simp at h2
theorem qfR {gs:List (Value×Option Nat)} {b:Nat}:∀ {j1 j2:Nat} {g1 g2:Value×Option Nat},(gs.flatMap fun g=>g.2.toList).Nodup→gs[j1]?=some g1→gs[j2]?=some g2→g1.2=some b→g2.2=some b→j1=j2:=by
  induction gs with
  | nil=>intro j1 j2 g1 g2 _ h;simp at h
  | cons g l ih =>
    intro j1 j2 g1 g2 hn h1 h2 hb hb';simp only[List.flatMap_cons,List.nodup_append] at hn
    cases j1 with
    | zero =>
      cases j2 with
      | zero=>rfl
      | succ j2 =>
        simp at h1 h2;exact absurd rfl (hn.2.2 b (by rw[h1,hb];simp) b (List.mem_flatMap.2 ⟨g2,List.mem_of_getElem? h2,by simp[hb']⟩))
    | succ j1 =>
      cases j2 with
      | zero =>
        simp at h1 h2;exact absurd rfl (hn.2.2 b (by rw[h2,hb'];simp) b (List.mem_flatMap.2 ⟨g1,List.mem_of_getElem? h1,by simp[hb]⟩))
      | succ j2=>exact congrArg _ (ih hn.2.1 (by simpa using h1) (by simpa using h2) hb hb')
def OB.below (n:Nat):OB→Prop
  | .box l=>CvL.below n l
  | .bld _ c=>c.below n
  | _=>True
theorem ObR.below {objs:List OB} {γ:Gh} {w:World} {ob:OB} {g:Value×Option Nat} (h:ObR objs γ w ob g):OB.below objs.length ob:=by
  cases ob with
  | box l=>obtain⟨_,_,_,_,_,h1⟩:=h;exact h1.below
  | bld t c=>obtain⟨_,_,_,_,_,_,h1⟩:=h;exact h1.below
  | _=>trivial
theorem ObR.keep' {objs objs':List OB} {γ γ':Gh} {w w':World} {n:Nat} (h:Keep objs γ w objs' γ' w' n) {ob:OB} {g:Value×Option Nat} (hb:∀b,g.2=some b→w'.heap[b]?=w.heap[b]?) (hbel:OB.below n ob) (hr:ObR objs γ w ob g):ObR objs' γ' w' ob g:=by
  cases ob with
  | box l =>
    obtain⟨b,T,cs,e,h1,h2⟩:=hr;exact⟨b,T,cs,e,(hb b (by simp[e])).trans h1,VRL.keep h hbel h2⟩
  | arr i e xs fz =>
    obtain⟨us,h1,h2⟩:=hr;exact⟨us,h1.mono fun b hm=>hb b (by simpa using hm),RepL.keep h h2⟩
  | dead=>trivial
  | mbr i e x =>
    rcases hr with hr | ⟨xs,us,h0,h1,h2⟩
    · exact .inl hr
    · exact .inr ⟨xs,us,h0,h1.mono fun b hm=>hb b (by simpa using hm),RepL.keep h h2⟩
  | nilr=>exact hr
  | bld t c =>
    obtain⟨b,p,v,e,h1,h2,h3⟩:=hr;exact⟨b,p,v,e,(hb b (by simp[e])).trans h1,h2,VR.keep h hbel h3⟩
theorem qcG {F:Fr} {s:Shape} {σ σ':AState} {γ γ':Gh} {a a':Act} {w w':World} (r:Rel F σ γ a w) (hh:qdP s σ=true) (r':Rel F σ' γ' a' w') (hn:σ'.n=σ.n)
    (hk:∀t∈s.keep,∀e,kf σ.slots t=some e→get σ'.slots t=some e) (ho:∀o,o<σ.objs.length→listed o s.objs=false→σ'.objs[o]?=σ.objs[o]?) (K0:Keep σ.objs γ w σ'.objs γ' w' σ.objs.length)
    {x:s.T} (hx:absT s σ.objs.length σ'=some x):∃γF,Rel F (conc s σ x) γF a' w'∧Cl (conc s σ x)∧Step σ γ w (conc s σ x) γF w':=by
  simp only[absT,chk_some,Bool.and_eq_true,Option.bind_eq_some_iff] at hx;obtain⟨⟨hown,hdat⟩,x1,hx1,x2,hx2,hxx⟩:=hx;have hxx:(x1,x2)=x:=Option.some.inj hxx;subst hxx;simp only[qdP,Bool.and_eq_true,List.all_eq_true,Bool.not_eq_true'] at hh;obtain⟨⟨⟨hpm,hsl⟩,hndo,hol⟩,hg0,hkn0⟩:=hh;have hndo:=qae hndo;have hol':∀q∈s.objs,q.1<σ.objs.length∧bitB σ.prO q.1=false:=fun q hq=>⟨by have:=(hol q hq).1;simpa[Nat.blt_eq] using this,(hol q hq).2⟩;simp only[okOwned,Bool.and_eq_true] at hown;obtain⟨hown1,hown2⟩:=hown;have hownd:=qae hown1;have hownst:∀o∈qL (idsO σ'.objs) σ'.slots s.slots++qp (idsO σ'.objs) σ'.objs s.objs,stays s σ.objs.length o=false:=fun o ho=>by
    have:=List.all_eq_true.1 hown2 o ho;simpa using this
  let own:=qL (idsO σ'.objs) σ'.slots s.slots++qp (idsO σ'.objs) σ'.objs s.objs
  let T:Nat→Prop:=fun k=>k<w'.heap.size∧γ'.S k∧∀o',Mut σ'.objs o'→(o'∈own∨stays s σ.objs.length o'=true)→(γ' o').2≠some k
  have hT:∀k,Imm σ'.objs γ' w' k→T k:=fun k hk=>⟨hk.lt,hk.s,fun o' hm _=>hk.own o' hm⟩;have hids:∀o∈qL (idsD σ'.objs) σ'.slots s.slots++qp (idsD σ'.objs) σ'.objs s.objs,∀b,(γ' o).2=some b→T b:=fun o ho' b hb=>by
    have harr:∃i,∃e:Ty,∃xs:List (D e),∃fz,σ'.objs[o]?=some (.arr i e xs fz):=(List.mem_append.1 ho').elim (qhp _ hx1) (qc5 _ hx2);obtain⟨i,e,xs,fz,hob⟩:=harr
    cases fz with
    | true=>exact hT b (r'.o.frz o i e xs b hob hb)
    | false =>
      have hd:=List.all_eq_true.1 hdat o ho';rw[hob] at hd;simp only[Bool.false_or,Bool.and_eq_true,Bool.not_eq_true'] at hd;obtain⟨hd1,hd2⟩:=hd;have hmo:Mut σ'.objs o:=⟨_,hob,rfl⟩;refine⟨r'.o.lt o b (qf hob) hb,r'.o.up b (r'.o.own o b hmo hb),fun o' hm hor hb'=>?_⟩;have e1:=r'.o.inj o' o b hm hmo hb' hb;subst e1;rcases hor with hor | hor
      · have:memN o' own=true:=memN_spec.2 hor;rw[this] at hd2;cases hd2
      · rw[hor] at hd1;cases hd1
  obtain⟨gsO,p1,p2,p3,p4,p4b,p5⟩:=qbI (n0:=σ.objs.length) r'.o hT s.objs σ.objs hx2 hndo (fun q hq=>(hol' q hq).1) (Nat.le_refl _) (fun o ho'=>hids o (List.mem_append.2 (.inr ho')));obtain⟨gsS,q1,q2,q3,q5⟩:=qfy r' hT s.slots { σ with slots:=keepF σ.slots s.keep,objs:=concO s.objs x2 σ.objs,gs:=0,known:=[] } hx1 (fun o ho'=>hids o (List.mem_append.2 (.inl ho')));have hcl:=qcf s.slots x1 { σ with slots:=keepF σ.slots s.keep,objs:=concO s.objs x2 σ.objs,gs:=0,known:=[] };have hcO:=qak s.objs x2 σ.objs
  show ∃γF,Rel F (concS s.slots x1 { σ with slots:=keepF σ.slots s.keep,objs:=concO s.objs x2 σ.objs,gs:=0,known:=[] }) γF a' w'∧Cl (concS s.slots x1 { σ with slots:=keepF σ.slots s.keep,objs:=concO s.objs x2 σ.objs,gs:=0,known:=[] })∧Step σ γ w (concS s.slots x1 { σ with slots:=keepF σ.slots s.keep,objs:=concO s.objs x2 σ.objs,gs:=0,known:=[] }) γF w';generalize hC:concS s.slots x1 { σ with slots:=keepF σ.slots s.keep,objs:=concO s.objs x2 σ.objs,gs:=0,known:=[] }=C at *;simp only at q1 hcl q5
  have hOlen:C.objs.length=σ.objs.length+(gsO++gsS).length:=by rw[q1,p1,List.length_append,Nat.add_assoc]
  have hflat:(gsO++gsS).flatMap (fun g=>g.2.toList)=blocks γ' (qp (idsO σ'.objs) σ'.objs s.objs++qL (idsO σ'.objs) σ'.slots s.slots):=by
    rw[List.flatMap_append,p2,q2];simp[blocks]
  have hownm:∀o∈own,Mut σ'.objs o:=fun o ho'=>(List.mem_append.1 ho').elim (q3 o) (p3 o);have hndb:((gsO++gsS).flatMap fun g=>g.2.toList).Nodup:=by
    rw[hflat];refine qag r'.o ?_ (fun o ho'=>hownm o (List.mem_append.2 ((List.mem_append.1 ho').symm)));exact(List.perm_append_comm.nodup_iff).1 hownd
  have hlow:∀o,o<σ.objs.length→C.objs[o]?=(concO s.objs x2 σ.objs)[o]?:=fun o ho'=>hcl.2.1 o (by omega);have hγlow:∀o,o<σ.objs.length→upd γ' σ.objs.length (gsO++gsS) o=γ' o:=fun o ho'=>qc7 ho';have hA:∀o,o<σ.objs.length→Mut C.objs o→Mut σ'.objs o∧stays s σ.objs.length o=true:=fun o ho' hm=>by
    have hst:qR o s.objs=false→stays s σ.objs.length o=true:=fun hd=>by
      simp only[stays,hd,Bool.not_false,Bool.and_true];simpa[Nat.blt_eq] using ho'
    obtain⟨ob,h1,h2⟩:=hm;rw[hlow o ho'] at h1;by_cases hl:listed o s.objs=true
    · obtain⟨q,hq,rfl⟩:=List.mem_map.1 (listed_spec.1 hl);obtain⟨h3,h4⟩:=p4 q hq ⟨ob,h1,h2⟩;exact⟨h3,hst h4⟩
    · have hl:=Bool.eq_false_iff.2 hl;rw[qm s.objs x2 σ.objs o ho' hl,←ho o ho' hl] at h1;exact⟨⟨ob,h1,h2⟩,hst (Bool.eq_false_iff.2 fun hd=>by rw[qV hd] at hl;cases hl)⟩
  have hB:∀o b,σ.objs.length≤o→o<C.objs.length→(upd γ' σ.objs.length (gsO++gsS) o).2=some b→∃o'∈own,(γ' o').2=some b:=fun o b h1 h2 hb=>by
    have hj:o-σ.objs.length<(gsO++gsS).length:=by omega
    have e1:=qat (γ:=γ') (n:=σ.objs.length) (List.getElem?_eq_getElem hj);rw[show σ.objs.length+(o-σ.objs.length)=o by omega] at e1;rw[e1] at hb;have hmem:b∈(gsO++gsS).flatMap (fun g=>g.2.toList):=List.mem_flatMap.2 ⟨_,List.getElem_mem hj,by simp[hb]⟩;rw[hflat] at hmem;obtain⟨o',ho',hb'⟩:=List.mem_flatMap.1 hmem;exact⟨o',List.mem_append.2 ((List.mem_append.1 ho').symm),by simpa using hb'⟩
  have hTI:∀k,T k→Imm C.objs (upd γ' σ.objs.length (gsO++gsS)) w' k:=fun k hk=>by
    refine⟨hk.1,hk.2.1,fun o hm hb=>?_⟩;by_cases ho':o<σ.objs.length
    · obtain⟨h1,h2⟩:=hA o ho' hm;rw[hγlow o ho'] at hb;exact hk.2.2 o h1 (.inr h2) hb
    · obtain⟨o',h1,h2⟩:=hB o k (by omega) hm.lt hb;exact hk.2.2 o' (hownm o' h1) (.inl h1) h2
  have hgO:∀j g,gsO[j]?=some g→upd γ' σ.objs.length (gsO++gsS) (σ.objs.length+j)=g:=fun j g hj=>qat (by rw[List.getElem?_append_left (qf hj)];exact hj);have hgS:∀j g,gsS[j]?=some g→upd γ' σ.objs.length (gsO++gsS) ((concO s.objs x2 σ.objs).length+j)=g:=fun j g hj=>by
    rw[p1,Nat.add_assoc];exact qat (by rw[List.getElem?_append_right (by omega)];simpa using hj)
  obtain⟨u1,u2⟩:=p5 C.objs _ (fun o ho'=>hcl.2.1 o ho') hTI hγlow hgO hcl.1;obtain⟨v1,v2⟩:=q5 _ hTI hgS C.objs rfl;have K1:Keep σ'.objs γ' w' C.objs (upd γ' σ.objs.length (gsO++gsS)) w' σ.objs.length:=⟨fun k hk=>hTI k (hT k hk),fun _ _=>rfl,by omega,hγlow,Nat.le_refl _,rfl⟩;have hlen':=K0.len;have hnew:∀o ob,σ.objs.length≤o→C.objs[o]?=some ob→ObR C.objs (upd γ' σ.objs.length (gsO++gsS)) w' ob (upd γ' σ.objs.length (gsO++gsS) o)∧mutOb ob=true:=fun o ob h1 h2=>by
    by_cases h3:o<(concO s.objs x2 σ.objs).length
    · exact u2 o ob h1 h3 h2
    · exact v2 o ob (by omega) h2
  have hor:ORel F C.objs (upd γ' σ.objs.length (gsO++gsS)) w':=by
    refine⟨fun o ob hob=>?_,fun o o' b hm hm' hb hb'=>?_,fun o b hm hb=>?_,fun o b hlt hb=>?_,r'.o.chg,fun o i e xs b hob hb=>?_,r'.o.up,r'.o.tab.mono (fun k hk=>hTI k (hT k hk)) (fun _ _=>rfl)⟩
    · by_cases ho':o<σ.objs.length
      · by_cases hl:listed o s.objs=true
        · obtain⟨q,hq,rfl⟩:=List.mem_map.1 (listed_spec.1 hl);exact u1 q hq ob hob
        · have hl:=Bool.eq_false_iff.2 hl;rw[hlow o ho',qm s.objs x2 σ.objs o ho' hl] at hob;rw[hγlow o ho'];exact ObR.keep' K1 (fun _ _=>rfl) (r.o.rep o ob hob).below (r'.o.rep o ob (by rw[ho o ho' hl];exact hob))
      · exact(hnew o ob (by omega) hob).1
    · by_cases h1:o<σ.objs.length<;>by_cases h2:o'<σ.objs.length
      · rw[hγlow o h1] at hb;rw[hγlow o' h2] at hb';exact r'.o.inj o o' b (hA o h1 hm).1 (hA o' h2 hm').1 hb hb'
      · rw[hγlow o h1] at hb;obtain⟨o2,h3,h4⟩:=hB o' b (by omega) hm'.lt hb';have e1:=r'.o.inj o o2 b (hA o h1 hm).1 (hownm o2 h3) hb h4;subst e1;have:=hownst o h3;rw[(hA o h1 hm).2] at this;cases this
      · rw[hγlow o' h2] at hb';obtain⟨o2,h3,h4⟩:=hB o b (by omega) hm.lt hb;have e1:=r'.o.inj o' o2 b (hA o' h2 hm').1 (hownm o2 h3) hb' h4;subst e1;have:=hownst o' h3;rw[(hA o' h2 hm').2] at this;cases this
      · have l1:=hm.lt;have l2:=hm'.lt
        have hj1:o-σ.objs.length<(gsO++gsS).length:=by omega
        have hj2:o'-σ.objs.length<(gsO++gsS).length:=by omega
        have e1:=qat (γ:=γ') (n:=σ.objs.length) (List.getElem?_eq_getElem hj1);have e2:=qat (γ:=γ') (n:=σ.objs.length) (List.getElem?_eq_getElem hj2);rw[show σ.objs.length+(o-σ.objs.length)=o by omega] at e1;rw[show σ.objs.length+(o'-σ.objs.length)=o' by omega] at e2;rw[e1] at hb;rw[e2] at hb';have:=qfR hndb (List.getElem?_eq_getElem hj1) (List.getElem?_eq_getElem hj2) hb hb';omega
    · by_cases h1:o<σ.objs.length
      · rw[hγlow o h1] at hb;exact r'.o.own o b (hA o h1 hm).1 hb
      · obtain⟨o2,h3,h4⟩:=hB o b (by omega) hm.lt hb;exact r'.o.own o2 b (hownm o2 h3) h4
    · by_cases h1:o<σ.objs.length
      · rw[hγlow o h1] at hb;exact r'.o.lt o b (by omega) hb
      · obtain⟨o2,h3,h4⟩:=hB o b (by omega) hlt hb;exact r'.o.lt o2 b (hownm o2 h3).lt h4
    · by_cases h1:o<σ.objs.length
      · rw[hlow o h1] at hob;rw[hγlow o h1] at hb;by_cases hl:listed o s.objs=true
        · obtain⟨q,hq,rfl⟩:=List.mem_map.1 (listed_spec.1 hl);exact absurd hob (p4b q hq i e xs)
        · have hl:=Bool.eq_false_iff.2 hl;rw[qm s.objs x2 σ.objs o h1 hl,←ho o h1 hl] at hob;exact hTI b (hT b (r'.o.frz o i e xs b hob hb))
      · cases (hnew o _ (by omega) hob).2
  have hslots:∀t tg pv,get C.slots t=some (tg,pv)→tg=[]∧∃v,a'.tmps[t]?=some v∧PR C.objs (upd γ' σ.objs.length (gsO++gsS)) w' pv v:=fun t tg pv ht=>by
    rcases v1 t tg pv ht with h1 | h1
    · obtain⟨h2,h3⟩:=qgd h1;obtain⟨h4,h5,h6⟩:=qcW h3;simp only at h5 h6;subst h5;refine⟨rfl,?_⟩;obtain⟨v,h7,h8⟩:=r'.slots t [] pv (hk t h2 _ h3) (qc _);obtain⟨v0,_,h9⟩:=r.slots t [] pv h4 (qc _);exact⟨v,h7,PR.keep K1 h9.below (.inl h6) h8⟩
    · exact h1
  refine⟨upd γ' σ.objs.length (gsO++gsS),⟨?_,r'.defers,fun t tg pv ht _=>(hslots t tg pv ht).2,fun t tg pv ht hnT=>?_,fun t tg pv ht x hx=>?_,fun x hx=>?_,hor⟩,⟨hcl.2.2.2.2.2.1,hcl.2.2.2.2.2.2.1⟩,⟨hcl.2.2.1,hcl.2.2.2.1,hcl.2.2.2.2.1,fun t e ht he=>?_,fun o ho' hp=>?_,K0.trans K1⟩⟩
  · rw[r'.size,hn,hcl.2.2.1]
  · obtain⟨rfl,_⟩:=hslots t tg pv ht;exact absurd (qc _) hnT
  · obtain⟨rfl,_⟩:=hslots t tg pv ht;cases hx
  · rw[hcl.2.2.2.2.2.2.1] at hx;cases hx
  · have htk:t∈s.keep:=by
      have hb:=Nat.eq_of_beq_eq_true hpm;rw[qch] at ht
      have h2:(Nat.land σ.prS (maskN s.keep)).testBit t=true:=by rw[hb];exact ht
      have h3:(σ.prS &&& maskN s.keep).testBit t=true:=h2;rw[Nat.testBit_and,Bool.and_eq_true] at h3;exact mask_bit.1 (by rw[qch];exact h3.2)
    have hnh:∀q∈s.slots,q.1≠t:=fun q hq e1=>by
      have:=(hsl q hq).1;rw[e1,memN_spec.2 htk] at this;cases this
    obtain⟨h4,h5,h6⟩:=qcW he;refine kf_of ?_ h5 h6;rw[hcl.2.2.2.2.2.2.2 t hnh,qeZ htk];exact he
  · have hl:listed o s.objs=false:=Bool.eq_false_iff.2 fun hl=>by
      obtain⟨q,hq,rfl⟩:=List.mem_map.1 (listed_spec.1 hl);rw[(hol' q hq).2] at hp;cases hp
    rw[hlow o ho',qm s.objs x2 σ.objs o ho' hl]
end Go.Den
namespace Go.Den
open Go.Eng
set_option linter.unusedVariables false
set_option linter.unusedSectionVars false
set_option linter.unusedSimpArgs false
variable [CT : Ctx]

section
variable {P : Program} {env : Env}

theorem qhW {T α:Type} {f:T→Option (T ⊕ α)} {x:T} {r:α} (h:iterW f x=some r):∃n,iterN f n x=some r:=by
  unfold iterW at h;split at h
  · exact⟨_,h⟩
  · cases h
theorem Rel.enter {F:Fr} {σ:AState} {γ:Gh} {a:Act} {w:World} {s:Shape} {n:Nat} (r:Rel F σ γ a w):Rel F (σ.enter s n) γ a w:=⟨r.size,r.defers,r.slots,r.off,r.gs,r.known,r.o⟩
theorem Rel.leave {F:Fr} {σ σ0:AState} {γ:Gh} {a:Act} {w:World} (r:Rel F σ γ a w):Rel F (σ.leave σ0) γ a w:=⟨r.size,r.defers,r.slots,r.off,r.gs,r.known,r.o⟩
theorem Step.leave {σ σ':AState} {γ γ':Gh} {w w':World} {s:Shape} {n:Nat} (h:Step (σ.enter s n) γ w σ' γ' w'):Step σ γ w (σ'.leave σ) γ' w' :=
  ⟨h.n,rfl,rfl,fun t e ht he=>h.slots t e (qbs ht) he,fun o ho hp=>h.objs o ho (qbs hp),h.keep⟩

theorem Post.then {α:Type} {F:Fr} {σ σ':AState} {γ γ':Gh} {w w':World} {K:Kt α} {res:α} {Q:Exit→Act→World→Prop} (hp:Post F σ γ w K res Q) (s:Step σ γ w σ' γ' w'):Post F σ' γ' w' K res Q :=
  ⟨fun σ2 γ2 a2 w2 hk r2 hc s2=>hp.n σ2 γ2 a2 w2 hk r2 hc (s.trans s2),fun i σ2 γ2 a2 w2 hk r2 hc s2=>hp.x i σ2 γ2 a2 w2 hk r2 hc (s.trans s2),fun σ2 γ2 a2 w2 hk r2 hc s2=>hp.r σ2 γ2 a2 w2 hk r2 hc (s.trans s2)⟩
def RdOK {α:Type} (P:Program) (N:Nat) (rc:Ann→Code→AState→Kt α→Option α):Prop :=
  ∀b σ K res,rc .nil (.loop b) σ K=some res→∀F γ a w Q,Rel F σ γ a w→Cl σ→Post F σ γ w K res Q→Code.rounds P b Q N a w
theorem qah (hE:EnvOK P env) (hm:P.follows .mixedOrders=true) {α:Type} {n:Nat} {rc:Ann→Code→AState→Kt α→Option α} (hrc:RcOK P rc) (hrd:RdOK P n rc) {ann:Ann} {c:Code} {σ:AState} {K:Kt α} {res:α} (h:denP P env rc ann c σ K=some res)
    {F:Fr} {γ:Gh} {a:Act} {w:World} {Q:Exit→Act→World→Prop} (r:Rel F σ γ a w) (hcl:Cl σ) (hp:Post F σ γ w K res Q):c.wp P Q a w:=by
  have fin:∀σ' γ' a' w',K.n σ'.endR=some res→Rel F σ' γ' a' w'→Step σ γ w σ' γ' w'→Q .normal a' w':=fun σ' γ' a' w' hk r' s'=>hp.n σ'.endR γ' a' w' hk r'.endR ⟨rfl,rfl⟩ (s'.trans Step.endR);unfold denP at h;split at h
  · exact wp_skip (hp.n σ γ a w h r hcl (Step.refl _ _ _))
  · exact wp_label (hp.n σ γ a w h r hcl (Step.refl _ _ _))
  · refine wp_seq (hrc _ _ _ _ _ h F γ a w _ r hcl ⟨fun σ' γ' a' w' hk r' hc' s'=>?_,fun i σ' γ' a' w' hk r' hc' s'=>hp.x i σ' γ' a' w' hk r' hc' s',fun σ' γ' a' w' hk r' hc' s'=>hp.r σ' γ' a' w' hk r' hc' s'⟩);exact hrc _ _ _ _ _ hk F γ' a' w' Q r' hc' (hp.then s')
  · simp only[Option.bind_eq_some_iff] at h;obtain⟨v,h1,t,h2,h3⟩:=h;have hev:=ev_bool r (qc σ) h1 h2;cases t
    · exact wp_cond_false hev (hrc _ _ _ _ _ h3 F γ a w Q r hcl hp)
    · exact wp_cond_true hev (hrc _ _ _ _ _ h3 F γ a w Q r hcl hp)
  · refine wp_block (hrc _ _ _ _ _ h F γ a w _ r hcl ⟨fun σ' γ' a' w' hk r' hc' s'=>hp.n σ' γ' a' w' hk r' hc' s',fun i σ' γ' a' w' hk r' hc' s'=>?_,fun σ' γ' a' w' hk r' hc' s'=>hp.r σ' γ' a' w' hk r' hc' s'⟩);simp only[Exit.inBlock];split
    · rename_i e;subst e;simp only[Nat.beq_refl,cond_true] at hk;exact hp.n σ' γ' a' w' hk r' hc' s'
    · rename_i e;have:Nat.beq i _=false:=Bool.eq_false_iff.2 fun hb=>e (Nat.eq_of_beq_eq_true hb);simp only[this,cond_false] at hk;exact hp.x i σ' γ' a' w' hk r' hc' s'
  · refine wp_loop_rounds (n+1) ?_;rw[rounds_succ];refine hrc _ _ _ _ _ h F γ a w _ r hcl ⟨fun σ' γ' a' w' hk r' hc' s'=>?_,fun i σ' γ' a' w' hk r' hc' s'=>hp.x i σ' γ' a' w' hk r' hc' s',fun σ' γ' a' w' hk r' hc' s'=>hp.r σ' γ' a' w' hk r' hc' s'⟩;exact hrd _ _ _ _ hk F γ' a' w' Q r' hc' (hp.then s')
  · exact wp_exit (hp.x _ σ γ a w h r hcl (Step.refl _ _ _))
  · exact wp_ret (hp.r σ γ a w h r hcl (Step.refl _ _ _))
  · exact wp_region_list (qw hE hrc _ _ r h fin)
  · rename_i id ops;have hdr:Chg [] w { w with drawn:=w.drawn+1 }:=⟨rfl,rfl,rfl,Nat.le_refl _,fun _ _ _=>rfl,fun _=>Nat.le_succ _⟩;split at h
    · rename_i s g ann' _;obtain⟨hsel,h⟩:=chk_some.1 h;refine qgW hm (f:=0) (qge hE hrc hsel (3*ops.size+20) ops.size (by simp) ?_ (r.ext hdr) h fun σ2 γ2 a2 w2 hk2 r2 s2=>fin σ2 γ2 a2 w2 hk2 r2 ((Step.ext hdr).trans s2));unfold nUn;exact Nat.le_trans List.countP_le_length (by simp)
    split at h
    · obtain⟨hB,h⟩:=chk_some.1 h;refine wp_region_quiet (C:=Chg [] w) hm hB hdr (qaN hE _ r h fun σ' a' r' s' hk w' hc=>?_);exact fin σ' γ a' w' hk (r'.ext hc) (s'.trans (Step.ext hc))
    · obtain⟨hB2,h⟩:=chk_some.1 h;refine qcJ (C:=Chg [] w) _ hm hB2 hdr (qaN hE _ r h fun σ' a' r' s' hk w' hc=>?_);exact qw hE hrc _ _ (r'.ext hc) hk fun σ2 γ2 a2 w2 hk2 r2 s2=>fin σ2 γ2 a2 w2 hk2 r2 (s'.trans ((Step.ext hc).trans s2))
  · cases h
theorem retype {F:Fr} {objs:List OB} {γ:Gh} {w:World} {p:Nat} {ob ob':OB} (r:ORel F objs γ w) (hp:objs[p]?=some ob) (hm:mutOb ob=true)
    (hnf:∀(i:TypeId) (e:Ty) (xs:List (D e)),ob' ≠ .arr i e xs true) (hob:ObR objs γ w ob' (γ p)):ORel F (objs.set p ob') γ w∧Keep objs γ w (objs.set p ob') γ w objs.length:=by
  have hlt:=qf hp;have hget:∀o',(objs.set p ob')[o']?=if p=o' then some ob' else objs[o']?:=fun o'=>by
    rw[List.getElem?_set];by_cases e1:p=o'
    · subst e1;simp[hlt]
    · simp[e1]
  have hmu:∀o',Mut (objs.set p ob') o'→Mut objs o':=by
    rintro o' ⟨ob2,h1,h2⟩
    rw[hget] at h1;split at h1
    · rename_i e;subst e;exact⟨_,hp,hm⟩
    · exact⟨ob2,h1,h2⟩
  have K:Keep objs γ w (objs.set p ob') γ w objs.length:=⟨fun k hk=>⟨hk.lt,hk.s,fun o' hm'=>hk.own o' (hmu o' hm')⟩,fun _ _=>rfl,by simp,fun _ _=>rfl,Nat.le_refl _,rfl⟩;refine⟨⟨fun o' ob2 h1=>?_,fun o1 o2 b' h1 h2=>r.inj o1 o2 b' (hmu o1 h1) (hmu o2 h2),fun o1 b' h1=>r.own o1 b' (hmu o1 h1),fun o1 b' h1 h2=>r.lt o1 b' (by simpa using h1) h2,r.chg,fun o1 i e xs b' h1 h2=>?_,r.up,r.tab.mono K.imm K.heap⟩,K⟩
  · rw[hget] at h1;split at h1
    · rename_i e;subst e;cases h1;exact ObR.keep K (fun _ _=>rfl) hob
    · exact ObR.keep K (fun _ _=>rfl) (r.rep o' _ h1)
  · rw[hget] at h1;split at h1
    · cases h1;exact absurd rfl (hnf _ _ _)
    · exact K.imm _ (r.frz o1 i e xs b' h1 h2)
theorem qep (hE:EnvOK P env) (hm:P.follows .mixedOrders=true):∀(n:Nat) (α:Type),RcOK P (den P env n α)∧RdOK P n (den P env n α):=by
  intro n
  induction n with
  | zero=>exact fun α=>⟨fun ann c σ K res h=>by simp[den] at h,fun b σ K res h=>by simp[den] at h⟩
  | succ n ih0 =>
    intro α;have ih:=fun α=>(ih0 α).1;refine⟨?_,fun b σ K res h F γ a w Q r hcl hp=>?_⟩
    case refine_2 =>
      simp only[den,denP] at h;rw[rounds_succ];refine ih α _ _ _ _ _ h F γ a w _ r hcl ⟨fun σ' γ' a' w' hk r' hc' s'=>?_,fun i σ' γ' a' w' hk r' hc' s'=>hp.x i σ' γ' a' w' hk r' hc' s',fun σ' γ' a' w' hk r' hc' s'=>hp.r σ' γ' a' w' hk r' hc' s'⟩;exact(ih0 α).2 _ _ _ _ hk F γ' a' w' Q r' hc' (hp.then s')
    intro ann c σ K res h F γ a w Q r hcl hp
    cases ann with
    | nil=>exact qah hE hm (ih α) (ih0 α).2 h r hcl hp
    | two x y=>exact qah hE hm (ih α) (ih0 α).2 h r hcl hp
    | own x=>exact qah hE hm (ih α) (ih0 α).2 h r hcl hp
    | vw x=>exact qah hE hm (ih α) (ih0 α).2 h r hcl hp
    | tail m x=>exact qah hE hm (ih α) (ih0 α).2 h r hcl hp
    | any s g x=>exact qah hE hm (ih α) (ih0 α).2 h r hcl hp
    | ord i u x y=>exact qah hE hm (ih α) (ih0 α).2 h r hcl hp
    | alt x y=>exact qah hE hm (ih α) (ih0 α).2 h r hcl hp
    | spl d x=>exact qah hE hm (ih α) (ih0 α).2 h r hcl hp
    | sel o i x y =>
      simp only[den] at h;exact ih α _ _ _ _ _ h F γ a w Q r hcl hp
    | mbs o x1 x2 =>
      simp only[den,Option.bind_eq_some_iff] at h;obtain⟨ob,hob,h⟩:=h
      cases ob with
      | mbr i e y =>
        simp only[chk_some,Bool.not_eq_true'] at h;obtain⟨hpr,h⟩:=h;have key:∀ob':OB,(∀(i:TypeId) (e:Ty) (xs:List (D e)),ob' ≠ .arr i e xs true)→ObR σ.objs γ w ob' (γ o)→Rel F { σ with objs:=σ.objs.set o ob' } γ a w∧Step σ γ w { σ with objs:=σ.objs.set o ob' } γ w:=fun ob' hnf hob'=>by
          obtain⟨q1,q2⟩:=retype r.o hob rfl hnf hob';have s1:∀o',o'<σ.objs.length→bitB σ.prO o'=true→(σ.objs.set o ob')[o']?=σ.objs[o']?:=fun o' _ hp=>by
            rw[List.getElem?_set,if_neg];intro e1;subst e1;rw[hpr] at hp;cases hp
          exact⟨r.setObjsN q2 q1,⟨rfl,rfl,rfl,fun _ _ _ h=>h,s1,q2⟩⟩
        cases y with
        | none =>
          simp only[Option.elim_none] at h
          obtain⟨r1,s1⟩:=key .nilr (fun _ _ _ e=>by cases e) (by
            rcases r.o.rep o _ hob with ⟨_,h1⟩ | ⟨_,_,h1,_⟩
            · exact h1
            · cases h1)
          exact ih α _ _ _ _ _ h F γ a w Q r1 hcl (hp.then s1)
        | some xs =>
          simp only[Option.elim_some] at h
          obtain⟨r1,s1⟩:=key (.arr i e xs false) (fun _ _ _ e=>by cases e) (by
            rcases r.o.rep o _ hob with ⟨h1,_⟩ | ⟨xs',us,h1,h2,h3⟩
            · cases h1
            · cases h1;exact⟨us,h2,h3⟩)
          exact ih α _ _ _ _ _ h F γ a w Q r1 hcl (hp.then s1)
      | _=>simp at h
    | frz l x =>
      simp only[den,Option.bind_eq_some_iff] at h;obtain⟨objs1,h1,h2⟩:=h;obtain⟨f1,_⟩:=qA r.o h1;have s1:Step σ γ w { σ with objs:=objs1 } γ w:=⟨rfl,rfl,rfl,fun _ _ _ h=>h,fun o _ hp=>f1.prot o hp,f1.keep⟩;exact ih α _ _ _ _ _ h2 F γ a w Q (r.setObjs f1.keep f1.same f1.o) hcl (hp.then s1)
    | join s x =>
      simp only[den,chk_some,Option.bind_eq_some_iff] at h;obtain⟨hho,y,h1,h2⟩:=h;refine ih s.T _ _ _ _ _ h1 F γ a w Q r.enter hcl ⟨fun σ' γ' a' w' hk r' hc' s'=>?_,fun i σ' γ' a' w' hk=>(by cases hk),fun σ' γ' a' w' hk=>(by cases hk)⟩;obtain⟨γF,rF,cF,sF⟩:=qcG r hho r' s'.n (fun t ht e he=>(qcW (s'.slots t e (by rw[AState.enter];exact(by rw[qaU,mask_bit.2 ht];simp)) he)).1) (fun o ho hl=>s'.objs o ho (by rw[AState.enter];exact(by rw[qaU,qeg ho hl];simp))) s'.keep hk;exact hp.n _ γF a' w' h2 rF cF sF
    | joinE s x =>
      simp only[den,chk_some,Option.bind_eq_some_iff] at h;obtain⟨hho,y,h1,h2⟩:=h
      cases y with
      | inl y =>
        refine ih (s.T ⊕ α) _ _ _ _ _ h1 F γ a w Q r.enter hcl ⟨fun σ' γ' a' w' hk r' hc' s'=>?_,fun i σ' γ' a' w' hk=>?_,fun σ' γ' a' w' hk=>?_⟩
        · simp only[Option.map_eq_some_iff,Sum.inl.injEq,exists_eq_right] at hk;obtain⟨γF,rF,cF,sF⟩:=qcG r hho r' s'.n (fun t ht e he=>(qcW (s'.slots t e (by rw[AState.enter];exact(by rw[qaU,mask_bit.2 ht];simp)) he)).1) (fun o ho hl=>s'.objs o ho (by rw[AState.enter];exact(by rw[qaU,qeg ho hl];simp))) s'.keep hk;exact hp.n _ γF a' w' h2 rF cF sF
        · simp at hk
        · simp at hk
      | inr y =>
        simp only[Sum.elim_inr,Option.some.injEq] at h2;subst h2;refine ih (s.T ⊕ α) _ _ _ _ _ h1 F γ a w Q r.enter hcl ⟨fun σ' γ' a' w' hk r' hc' s'=>?_,fun i σ' γ' a' w' hk r' hc' s'=>?_,fun σ' γ' a' w' hk r' hc' s'=>?_⟩
        · simp at hk
        · simp only[Option.map_eq_some_iff,Sum.inr.injEq,exists_eq_right] at hk;exact hp.x i _ γ' a' w' hk r'.leave hc' s'.leave
        · simp only[Option.map_eq_some_iff,Sum.inr.injEq,exists_eq_right] at hk;exact hp.r _ γ' a' w' hk r'.leave hc' s'.leave
    | loop s x =>
      cases c with
      | loop b =>
        simp only[den,chk_some,Option.bind_eq_some_iff] at h;obtain⟨hho,x0,h1,h2⟩:=h;obtain⟨N,h3⟩:=qhW h2;refine wp_loop_rounds N ?_;obtain⟨γ0,r0,c0,s0⟩:=qcG r hho r rfl (fun t ht e he=>(qcW he).1) (fun o ho hl=>rfl) (Keep.refl _ _ _) h1;clear h1 h2
        have key:∀(N:Nat) (y:s.T) (γ1:Gh) (a1:Act) (w1:World),iterN (fun x_1=>den P env n (s.T ⊕ α) x b ((conc s σ x_1).enter s σ.objs.length) ⟨fun σ'=>Option.map Sum.inl (absT s σ.objs.length σ'),fun i σ'=>Option.map Sum.inr (K.x i (σ'.leave σ)),fun σ'=>Option.map Sum.inr (K.r (σ'.leave σ))⟩) N y=some res →
            Rel F (conc s σ y) γ1 a1 w1→Cl (conc s σ y)→Step σ γ w (conc s σ y) γ1 w1→Code.rounds P b Q N a1 w1:=by
          intro N
          induction N with
          | zero=>intro y γ1 a1 w1 h;simp[iterN] at h
          | succ N ihN =>
            intro y γ1 a1 w1 h r1 c1 s1;rw[rounds_succ];simp only[iterN] at h;have hkeep:∀t∈s.keep,∀e,kf σ.slots t=some e→kf (conc s σ y).slots t=some e:=fun t ht e he=>by
              have hh:=hho;simp only[qdP,Bool.and_eq_true,List.all_eq_true,Bool.not_eq_true'] at hh;obtain⟨⟨⟨hpm,hsl⟩,hndo,hol⟩,hg0,hkn0⟩:=hh;obtain⟨k1,k2,k3⟩:=qcW he;refine kf_of ?_ k2 k3;unfold conc
              rw[(qcf s.slots y.1 _).2.2.2.2.2.2.2 t (fun q hq e1=>by
                have:=(hsl q hq).1;rw[e1,memN_spec.2 ht] at this
                cases this)]
              show get (keepF σ.slots s.keep) t=some e;rw[qeZ ht];exact he
            have hobj:∀o,o<σ.objs.length→listed o s.objs=false→(conc s σ y).objs[o]?=σ.objs[o]?:=fun o ho hl=>by
              unfold conc;rw[(qcf s.slots y.1 _).2.1 o (Nat.lt_of_lt_of_le ho (qak s.objs y.2 σ.objs))];exact qm s.objs y.2 σ.objs o ho hl
            have hlen:σ.objs.length≤(conc s σ y).objs.length:=s1.len;split at h
            · cases h
            · rename_i z hz;refine ih (s.T ⊕ α) _ _ _ _ _ hz F γ1 a1 w1 _ r1.enter c1 ⟨fun σ' γ' a' w' hk r' hc' s'=>?_,fun i σ' γ' a' w' hk=>?_,fun σ' γ' a' w' hk=>?_⟩
              · simp only[Option.map_eq_some_iff,Sum.inl.injEq,exists_eq_right] at hk;obtain⟨γF,rF,cF,sF⟩:=qcG r hho r' (s'.n.trans s1.n) (fun t ht e he=>(qcW (s'.slots t e (by rw[AState.enter];exact(by rw[qaU,mask_bit.2 ht];simp)) (hkeep t ht e he))).1)
                  (fun o ho hl=>(s'.objs o (Nat.lt_of_lt_of_le ho hlen) (by rw[AState.enter];exact(by rw[qaU,qeg ho hl];simp))).trans (hobj o ho hl)) (s1.keep.trans (s'.keep.less hlen)) hk
                exact ihN z γF a' w' h rF cF sF
              · simp at hk
              · simp at hk
            · rename_i z hz;cases h;refine ih (s.T ⊕ α) _ _ _ _ _ hz F γ1 a1 w1 _ r1.enter c1 ⟨fun σ' γ' a' w' hk r' hc' s'=>?_,fun i σ' γ' a' w' hk r' hc' s'=>?_,fun σ' γ' a' w' hk r' hc' s'=>?_⟩
              · simp at hk
              · simp only[Option.map_eq_some_iff,Sum.inr.injEq,exists_eq_right] at hk;refine hp.x i _ γ' a' w' hk r'.leave hc' (s1.trans ?_);have s2:=s'.leave;exact⟨s2.n,s1.prS.symm,s1.prO.symm,s2.slots,s2.objs,s2.keep⟩
              · simp only[Option.map_eq_some_iff,Sum.inr.injEq,exists_eq_right] at hk;refine hp.r _ γ' a' w' hk r'.leave hc' (s1.trans ?_);have s2:=s'.leave;exact⟨s2.n,s1.prS.symm,s1.prO.symm,s2.slots,s2.objs,s2.keep⟩
        exact key N x0 γ0 a w h3 r0 c0 s0
      | _=>simp[den] at h
end
end Go.Den
namespace Go.Den
open Go.Eng (qv CellsAt Chg InR adr aggOf)
set_option linter.unusedVariables false
set_option linter.unusedSectionVars false
set_option linter.unusedSimpArgs false
variable [CT : Ctx]

section
variable {P : Program} {env : Env}

theorem qcV {γ:Gh} {w:World} {S:Nat→Prop} (hS:∀k,S k→Imm [] γ w k):∀ {ps:List Ty} {x:DL ps} {vs:List Value},ArgsR w S ps x vs→PRL [] γ w (qb4 ps x) vs
  | [],_,_,h=>h
  | τ::r,x,_,⟨v,q,e,⟨cs,h1,h2⟩,h3⟩=>by
    refine⟨v,q,e,?_,qcV hS h3⟩;have:=qO τ (Rep.mono hS (fun _ _=>rfl) τ h1 (by simp));rw[h2];exact qaa (qaK τ x.1) this
theorem qa5:∀(ps:List Ty) (x:DL ps),(qb4 ps x).length=ps.length
  | [],_=>rfl
  | _::r,x=>by simp[qb4,qa5 r x.2]
theorem qa4 {objs:List OB} {γ:Gh} {w:World} {σ:AState} (hσ:σ.objs=objs):∀ {vs:List PV} {ts:List Ty} {cs:List Cv} {vals:List Value},qa0 vs ts=some cs→PRL objs γ w vs vals→∃cells,VRL objs γ w cs cells∧tupV ts cells=vals∧vals.length=ts.length
  | [],[],cs,vals,h,hv=>by
    simp only[qa0,Option.some.injEq] at h;subst h;simp only[PRL] at hv;subst hv;exact⟨[],rfl,rfl,rfl⟩
  | v::vs,τ::ts,cs,vals,h,⟨u,q,e,h1,h2⟩=>by
    simp only[qa0,Option.bind_eq_some_iff,chk_some,Bool.and_eq_true,Option.some.injEq] at h;obtain⟨l,h3,⟨h4,h5⟩,q2,h6,rfl⟩:=h;subst hσ;have hvl:=qas h3 h1
    have hl:u.cells.toList.length=τ.size:=by rw[hvl.length];exact Nat.eq_of_beq_eq_true h4
    obtain⟨cells,h7,h8,h9⟩:=qa4 rfl h6 h2;refine⟨u.cells.toList++cells,hvl.append h7,?_,by simp[e,h9]⟩;simp only[tupV];rw[←hl,List.take_left,List.drop_left,h8,e,←qeK h3 h5 h1]
  | [],_::_,_,_,h,_=>by simp[qa0] at h
  | _::_,[],_,_,h,_=>by simp[qa0] at h
theorem qfc:∀(b:Bool) (ps:List Ty) (x:DL ps),(qeO b ps x).length≤ps.length
  | false,ps,x=>Nat.le_of_eq (qa5 ps x)
  | true,[],_=>Nat.le_refl _
  | true,_::r,x=>by simp[qeO,qa5 r x.2]
theorem qgh {γ:Gh} {w:World} {S:Nat→Prop} (hS:∀k,S k→Imm [] γ w k) {b:Bool} {ps:List Ty} {x:DL ps} {vs:List Value} (h:ArgsB w S b ps x vs):PRL [] γ w (qeO b ps x) vs:=by
  cases b with
  | false=>exact qcV hS h
  | true =>
    cases ps with
    | nil=>exact h.elim
    | cons τ r =>
      obtain⟨a,us,q,e,h1,h2,h3,h4,h5⟩:=h;exact⟨_,q,e,⟨a,us,rfl,h1,fun hne=>hS _ (h2 hne),h3,qO τ (Rep.mono hS (fun _ _=>rfl) τ h4 (by simp))⟩,qcV hS h5⟩
theorem qg2 (hE:EnvOK P env) (hm:P.follows .mixedOrders=true) {f:FuncId} {fn:Func} (hf:P.funcs[f]?=some fn) (b:Bool) (c:Con) (ann:Ann)
    (hok:(fn.body.isSome&&(Nat.ble c.ps.length fn.ntmps&&(c.ps.all Ty.pure&&(c.one || !Nat.beq c.res.length 1))))=true) (hwf:c.one=false→c.ρ=stOf c.res) (htt:∀g,c.tot=some g→∀x,c.φ x=some (g x))
    (h:∀x,c.φ x=denB P env ann fn b c.ps c.one c.res c.ρ x):ConB P f b c:=by
  simp only[Bool.and_eq_true] at hok;obtain⟨hbody,hn,hpure,hone⟩:=hok;have hn:=Nat.le_of_ble_eq_true hn;refine⟨hpure,hwf,htt,fun w S args x r hS hTab hargs hr=>?_⟩;obtain⟨body,hb⟩:=Option.isSome_iff_exists.1 hbody
  have hbo:Eng.bodyOf fn=body:=by simp[Eng.bodyOf,hb]
  rw[h x] at hr;unfold denB at hr;rw[hbo] at hr
  let γ:Gh:=⟨fun _=>(undef,none),fun k=>S k∨w.heap.size≤k⟩
  have hSI:∀k,S k→Imm [] γ w k:=fun k hk=>⟨hS k hk,.inl hk,fun o hm=>by obtain⟨ob,h1,_⟩:=hm;simp at h1⟩
  have hor:ORel ⟨w,[]⟩ [] γ w:=⟨fun o ob ho=>by simp at ho,fun o o' b hm=>by obtain⟨ob,h1,_⟩:=hm;simp at h1,fun o b hm=>by obtain⟨ob,h1,_⟩:=hm;simp at h1,fun o b ho=>by simp at ho,Chg.refl _ _,fun o i e xs b ho=>by simp at ho,
    fun k hk => .inr (hk.elim id (fun h=>nomatch h)),hTab.mono hSI (fun _ _=>rfl)⟩
  have hv:=qgh hSI hargs;have r00:Rel ⟨w,[]⟩ ⟨0,[],[],0,0,0,[]⟩ γ { tmps:=#[],defers:=[] } w:=⟨rfl,rfl,fun t tg pv h=>by simp[get] at h,fun t tg pv h=>by simp[get] at h,fun t tg pv h=>by simp[get] at h,fun x hx=>(by cases hx),hor⟩;have r0:=qdf (n:=fn.ntmps) r00 hv (Nat.le_trans (qfc b c.ps x) hn)
  have hlast:∀σ' γ' a' w',retK P fn c.one c.res c.ρ σ'=some r→Rel ⟨w,[]⟩ σ' γ' a' w'→Step ⟨fn.ntmps,qX 0 (qeO b c.ps x),[],0,0,0,[]⟩ γ w σ' γ' w' →
      a'.defers=[]∧∃v,(results fn a'.tmps).run P w' = .ok v w'∧∃v2,Ending.returned v = .returned v2∧Chg [] w w'∧ResR w w' S c r v2:=by
    intro σ' γ' a' w' hk r' s';simp only[retK,Option.bind_eq_some_iff] at hk;obtain⟨vs,h1,cs,h2,h3⟩:=hk;obtain⟨vals,h4,h5,h6⟩:=qa6 (P:=P) r' h1;refine⟨r'.defers,_,qbW h5 h6,_,rfl,r'.o.chg,?_⟩;obtain⟨cells,h7,h8,h9⟩:=qa4 rfl h2 h4;simp only[retD,chk_some,Bool.and_eq_true,List.all_eq_true,Bool.not_eq_true'] at h3;obtain⟨⟨hnd,hdis⟩,h10⟩:=h3;have hmut:=(qu (S:=fun _=>True) r'.o (fun _ _=>trivial) c.ρ h10 h7 (fun _ _ _ _=>trivial)).2;have hSeq:γ'.S=γ.S:=s'.keep.s;have hMmem:∀b∈blocks γ' (idsO σ'.objs c.ρ cs),∃o∈idsO σ'.objs c.ρ cs,(γ' o).2=some b:=fun b hb=>by
      obtain⟨o,ho,hb'⟩:=List.mem_flatMap.1 hb;exact⟨o,ho,by simpa using hb'⟩
    have hrep:=(qu (S:=fun k=>k<w'.heap.size∧(S k∨w.heap.size≤k)∧k∉blocks γ' (idsO σ'.objs c.ρ cs)) r'.o (fun k hk=>⟨hk.lt,by have:=hk.s;rw[hSeq] at this;exact this,fun hm=>by
      obtain⟨o,ho,hb⟩:=hMmem k hm;exact hk.own o (hmut o ho) hb⟩) c.ρ h10 h7 (fun o ho b hb=>by
      obtain⟨i,e,xs,fz,hob⟩:=qbS c.ρ h10 ho;have hnm:b∉blocks γ' (idsO σ'.objs c.ρ cs):=fun hm=>by
        obtain⟨o',ho',hb'⟩:=hMmem b hm
        cases fz with
        | true=>exact(r'.o.frz o i e xs b hob hb).own o' (hmut o' ho') hb'
        | false =>
          have e1:=r'.o.inj o o' b ⟨_,hob,rfl⟩ (hmut o' ho') hb hb';subst e1;have:=hdis o ho;rw[memN_spec.2 ho'] at this;cases this
      refine⟨r'.o.lt o b (qf hob) hb,?_,hnm⟩
      cases fz with
      | true=>have:=(r'.o.frz o i e xs b hob hb).s;rw[hSeq] at this;exact this
      | false =>
        rcases r'.o.own o b ⟨_,hob,rfl⟩ hb with h11 | h11
        · exact .inr h11
        · cases h11)).1
    refine⟨_,cells,qag r'.o (qae hnd) hmut,fun b hb=>?_,hrep,?_⟩
    · obtain⟨o,ho,hb'⟩:=hMmem b hb;rcases r'.o.own o b (hmut o ho) hb' with h11 | h11
      · exact h11
      · cases h11
    · unfold resV
      cases hc1:c.one with
      | true =>
        rw[hc1] at h8 h9;simp only[qdq,cond_true,tupV] at h8;rw[←h8]
        have hl:cells.length=c.ρ.size:=by rw[Rep.length c.ρ hrep]
        rw[←hl,List.take_length];rfl
      | false =>
        rw[hc1] at h8 h9 hone;simp only[qdq,cond_false] at h8 h9;simp only[Bool.false_or,Bool.not_eq_true'] at hone;rw[h8]
        have hne:vals.length≠1:=fun e=>by rw[←h9,e] at hone;cases hone
        match vals,hne with
        | [],_=>rfl
        | [_],hne=>exact absurd rfl hne
        | _::_::_,_=>rfl
  have:=(qep hE hm 10000 (D c.ρ)).1 ann body _ _ r hr ⟨w,[]⟩ γ _ w (bodyPost P fn fun e w'=>∃v,e = .returned v∧Chg [] w w'∧ResR w w' S c r v) r0 ⟨rfl,rfl⟩
    ⟨fun σ' γ' a' w' hk r' _ s'=>hlast σ' γ' a' w' hk r' s',fun i σ' γ' a' w' hk=>(by cases hk),fun σ' γ' a' w' hk r' _ s'=>hlast σ' γ' a' w' hk r' s'⟩
  have hcalls:=calls_of_wp (args:=args) hf hb (by simpa using this);exact hcalls
theorem ql (hE:EnvOK P env) (hm:P.follows .mixedOrders=true) {f:FuncId} {fn:Func} (hf:P.funcs[f]?=some fn) (c:Con) (ann:Ann)
    (hok:(fn.body.isSome&&(Nat.ble c.ps.length fn.ntmps&&(c.ps.all Ty.pure&&(c.one || !Nat.beq c.res.length 1))))=true) (hwf:c.one=false→c.ρ=stOf c.res) (htt:∀g,c.tot=some g→∀x,c.φ x=some (g x))
    (h:∀x,c.φ x=denF P env ann fn c.ps c.one c.res c.ρ x):ConOK P f c:=(qg2 hE hm hf false c ann hok hwf htt h).ok
theorem qgw {T α:Type} {G:(T→Option α)→T→Option α} {x:T} {r:α} (h:fixW G x=some r):∃n,fixN G n x=some r:=by
  unfold fixW at h;split at h
  · exact⟨_,h⟩
  · cases h
end

def tyE:Eng.Ty→Ty
  | .int k => .int k
  | .bool => .bool
  | .str => .str
  | .sl e => .sl (tyE e)
  | .nil => .nil
  | .st f r => .st (tyE f) (tyE r)
def dE:(τ:Eng.Ty)→Eng.D τ→D (tyE τ)
  | .int _,n=>n
  | .bool,b=>b
  | .str,s=>s
  | .sl e,(_,_,xs)=>xs.map (dE e)
  | .nil,_=>()
  | .st f r,(x,y)=>(dE f x,dE r y)
def RngL {A:Type} (m:Nat) (R:A→Prop) (xs:List A):Prop:=xs.length≤m∧∀x∈xs,R x
def Rng:(τ:Ty)→D τ→Prop
  | .int k,n=>InR k n
  | .bool,_=>True
  | .str,s=>s.size≤maxLen
  | .sl e,xs=>RngL maxLen (Rng e) xs
  | .osl _ e,xs=>RngL maxLen (Rng e) xs
  | .obx e,x=>Rng e x
  | .onl _ _,_=>True
  | .err,_=>True
  | .bld _ _,_=>True
  | .nil,_=>True
  | .st f r,x=>Rng f x.1∧Rng r x.2
def posE:Eng.Ty→Bool
  | .sl e=>!Nat.beq e.size 0&&posE e
  | .st f r=>posE f&&posE r
  | _=>true
theorem rng_of:∀(τ:Eng.Ty) {y:Eng.D τ} {w:World},Eng.Ok w τ y→Rng (tyE τ) (dE τ y)
  | .int _,_,_,h=>h
  | .bool,_,_,_=>trivial
  | .str,_,_,h=>h
  | .nil,_,_,_=>trivial
  | .sl e,(ao,cap,xs),w,h=>by
    obtain⟨h1,h2,h3⟩:=h;refine⟨by simp only[dE,List.length_map];omega,fun x hx=>?_⟩;obtain⟨y,hy,rfl⟩:=List.mem_map.1 hx;obtain⟨i,hi,rfl⟩:=List.mem_iff_getElem.1 hy;exact rng_of e (h3 i hi).2.2
  | .st f r,(x,y),w,h=>⟨rng_of f h.1,rng_of r h.2⟩
theorem qhu:∀(τ:Eng.Ty) {y:Eng.D τ} {w:World},posE τ=true→Eng.Ok w τ y→Rep w (fun k=>k<w.heap.size) (tyE τ) (dE τ y) [] (Eng.enc τ y)
  | .int _,_,_,_,h=>⟨rfl,rfl⟩
  | .bool,_,_,_,_=>⟨rfl,rfl⟩
  | .str,_,_,_,h=>⟨rfl,rfl⟩
  | .nil,_,_,_,_=>⟨rfl,rfl⟩
  | .sl e,(ao,cap,xs),w,hp,h=>by
    simp only[posE,Bool.and_eq_true,Bool.not_eq_true'] at hp;obtain⟨h1,h2,h3⟩:=h;have hpos:0<e.size:=by
      rcases Nat.eq_zero_or_pos e.size with h0 | h0
      · rw[h0] at hp;cases hp.1
      · exact h0
    refine⟨rfl,ao,cap,(xs.map (Eng.enc e)).flatten,by simp[dE,Eng.enc],by simpa[dE] using h1,?_,fun hne=>?_⟩
    · clear h1 h2;have:∀(l:List (Eng.D e)),(∀x∈l,Eng.Ok w e x)→RepL (fun x c=>Rep w (fun k=>k<w.heap.size) (tyE e) x [] c) (l.map (dE e)) (l.map (Eng.enc e)).flatten:=by
        intro l
        induction l with
        | nil=>intro _;rfl
        | cons x l ih=>intro hl;exact⟨_,_,rfl,qhu e hp.2 (hl x List.mem_cons_self),ih fun y hy=>hl y (List.mem_cons_of_mem _ hy)⟩
      exact this xs fun x hx=>by
        obtain⟨i,hi,rfl⟩:=List.mem_iff_getElem.1 hx;exact(h3 i hi).2.2
    · have hx:xs≠[]:=fun e=>hne (by subst e;rfl);have hl0:0<xs.length:=List.length_pos_iff.2 hx;have hs:=(h3 0 hl0).1;obtain⟨ad,rfl⟩:=Option.isSome_iff_exists.1 hs;have hcells:CellsAt w ad (xs.map (Eng.enc e)).flatten:=by
        intro j v hv;have key:∀(l:List (Eng.D e)) (j:Nat) (v:Value),((l.map (Eng.enc e)).flatten)[j]?=some v→∃i,∃hi:i<l.length,∃m,j=i*e.size+m∧(Eng.enc e l[i])[m]?=some v:=by
          intro l
          induction l with
          | nil=>intro j v h;simp at h
          | cons x l ih =>
            intro j v h;simp only[List.map_cons,List.flatten_cons] at h;by_cases hj:j<(Eng.enc e x).length
            · rw[List.getElem?_append_left hj] at h;exact⟨0,by simp,j,by simp,h⟩
            · rw[List.getElem?_append_right (by omega)] at h;obtain⟨i,hi,m,h4,h5⟩:=ih _ v h;rw[Eng.enc_length] at h4 hj;refine⟨i+1,by simpa using hi,m,?_,by simpa using h5⟩;rw[Nat.add_mul];omega
        obtain⟨i,hi,m,rfl,h5⟩:=key xs j v hv;have:=(h3 i hi).2.1 m v h5;rw[←qg8];exact this
      refine⟨ad,rfl,?_,hcells⟩;obtain⟨v,hv⟩:∃v,(Eng.enc e xs[0])[0]?=some v:=⟨_,List.getElem?_eq_getElem (Nat.lt_of_lt_of_le hpos (Nat.le_of_eq (Eng.enc_length e xs[0]).symm))⟩;have:=(h3 0 hl0).2.1 0 v hv;have hb:=World.block_lt_of_cell? w _ this;rw[Eng.add_block,Eng.add_block] at hb;exact hb
  | .st f r,(x,y),w,hp,h=>by
    simp only[posE,Bool.and_eq_true] at hp;exact⟨_,_,[],[],rfl,rfl,qhu f hp.1 h.1,qhu r hp.2 h.2⟩
theorem arg_of (τ:Eng.Ty) {y:Eng.D τ} {w:World} (hp:posE τ=true) (h:Eng.Ok w τ y):ArgR w (fun k=>k<w.heap.size) (tyE τ) (dE τ y) (Eng.handV τ y):=by
  refine⟨_,qhu τ hp h,?_⟩
  cases τ with
  | sl e=>obtain⟨ao,cap,xs⟩:=y;rfl
  | _=>rfl
theorem law_call {P:Program} {f:FuncId} {ps:List Ty} {φ:DL ps→Option Bool} {t:Option (DL ps→Bool)} (hc:ConOK P f ⟨ps,true,[],.bool,φ,t⟩) {w:World} {args:Array Value} {x:DL ps} (hT:TabR (fun k=>k<w.heap.size) w) (ha:ArgsR w (fun k=>k<w.heap.size) ps x args.toList) (ht:φ x=some true) :
    Calls P f args w fun e w'=>e = .returned (.bool true)∧RowKit.Below w.heap.size w w':=by
  refine(hc.calls w _ args x true (fun _ h=>h) hT ha ht).mono fun e w' hh=>?_;obtain⟨v,rfl,hch,M,cs,_,_,hrep,hv⟩:=hh;refine⟨?_,hch.toBelow⟩;obtain⟨_,rfl⟩:M=[]∧cs=[.bool true]:=hrep;rw[hv];rfl
end Go.Den
namespace Go.Den
open Go.Eng (qv CellsAt Chg InR adr aggOf)
set_option linter.unusedVariables false
set_option linter.unusedSectionVars false
set_option linter.unusedSimpArgs false
variable [CT : Ctx]

section
variable {P : Program} {env : Env}
theorem qcg {objs:List OB} {γ:Gh} {w:World} {S:Nat→Prop} (hS:∀k,S k→Imm objs γ w k):∀ {ps:List Ty} {x:DL ps} {vs:List Value},ArgsR w S ps x vs→PRL objs γ w (qb4 ps x) vs
  | [],_,_,h=>h
  | τ::r,x,_,⟨v,q,e,⟨cs,h1,h2⟩,h3⟩=>by
    refine⟨v,q,e,?_,qcg hS h3⟩;have:=qO τ (Rep.mono hS (fun _ _=>rfl) τ h1 (by simp));rw[h2];exact qaa (qaK τ x.1) this
theorem qh0 (hE:EnvOK P env) (hm:P.follows .mixedOrders=true) {f:FuncId} {fn:Func} (hf:P.funcs[f]?=some fn) (c:Ioc) (ann:Ann)
    (hok:(fn.body.isSome&&(Nat.ble (c.ps.length+1) fn.ntmps&&(c.ps.all Ty.pure&&(c.one || !Nat.beq c.res.length 1))))=true) (hwf:c.one=false→c.ρ=stOf c.res)
    (h:∀x,c.φ x=denIO P env ann fn c.bx c.ps c.one c.res c.ρ x):IocOK P f c:=by
  simp only[Bool.and_eq_true] at hok;obtain⟨hbody,hn,hpure,hone⟩:=hok;have hn:=Nat.le_of_ble_eq_true hn;refine⟨hpure,hwf,fun w S b T cs M args x r hS hTab hheap hMnd hbM hrep hargs hr=>?_⟩;obtain⟨body,hb⟩:=Option.isSome_iff_exists.1 hbody
  have hbo:Eng.bodyOf fn=body:=by simp[Eng.bodyOf,hb]
  rw[h x] at hr;unfold denIO at hr;rw[hbo] at hr;have hblt:b<w.heap.size:=(Array.getElem?_eq_some_iff.1 hheap).1;have hMlt:=qhz c.bx hrep;obtain⟨gs,hgl,hgM,hgp⟩:=qaD c.bx hrep 1;obtain⟨q,hq⟩:∃q,cc c.bx x.1 1=q:=⟨_,rfl⟩;rw[hq] at hgl hgp hr
  let γ:Gh:=⟨fun o=>match o with
    | 0=>(.pointer (some ⟨b,0,none⟩),some b)
    | j+1=>(gs[j]?).getD (undef,none),fun k=>S k∨w.heap.size≤k∨k∈b::M⟩
  have hγ:∀j g,gs[j]?=some g→γ (1+j)=g:=fun j g hj=>by
    rw[Nat.add_comm];show(gs[j]?).getD (undef,none)=g;rw[hj];rfl
  have hblocks:∀o k,o<(OB.box q.1::q.2).length→(γ o).2=some k→k∈b::M:=fun o k ho hk=>by
    cases o with
    | zero=>simp[γ] at hk;simp[hk]
    | succ j =>
      have hj:j<gs.length:=by rw[hgl];simpa using ho
      have:=hγ j _ (List.getElem?_eq_getElem hj);rw[Nat.add_comm] at this;rw[this] at hk;refine List.mem_cons_of_mem _ ?_;rw[hgM];exact List.mem_flatMap.2 ⟨_,List.getElem_mem hj,by simp[hk]⟩
  have hSI:∀k,S k→Imm (OB.box q.1::q.2) γ w k:=fun k hk=>⟨(hS k hk).1,.inl hk,fun o hm hb'=>by
    obtain⟨ob,h1,_⟩:=hm;rcases List.mem_cons.1 (hblocks o k (qf h1) hb') with e | e
    · exact(hS k hk).2.1 e
    · exact(hS k hk).2.2 e⟩
  obtain⟨hv1,hv2⟩:=hgp (OB.box q.1::q.2) γ hSI hγ (by simp[hgl];omega);have hor:ORel ⟨w,b::M⟩ (OB.box q.1::q.2) γ w:=by
    refine⟨fun o ob ho=>?_,fun o o' k h1 h2 hb1 hb2=>?_,fun o k hm hk => .inr ?_,fun o k ho hk=>?_,Chg.refl _ _,fun o i e xs k ho hk=>?_,fun k hk=>?_,hTab.mono hSI (fun _ _=>rfl)⟩
    · cases o with
      | zero=>simp at ho;subst ho;exact⟨b,T,cs,rfl,hheap,hv1⟩
      | succ j =>
        simp only[List.getElem?_cons_succ] at ho
        have hj:j<gs.length:=by rw[hgl];exact qf ho
        have:=(hv2 j ob _ ho (List.getElem?_eq_getElem hj)).1;have e:=hγ j _ (List.getElem?_eq_getElem hj);rw[Nat.add_comm] at e;rw[e];exact this
    · have key:∀o k,o<(OB.box q.1::q.2).length→(γ o).2=some k→(o=0∧k=b)∨∃j g,o=j+1∧gs[j]?=some g∧g.2=some k∧k∈M:=fun o k ho hk=>by
        cases o with
        | zero=>simp[γ] at hk;exact .inl ⟨rfl,hk.symm⟩
        | succ j =>
          have hj:j<gs.length:=by rw[hgl];simpa using ho
          have e:=hγ j _ (List.getElem?_eq_getElem hj);rw[Nat.add_comm] at e;rw[e] at hk;exact .inr ⟨j,_,rfl,List.getElem?_eq_getElem hj,hk,by rw[hgM];exact List.mem_flatMap.2 ⟨_,List.getElem_mem hj,by simp[hk]⟩⟩
      rcases key o k h1.lt hb1 with ⟨rfl,e1⟩ | ⟨j1,g1,rfl,hg1,hk1,m1⟩<;>rcases key o' k h2.lt hb2 with ⟨rfl,e2⟩ | ⟨j2,g2,rfl,hg2,hk2,m2⟩
      · rfl
      · exact absurd (e1▸m2) hbM
      · exact absurd (e2▸m1) hbM
      · rw[qfR (hgM▸hMnd) hg1 hg2 hk1 hk2]
    · obtain⟨ob,h1,_⟩:=hm;exact hblocks o k (qf h1) hk
    · rcases List.mem_cons.1 (hblocks o k ho hk) with e | e
      · rw[e];exact hblt
      · exact hMlt k e
    · cases o with
      | zero=>simp at ho
      | succ j =>
        simp only[List.getElem?_cons_succ] at ho
        have hj:j<gs.length:=by rw[hgl];exact qf ho
        cases (hv2 j _ _ ho (List.getElem?_eq_getElem hj)).2
    · rcases hk with hk | hk
      · exact .inr (.inl hk)
      · exact .inr (.inr hk)
  have hv:PRL (OB.box q.1::q.2) γ w (.c (.ptr 0 0)::qb4 c.ps x.2) (.pointer (some ⟨b,0,none⟩)::args):=⟨_,_,rfl,⟨by simp,b,rfl,rfl⟩,qcg hSI hargs⟩;have r00:Rel ⟨w,b::M⟩ ⟨0,[],OB.box q.1::q.2,0,0,0,[]⟩ γ { tmps:=#[],defers:=[] } w:=⟨rfl,rfl,fun t tg pv h=>by simp[get] at h,fun t tg pv h=>by simp[get] at h,fun t tg pv h=>by simp[get] at h,fun x hx=>(by cases hx),hor⟩;have r0:=qdf (n:=fn.ntmps) r00 hv (by rw[List.length_cons,qa5];exact hn)
  have hlast:∀σ' γ' a' w',retIO P fn c.bx c.one c.res c.ρ σ'=some r→Rel ⟨w,b::M⟩ σ' γ' a' w'→Step ⟨fn.ntmps,qX 0 (.c (.ptr 0 0)::qb4 c.ps x.2),OB.box q.1::q.2,0,0,0,[]⟩ γ w σ' γ' w' →
      a'.defers=[]∧∃v,(results fn a'.tmps).run P w' = .ok v w'∧∃v2,Ending.returned v = .returned v2∧Chg (b::M) w w'∧IoR w w' S b M c r v2:=by
    intro σ' γ' a' w' hk r' s';simp only[retIO,Option.bind_eq_some_iff] at hk;obtain⟨vs,h1,cs1,h2,ob,hob,h3⟩:=hk
    cases ob with
    | box bs =>
      simp only[chk_some,Bool.and_eq_true,Bool.not_eq_true'] at h3;obtain⟨⟨hbl,hm00⟩,h3⟩:=h3;have hbl:=Nat.eq_of_beq_eq_true hbl;obtain⟨vals,h4,h5,h6⟩:=qa6 (P:=P) r' h1;refine⟨r'.defers,_,qbW h5 h6,_,rfl,r'.o.chg,?_⟩;obtain⟨cells,h7,h8,h9⟩:=qa4 rfl h2 h4;obtain⟨b',T',cs',hg',hheap',hvb⟩:=r'.o.rep 0 _ hob;have hγ0:γ' 0=γ 0:=s'.keep.gh 0 (by simp)
      have hbb:b'=b:=by rw[hγ0] at hg';simp[γ] at hg';exact hg'.symm
      subst hbb;have hm0:Mut σ'.objs 0:=⟨_,hob,rfl⟩
      have hg0:(γ' 0).2=some b':=by rw[hg']
      have hva:=hvb.append h7;simp only[retD,chk_some,Bool.and_eq_true,List.all_eq_true,Bool.not_eq_true'] at h3;obtain⟨⟨hnd,hdis⟩,h10⟩:=h3;have hmut:=(qu (S:=fun _=>True) r'.o (fun _ _=>trivial) (.st c.bx c.ρ) h10 hva (fun _ _ _ _=>trivial)).2;have hSeq:γ'.S=γ.S:=s'.keep.s;have hMmem:∀k∈blocks γ' (idsO σ'.objs (.st c.bx c.ρ) (bs++cs1)),∃o∈idsO σ'.objs (.st c.bx c.ρ) (bs++cs1),(γ' o).2=some k:=fun k hk=>by
        obtain⟨o,ho,hb'⟩:=List.mem_flatMap.1 hk;exact⟨o,ho,by simpa using hb'⟩
      have hne0:∀o k,Mut σ'.objs o→o≠0→(γ' o).2=some k→k≠b':=fun o k m1 m2 m3 e=>m2 (r'.o.inj o 0 b' m1 hm0 (e▸m3) hg0);have hids0:∀o∈idsO σ'.objs (.st c.bx c.ρ) (bs++cs1),o≠0:=fun o ho e=>by
        rw[e] at ho;rw[memN_spec.2 ho] at hm00;cases hm00
      have hsplit:∀k,γ.S k→k≠b'→S k∨w.heap.size≤k∨k∈M:=fun k hk hne=>by
        rcases hk with hk | hk | hk
        · exact .inl hk
        · exact .inr (.inl hk)
        · rcases List.mem_cons.1 hk with e | e
          · exact absurd e hne
          · exact .inr (.inr e)
      have himm:∀k,Imm σ'.objs γ' w' k→k<w'.heap.size∧(S k∨w.heap.size≤k∨k∈M)∧k∉blocks γ' (idsO σ'.objs (.st c.bx c.ρ) (bs++cs1))∧k≠b':=fun k hk=>by
        have hne:k≠b':=fun e=>hk.own 0 hm0 (by rw[e];exact hg0);refine⟨hk.lt,hsplit k (by have:=hk.s;rw[hSeq] at this;exact this) hne,fun hm=>?_,hne⟩;obtain⟨o,ho,hb2⟩:=hMmem k hm;exact hk.own o (hmut o ho) hb2
      have hrep':=(qu (S:=fun k=>k<w'.heap.size∧(S k∨w.heap.size≤k∨k∈M)∧k∉blocks γ' (idsO σ'.objs (.st c.bx c.ρ) (bs++cs1))∧k≠b') r'.o himm (.st c.bx c.ρ) h10 hva (fun o ho k hk=>by
        obtain⟨i,e,xs,fz,hobd⟩:=qbS (.st c.bx c.ρ) h10 ho
        cases fz with
        | true=>exact himm k (r'.o.frz o i e xs k hobd hk)
        | false =>
          have hmo:Mut σ'.objs o:=⟨_,hobd,rfl⟩
          have ho0:o≠0:=fun e0=>by rw[e0,hob] at hobd;cases hobd
          have hne:=hne0 o k hmo ho0 hk;refine⟨r'.o.lt o k (qf hobd) hk,?_,fun hm=>?_,hne⟩
          · rcases r'.o.own o k hmo hk with h11 | h11
            · exact .inr (.inl h11)
            · rcases List.mem_cons.1 h11 with e1 | e1
              · exact absurd e1 hne
              · exact .inr (.inr e1)
          · obtain⟨o',ho',hb2⟩:=hMmem k hm;have e1:=r'.o.inj o o' k hmo (hmut o' ho') hk hb2;subst e1;have:=hdis o ho;rw[memN_spec.2 ho'] at this
            cases this)).1
      obtain⟨c1,c2,M1,M2,e1,e2,hR1,hR2⟩:=hrep';have hl1:c1.length=c.bx.size:=Rep.length c.bx hR1
      have hl2:cs'.toList.length=c.bx.size:=by rw[hvb.length];exact hbl
      obtain⟨e3,e4⟩:=List.append_inj e1 (by rw[hl1,hl2]);subst e3;subst e4;rw[e2] at hR1 hR2;have hbn:(M1++M2).Nodup:=e2▸qag r'.o (qae hnd) hmut;refine⟨T',cs',M1,M2,cells,hheap',hbn,fun k hk=>?_,hR1,hR2,?_⟩
      · obtain⟨o,ho,hb2⟩:=hMmem k (e2▸hk);have hne:=hne0 o k (hmut o ho) (hids0 o ho) hb2;refine⟨?_,hne⟩;rcases r'.o.own o k (hmut o ho) hb2 with h11 | h11
        · exact .inr h11
        · rcases List.mem_cons.1 h11 with e5 | e5
          · exact absurd e5 hne
          · exact .inl e5
      · unfold resV
        cases hc1:c.one with
        | true =>
          rw[hc1] at h8 h9;simp only[qdq,cond_true,tupV] at h8;rw[←h8]
          have hl:cells.length=c.ρ.size:=by rw[Rep.length c.ρ hR2]
          rw[←hl,List.take_length];rfl
        | false =>
          rw[hc1] at h8 h9 hone;simp only[qdq,cond_false] at h8 h9;simp only[Bool.false_or,Bool.not_eq_true'] at hone;rw[h8]
          have hne:vals.length≠1:=fun e=>by rw[←h9,e] at hone;cases hone
          match vals,hne with
          | [],_=>rfl
          | [_],hne=>exact absurd rfl hne
          | _::_::_,_=>rfl
    | _=>simp at h3
  have:=(qep hE hm 10000 (D (.st c.bx c.ρ))).1 ann body _ _ r hr ⟨w,b::M⟩ γ _ w (bodyPost P fn fun e w'=>∃v,e = .returned v∧Chg (b::M) w w'∧IoR w w' S b M c r v) r0 ⟨rfl,rfl⟩
    ⟨fun σ' γ' a' w' hk r' _ s'=>hlast σ' γ' a' w' hk r' s',fun i σ' γ' a' w' hk=>(by cases hk),fun σ' γ' a' w' hk r' _ s'=>hlast σ' γ' a' w' hk r' s'⟩
  have hcalls:=calls_of_wp (args:=(.pointer (some ⟨b,0,none⟩)::args).toArray) hf hb (by simpa using this);exact hcalls
theorem ioc_fix {f:FuncId} {bx:Ty} {ps:List Ty} {one:Bool} {rs:List Ty} {ρ:Ty} {G:(DL (bx::ps)→Option (D (.st bx ρ)))→DL (bx::ps)→Option (D (.st bx ρ))} (hpure:ps.all Ty.pure=true) (hwf:one=false→ρ=stOf rs)
    (h:∀φ,IocOK P f ⟨bx,ps,one,rs,ρ,φ⟩→IocOK P f ⟨bx,ps,one,rs,ρ,G φ⟩):IocOK P f ⟨bx,ps,one,rs,ρ,fixW G⟩:=by
  have key:∀n,IocOK P f ⟨bx,ps,one,rs,ρ,fixN G n⟩:=by
    intro n
    induction n with
    | zero=>exact⟨hpure,hwf,fun w S b T cs M args x r _ _ _ _ _ _ _ hr=>by simp[fixN] at hr⟩
    | succ n ih=>exact h _ ih
  exact⟨hpure,hwf,fun w S b T cs M args x r h1 h1' h2 h3 h4 h5 h6 hr=>by
    obtain⟨n,hn⟩:=qgw hr
    exact(key n).calls w S b T cs M args x r h1 h1' h2 h3 h4 h5 h6 hn⟩
theorem qeD {objs:List OB} {γ:Gh} {w:World}:∀ {l:List Cv} {vs:List Value},VRL objs γ w l vs→PRL objs γ w (cPVs l) vs
  | [],_,h=>h
  | _::_,_,⟨v,r,e,h1,h2⟩=>⟨v,r,e,h1,qeD h2⟩
theorem qhR {objs:List OB} {γ:Gh} {w:World}:∀ {sg:List Nat} {la lb lc us:List PV} {va vb vc all:List Value},weave (fun g=>PV.c (.fn g [])) sg la lb lc=some us→weave (fun g=>Value.func (.func g) #[] #[]) sg va vb vc=some all →
    PRL objs γ w la va→PRL objs γ w lb vb→PRL objs γ w lc vc→PRL objs γ w us all:=by
  intro sg
  induction sg with
  | nil =>
    intro la lb lc us va vb vc all h1 h2 p1 p2 p3
    cases la<;>cases lb<;>cases lc<;>simp[weave] at h1
    subst h1;simp only[PRL] at p1 p2 p3;subst p1;subst p2;subst p3;simp[weave] at h2;subst h2;rfl
  | cons n sg ih =>
    intro la lb lc us va vb vc all h1 h2 p1 p2 p3
    match n,h1,h2 with
    | 0,h1,h2 =>
      cases la with
      | nil=>simp[weave] at h1
      | cons x la =>
        obtain⟨v,va',rfl,q1,q2⟩:=p1;simp only[weave,Option.bind_eq_some_iff,Option.some.injEq] at h1 h2;obtain⟨l1,k1,rfl⟩:=h1;obtain⟨l2,k2,rfl⟩:=h2;exact⟨v,l2,rfl,q1,ih k1 k2 q2 p2 p3⟩
    | 1,h1,h2 =>
      cases lb with
      | nil=>simp[weave] at h1
      | cons x lb =>
        obtain⟨v,va',rfl,q1,q2⟩:=p2;simp only[weave,Option.bind_eq_some_iff,Option.some.injEq] at h1 h2;obtain⟨l1,k1,rfl⟩:=h1;obtain⟨l2,k2,rfl⟩:=h2;exact⟨v,l2,rfl,q1,ih k1 k2 p1 q2 p3⟩
    | 2,h1,h2 =>
      cases lc with
      | nil=>simp[weave] at h1
      | cons x lc =>
        obtain⟨v,va',rfl,q1,q2⟩:=p3;simp only[weave,Option.bind_eq_some_iff,Option.some.injEq] at h1 h2;obtain⟨l1,k1,rfl⟩:=h1;obtain⟨l2,k2,rfl⟩:=h2;exact⟨v,l2,rfl,q1,ih k1 k2 p1 p2 q2⟩
    | n+3,h1,h2 =>
      simp only[weave,Option.bind_eq_some_iff,Option.some.injEq] at h1 h2;obtain⟨l1,k1,rfl⟩:=h1;obtain⟨l2,k2,rfl⟩:=h2;exact⟨_,l2,rfl,⟨trivial,[],rfl,rfl⟩,ih k1 k2 p1 p2 p3⟩
theorem weave_len {α:Type} {f:Nat→α}:∀ {sg:List Nat} {la lb lc us:List α},weave f sg la lb lc=some us→us.length=sg.length:=by
  intro sg
  induction sg with
  | nil =>
    intro la lb lc us h1
    cases la<;>cases lb<;>cases lc<;>simp[weave] at h1
    subst h1;rfl
  | cons n sg ih =>
    intro la lb lc us h1
    match n,h1 with
    | 0,h1 =>
      cases la with
      | nil=>simp[weave] at h1
      | cons x la =>
        simp only[weave,Option.bind_eq_some_iff,Option.some.injEq] at h1;obtain⟨l1,k1,rfl⟩:=h1;simp[ih k1]
    | 1,h1 =>
      cases lb with
      | nil=>simp[weave] at h1
      | cons x la =>
        simp only[weave,Option.bind_eq_some_iff,Option.some.injEq] at h1;obtain⟨l1,k1,rfl⟩:=h1;simp[ih k1]
    | 2,h1 =>
      cases lc with
      | nil=>simp[weave] at h1
      | cons x la =>
        simp only[weave,Option.bind_eq_some_iff,Option.some.injEq] at h1;obtain⟨l1,k1,rfl⟩:=h1;simp[ih k1]
    | n+3,h1 =>
      simp only[weave,Option.bind_eq_some_iff,Option.some.injEq] at h1;obtain⟨l1,k1,rfl⟩:=h1;simp[ih k1]
theorem cc_spec2 {w:World} {S:Nat→Prop} {f r:Ty} {x1:D f} {x2:D r} {M1 M2:List Nat} {c1 c2:List Value} (h3:Rep w S f x1 M1 c1) (h4:Rep w S r x2 M2 c2) (n:Nat) :
    ∃g1 g2:List (Value×Option Nat),g1.length=(cc f x1 n).2.length∧M1=g1.flatMap (fun g=>g.2.toList)∧(g1++g2).length=(cc (.st f r) (x1,x2) n).2.length∧M1++M2=(g1++g2).flatMap (fun g=>g.2.toList) ∧
    ∀(objs:List OB) (γ:Gh),(∀k,S k→Imm objs γ w k)→(∀j g,(g1++g2)[j]?=some g→γ (n+j)=g)→n+(g1++g2).length≤objs.length →
      VRL objs γ w (cc (.st f r) (x1,x2) n).1 (c1++c2)∧(∀(j:Nat) ob g,(cc (.st f r) (x1,x2) n).2[j]?=some ob→(g1++g2)[j]?=some g→ObR objs γ w ob g∧mutOb ob=true):=by
  obtain⟨g1,l1,m1,p1⟩:=qaD f h3 n;obtain⟨g2,l2,m2,p2⟩:=qaD r h4 (n+(cc f x1 n).2.length);refine⟨g1,g2,l1,m1,by simp[cc,l1,l2],by simp[m1,m2],fun objs γ hS hg hn=>?_⟩;rw[List.length_append] at hn
  obtain⟨a1,b1⟩:=p1 objs γ hS (fun j g hj=>hg j g (by
    rw[List.getElem?_append_left (List.getElem?_eq_some_iff.1 hj).1];exact hj)) (by omega)
  obtain⟨a2,b2⟩:=p2 objs γ hS (fun j g hj=>by
    have:=hg (g1.length+j) g (by rw[List.getElem?_append_right (by omega)];simpa using hj);rw[←l1,Nat.add_assoc]
    exact this) (by omega)
  refine⟨a1.append a2,fun j ob g ho hj=>?_⟩;simp only[cc] at ho;by_cases hlt:j<g1.length
  · rw[List.getElem?_append_left (by omega)] at ho;rw[List.getElem?_append_left hlt] at hj;exact b1 j ob g ho hj
  · rw[List.getElem?_append_right (by omega)] at ho;rw[List.getElem?_append_right (by omega)] at hj;exact b2 (j-g1.length) ob g (by rw[l1];exact ho) hj
theorem go_of_den (hE:EnvOK P env) (hm:P.follows .mixedOrders=true) {f:FuncId} {fn:Func} (hf:P.funcs[f]?=some fn) (c:Goc) (ann:Ann)
    (hok:(fn.body.isSome&&(Nat.ble c.sg.length fn.ntmps&&(c.ps.all Ty.pure&&(topTy c.tp&&(c.one || !Nat.beq c.res.length 1)))))=true) (hwf:c.one=false→c.ρ=stOf c.res)
    (h:∀x,c.φ x=denGO P env ann fn c.tp c.mv c.ps c.sg c.one c.res c.ρ x):GocOK P f c:=by
  simp only[Bool.and_eq_true] at hok;obtain⟨hbody,hn,hpure,htop,hone⟩:=hok;have hn:=Nat.le_of_ble_eq_true hn;refine⟨hpure,htop,hwf,fun w S Mt Mm va vb args all x r hS hTab hMnd hrept hrepm hargs hwv hr=>?_⟩;obtain⟨body,hb⟩:=Option.isSome_iff_exists.1 hbody
  have hbo:Eng.bodyOf fn=body:=by simp[Eng.bodyOf,hb]
  rw[h x] at hr;unfold denGO at hr;rw[hbo] at hr;obtain⟨us,hus,hr⟩:=Option.bind_eq_some_iff.1 hr;have hrep:Rep w S (.st c.tp c.mv) (x.1,x.2.1) (Mt++Mm) (va++vb):=⟨_,_,_,_,rfl,rfl,hrept,hrepm⟩;have hMlt:=qhz _ hrep;obtain⟨gs1,gs2,hg1l,hg1M,hgl,hgM,hgp⟩:=cc_spec2 hrept hrepm 0;obtain⟨gs,hgse⟩:∃gs,gs1++gs2=gs:=⟨_,rfl⟩;rw[hgse] at hgl hgM hgp;obtain⟨M,hM⟩:∃M,Mt++Mm=M:=⟨_,rfl⟩;obtain⟨q,hq⟩:∃q,cc (.st c.tp c.mv) (x.1,x.2.1) 0=q:=⟨_,rfl⟩;rw[hq] at hgl hgp hr hus;rw[hM] at hS hMnd hMlt hgM
  let γ:Gh:=⟨fun o=>(gs[o]?).getD (undef,none),fun k=>S k∨w.heap.size≤k∨k∈M⟩
  have hγ:∀j g,gs[j]?=some g→γ (0+j)=g:=fun j g hj=>by
    rw[Nat.zero_add];show(gs[j]?).getD (undef,none)=g;rw[hj];rfl
  have hγ':∀j g,gs[j]?=some g→γ j=g:=fun j g hj=>by have:=hγ j g hj;rwa [Nat.zero_add] at this
  have hblocks:∀o k,o<q.2.length→(γ o).2=some k→k∈M:=fun o k ho hk=>by
    have hj:o<gs.length:=by rw[hgl];exact ho
    rw[hγ' o _ (List.getElem?_eq_getElem hj)] at hk;rw[hgM];exact List.mem_flatMap.2 ⟨_,List.getElem_mem hj,by simp[hk]⟩
  have hSI:∀k,S k→Imm q.2 γ w k:=fun k hk=>⟨(hS k hk).1,.inl hk,fun o hm hb'=>(hS k hk).2 (hblocks o k hm.lt hb')⟩;obtain⟨hv1,hv2⟩:=hgp q.2 γ hSI hγ (by simp[hgl]);have hor:ORel ⟨w,M⟩ q.2 γ w:=by
    refine⟨fun o ob ho=>?_,fun o o' k h1 h2 hb1 hb2=>?_,fun o k hm hk => .inr (hblocks o k hm.lt hk),fun o k ho hk=>hMlt k (hblocks o k ho hk),Chg.refl _ _,fun o i e xs k ho hk=>?_,fun k hk=>?_,hTab.mono hSI (fun _ _=>rfl)⟩
    · have hj:o<gs.length:=by rw[hgl];exact qf ho
      have:=(hv2 o ob _ ho (List.getElem?_eq_getElem hj)).1;rw[hγ' o _ (List.getElem?_eq_getElem hj)];exact this
    · have hj1:o<gs.length:=by rw[hgl];exact h1.lt
      have hj2:o'<gs.length:=by rw[hgl];exact h2.lt
      have e1:=List.getElem?_eq_getElem hj1;have e2:=List.getElem?_eq_getElem hj2;rw[hγ' _ _ e1] at hb1;rw[hγ' _ _ e2] at hb2;exact qfR (hgM▸hMnd) e1 e2 hb1 hb2
    · have hj:o<gs.length:=by rw[hgl];exact qf ho
      cases (hv2 o _ _ ho (List.getElem?_eq_getElem hj)).2
    · rcases hk with hk | hk
      · exact .inr (.inl hk)
      · exact .inr (.inr hk)
  have hla:va.length=c.tp.size:=Rep.length c.tp hrept;have hv1a:=hv1.take c.tp.size;rw[List.take_left' hla] at hv1a;have hv1b:=hv1.drop c.tp.size;rw[List.drop_left' hla] at hv1b;have hv:PRL q.2 γ w us all:=qhR hus hwv (qeD hv1a) (qeD hv1b) (qcg hSI hargs);have r00:Rel ⟨w,M⟩ ⟨0,[],q.2,0,0,0,[]⟩ γ { tmps:=#[],defers:=[] } w:=⟨rfl,rfl,fun t tg pv h=>by simp[get] at h,fun t tg pv h=>by simp[get] at h,fun t tg pv h=>by simp[get] at h,fun x hx=>(by cases hx),hor⟩;have r0:=qdf (n:=fn.ntmps) r00 hv (by rw[weave_len hus];exact hn);obtain⟨la,hla2⟩:∃la,q.1.take c.tp.size=la:=⟨_,rfl⟩;rw[hla2] at hr hv1a
  have hlal:la.length=c.tp.size:=by rw[←hv1a.length];exact hla
  have hlast:∀σ' γ' a' w',retGO P fn c.tp la c.one c.res c.ρ σ'=some r→Rel ⟨w,M⟩ σ' γ' a' w'→Step ⟨fn.ntmps,qX 0 us,q.2,0,0,0,[]⟩ γ w σ' γ' w' →
      a'.defers=[]∧∃v,(results fn a'.tmps).run P w' = .ok v w'∧∃v2,Ending.returned v = .returned v2∧Chg M w w'∧GoR w w' S Mt M va c r v2:=by
    intro σ' γ' a' w' hk r' s';simp only[retGO,Option.bind_eq_some_iff] at hk;obtain⟨vs,h1,cs1,h2,h3⟩:=hk;obtain⟨vals,h4,h5,h6⟩:=qa6 (P:=P) r' h1;refine⟨r'.defers,_,qbW h5 h6,_,rfl,r'.o.chg,?_⟩;obtain⟨cells,h7,h8,h9⟩:=qa4 rfl h2 h4;have hva':VRL σ'.objs γ' w' la va:=VRL.keep s'.keep hv1a.below hv1a;simp only[retD,chk_some,Bool.and_eq_true,List.all_eq_true,Bool.not_eq_true'] at h3;obtain⟨⟨hnd,hdis⟩,h10⟩:=h3;simp only[toD,Option.bind_eq_some_iff] at h10;obtain⟨r1,ht1,r2,ht2,hrr⟩:=h10;have hrr:(r1,r2)=r:=Option.some.inj hrr;subst hrr;rw[List.take_left' hlal] at ht1;rw[List.drop_left' hlal] at ht2;simp only[idsO,idsD,List.take_left' hlal,List.drop_left' hlal] at hnd hdis;have hmut1:=(qu (S:=fun _=>True) r'.o (fun _ _=>trivial) c.tp ht1 hva' (fun _ _ _ _=>trivial)).2
    have hmut2:=(qu (S:=fun _=>True) r'.o (fun _ _=>trivial) c.ρ ht2 h7 (fun _ _ _ _=>trivial)).2;obtain⟨ids,hids⟩:∃ids,idsO σ'.objs c.tp la++idsO σ'.objs c.ρ cs1=ids:=⟨_,rfl⟩;rw[hids] at hnd hdis;have hmut:∀o∈ids,Mut σ'.objs o:=fun o ho=>by
      rw[←hids] at ho;exact(List.mem_append.1 ho).elim (hmut1 o) (hmut2 o)
    have hbeq:blocks γ' (idsO σ'.objs c.tp la)++blocks γ' (idsO σ'.objs c.ρ cs1)=blocks γ' ids:=by rw[←hids];simp[blocks]
    have hSeq:γ'.S=γ.S:=s'.keep.s;have hMmem:∀k∈blocks γ' ids,∃o∈ids,(γ' o).2=some k:=fun k hk=>by
      obtain⟨o,ho,hb'⟩:=List.mem_flatMap.1 hk;exact⟨o,ho,by simpa using hb'⟩
    have himm:∀k,Imm σ'.objs γ' w' k→k<w'.heap.size∧(S k∨w.heap.size≤k∨k∈M)∧k∉blocks γ' ids:=fun k hk=>by
      refine⟨hk.lt,by have:=hk.s;rw[hSeq] at this;exact this,fun hm=>?_⟩;obtain⟨o,ho,hb2⟩:=hMmem k hm;exact hk.own o (hmut o ho) hb2
    have hdd:∀(τ:Ty) (l:List Cv) (y:D τ),toD σ'.objs τ l=some y→(∀o∈idsD σ'.objs τ l,memN o ids=false)→∀o∈idsD σ'.objs τ l,∀k,(γ' o).2=some k→k<w'.heap.size∧(S k∨w.heap.size≤k∨k∈M)∧k∉blocks γ' ids:=fun τ l y hy hdj o ho k hk=>by
      obtain⟨i,e,xs,fz,hobd⟩:=qbS τ hy ho
      cases fz with
      | true=>exact himm k (r'.o.frz o i e xs k hobd hk)
      | false =>
        have hmo:Mut σ'.objs o:=⟨_,hobd,rfl⟩;refine⟨r'.o.lt o k (qf hobd) hk,?_,fun hm=>?_⟩
        · rcases r'.o.own o k hmo hk with h11 | h11
          · exact .inr (.inl h11)
          · exact .inr (.inr h11)
        · obtain⟨o',ho',hb2⟩:=hMmem k hm;have e1:=r'.o.inj o o' k hmo (hmut o' ho') hk hb2;subst e1;have:=hdj o ho;rw[memN_spec.2 ho'] at this;cases this
    have hrep1:=(qu (S:=fun k=>k<w'.heap.size∧(S k∨w.heap.size≤k∨k∈M)∧k∉blocks γ' ids) r'.o himm c.tp ht1 hva' (hdd c.tp la r1 ht1 fun o ho=>hdis o (List.mem_append_left _ ho))).1;have hrep2:=(qu (S:=fun k=>k<w'.heap.size∧(S k∨w.heap.size≤k∨k∈M)∧k∉blocks γ' ids) r'.o himm c.ρ ht2 h7 (hdd c.ρ cs1 r2 ht2 fun o ho=>hdis o (List.mem_append_right _ ho))).1;rw[←hbeq] at hrep1 hrep2;refine⟨_,_,cells,?_,fun k hk=>?_,fun i e he=>?_,hrep1,hrep2,?_⟩
    · rw[hbeq];exact qag r'.o (qae hnd) hmut
    · rw[hbeq] at hk;obtain⟨o,ho,hb2⟩:=hMmem k hk;rcases r'.o.own o k (hmut o ho) hb2 with h11 | h11
      · exact .inr h11
      · exact .inl h11
    · have hl0:la=[.os 0]∧∃g,gs[0]?=some g∧g.2.toList=Mt:=by
        rw[←hla2,←hq];obtain⟨tp,mv,ps,sg,one,res,ρ,φ⟩:=c;simp only at he;subst he;refine⟨rfl,?_⟩;obtain⟨g,rfl⟩:∃g,gs1=[g]:=List.length_eq_one_iff.1 hg1l;refine⟨g,by rw[←hgse];rfl,?_⟩;rw[hg1M];simp
      obtain⟨e1,g,hg0,hg1⟩:=hl0;rw[e1,he];simp only[idsO,cv1,Option.elim_some,osId,blocks,List.flatMap_cons,List.flatMap_nil,List.append_nil];rw[s'.keep.gh 0 (by rw[←hgl];exact qf hg0),hγ' 0 g hg0];exact hg1
    · unfold resV
      cases hc1:c.one with
      | true =>
        rw[hc1] at h8 h9;simp only[qdq,cond_true,tupV] at h8;rw[←h8]
        have hl:cells.length=c.ρ.size:=by rw[Rep.length c.ρ hrep2]
        rw[←hl,List.take_length];rfl
      | false =>
        rw[hc1] at h8 h9 hone;simp only[qdq,cond_false] at h8 h9;simp only[Bool.false_or,Bool.not_eq_true'] at hone;rw[h8]
        have hne:vals.length≠1:=fun e=>by rw[←h9,e] at hone;cases hone
        match vals,hne with
        | [],_=>rfl
        | [_],hne=>exact absurd rfl hne
        | _::_::_,_=>rfl
  rw[hM];have:=(qep hE hm 10000 (D (.st c.tp c.ρ))).1 ann body _ _ r hr ⟨w,M⟩ γ _ w (bodyPost P fn fun e w'=>∃v,e = .returned v∧Chg M w w'∧GoR w w' S Mt M va c r v) r0 ⟨rfl,rfl⟩
    ⟨fun σ' γ' a' w' hk r' _ s'=>hlast σ' γ' a' w' hk r' s',fun i σ' γ' a' w' hk=>(by cases hk),fun σ' γ' a' w' hk r' _ s'=>hlast σ' γ' a' w' hk r' s'⟩
  have hcalls:=calls_of_wp (args:=all.toArray) hf hb (by simpa using this);exact hcalls
theorem go_fix {f:FuncId} {tp mv:Ty} {ps:List Ty} {sg:List Nat} {one:Bool} {rs:List Ty} {ρ:Ty} {G:(DL (tp::mv::ps)→Option (D (.st tp ρ)))→DL (tp::mv::ps)→Option (D (.st tp ρ))} (hpure:ps.all Ty.pure=true) (htop:topTy tp=true) (hwf:one=false→ρ=stOf rs)
    (h:∀φ,GocOK P f ⟨tp,mv,ps,sg,one,rs,ρ,φ⟩→GocOK P f ⟨tp,mv,ps,sg,one,rs,ρ,G φ⟩):GocOK P f ⟨tp,mv,ps,sg,one,rs,ρ,fixW G⟩:=by
  have key:∀n,GocOK P f ⟨tp,mv,ps,sg,one,rs,ρ,fixN G n⟩:=by
    intro n
    induction n with
    | zero=>exact⟨hpure,htop,hwf,fun w S Mt Mm va vb args all x r _ _ _ _ _ _ _ hr=>by simp[fixN] at hr⟩
    | succ n ih=>exact h _ ih
  exact⟨hpure,htop,hwf,fun w S Mt Mm va vb args all x r h1 h2 h3 h4 h5 h6 h7 hr=>by
    obtain⟨n,hn⟩:=qgw hr
    exact(key n).calls w S Mt Mm va vb args all x r h1 h2 h3 h4 h5 h6 h7 hn⟩
end
end Go.Den
namespace Go.Den
instance ctx0:Ctx:=⟨[],[],false,[]⟩
end Go.Den
namespace Go.Proofs.Ytcifaoaepbidoaa
open Go.Den
set_option linter.unusedVariables false
set_option maxRecDepth 100000
abbrev Mv:=Int×Int×Int×Unit
noncomputable def qaz (s:List Int):Option Zv21 :=
  bif (s.isEmpty) then(agree (some ([]:List Int)) (req (room (([]:List Int).length+s.length) 8) (some (([]:List Int)++s))))
  else req (room (([]:List Int).length+s.length) 8) (some (([]:List Int)++s))
noncomputable section
def qbT (d2:Int×Zv21×Int×Bool×Unit) (j:Int) (x3:Zv18×(Unit)):Option (Zv13 ⊕ Zv16) :=
  bif (decide (x3.1.2.1<((d2.2.1.length:Nat):Int))) then(Option.bind (at? d2.2.1 x3.1.2.1) fun d4 =>
  Option.bind (bif (d4==j) then some (((w64 (x3.1.1+1)),()),())
  else some ((x3.1.1,()),())) fun x5 =>
  some (Sum.inl ((x5.1.1,(w64 (x3.1.2.1+1)),()),())))
  else some (Sum.inr ((x3.1.1,()),()))
def qa1 (l:List Zv8) (i:Int) (j:Int):Option (Int) :=
  Option.bind (at? l i) fun d2 =>
  Option.bind (iterW (qbT d2 j) (((0:Int),(0:Int),()),())) fun x6 =>
  some x6.1.1
def qay (d2:Int×Zv21×Int×Bool×Unit) (l:List Zv8) (x1:Zv20×(Unit)) (x3:Zv20×(Unit)):Option (Zv16 ⊕ (Zv19 ⊕ (Zv16 ⊕ (Zv19 ⊕ Int)))) :=
  bif (decide (x3.1.1<((d2.2.1.length:Nat):Int))) then(Option.bind (at? d2.2.1 x3.1.1) fun d4 =>
  bif (((decide (d4<0))||(decide (d4≥((l.length:Nat):Int))))||(d4==x1.1.1)) then(Option.map Sum.inr (Option.map Sum.inr (bif (decide (x3.1.1≥0)) then some (Sum.inr (Sum.inr (3:Int)))
  else some (Sum.inl (((w64 (x1.1.1+1)),()),())))))
  else some (Sum.inl (((w64 (x3.1.1+1)),()),())))
  else some (Sum.inr (Sum.inl ((),())))
def qax (l:List Zv8) (x1:Zv20×(Unit)):Option (Zv16 ⊕ (Zv19 ⊕ Int)) :=
  bif (decide (x1.1.1<((l.length:Nat):Int))) then(Option.bind (at? l x1.1.1) fun d2 =>
  bif ((((decide (d2.1<0))||(decide (d2.1>40)))||(decide (d2.2.2.1<(-20:Int))))||(decide (d2.2.2.1>20))) then some (Sum.inr (Sum.inr (4:Int)))
  else bif (decide (((d2.2.1.length:Nat):Int)>20)) then some (Sum.inr (Sum.inr (2:Int)))
  else Option.bind (α:=Zv19 ⊕ (Zv16 ⊕ (Zv19 ⊕ Int))) (iterW (qay d2 l x1) (((0:Int),()),())) (Sum.elim (fun x5 =>
  some (Sum.inl (((w64 (x1.1.1+1)),()),()))) some))
  else some (Sum.inr (Sum.inl ((),())))
def qav (x7:Zv20×(Unit)) (l:List Zv8) (x8:Zv20×(Unit)):Option (Zv16 ⊕ (Zv19 ⊕ (Zv19 ⊕ (Zv16 ⊕ (Zv19 ⊕ Int))))) :=
  bif (decide (x8.1.1<x7.1.1)) then(Option.bind (qa1 l x7.1.1 x8.1.1) fun r9 =>
  Option.bind (qa1 l x8.1.1 x7.1.1) fun r10 =>
  bif (r9 !=r10) then some (Sum.inr (Sum.inr (Sum.inr (Sum.inr (Sum.inr (3:Int))))))
  else Option.bind (qa1 l x7.1.1 x8.1.1) fun r11 =>
  bif (decide (r11>1)) then some (Sum.inr (Sum.inr (Sum.inr (Sum.inr (Sum.inr (7:Int))))))
  else some (Sum.inl (((w64 (x8.1.1+1)),()),())))
  else some (Sum.inr (Sum.inl ((),())))
def qau (l:List Zv8) (x7:Zv20×(Unit)):Option (Zv16 ⊕ (Zv19 ⊕ Int)) :=
  bif (decide (x7.1.1<((l.length:Nat):Int))) then(Option.bind (α:=Zv19 ⊕ (Zv16 ⊕ (Zv19 ⊕ Int))) (Option.bind (α:=Zv19 ⊕ (Zv19 ⊕ (Zv16 ⊕ (Zv19 ⊕ Int)))) (iterW (qav x7 l) (((0:Int),()),())) (Sum.elim (fun x12 =>
  some (Sum.inl ((),()))) some)) (Sum.elim (fun x13 =>
  some (Sum.inl (((w64 (x7.1.1+1)),()),()))) some))
  else some (Sum.inr (Sum.inl ((),())))
def qa7 (l:List Zv8):Option (Int) :=
  bif ((decide (((l.length:Nat):Int)<2))||(decide (((l.length:Nat):Int)>8))) then some (2:Int)
  else Option.bind (α:=Zv19 ⊕ Int) (iterW (qax l) (((0:Int),()),())) (Sum.elim (fun x6 =>
  Option.bind (α:=Zv19 ⊕ Int) (iterW (qau l) (((0:Int),()),())) (Sum.elim (fun x14 =>
  some (0:Int)) some)) some)
def qbh (x:Int) (y:Int):Option Zv18 :=
  some ((wu64 ((wu64 ((wu64 ((shK .shr .u64 x (32:Int))*(shK .shr .u64 y (32:Int))))+(shK .shr .u64 (wu64 ((wu64 ((shK .shr .u64 x (32:Int))*(iand .u64 y (4294967295:Int))))+(shK .shr .u64 (wu64 ((iand .u64 x (4294967295:Int))*(iand .u64 y (4294967295:Int)))) (32:Int)))) (32:Int))))+(shK .shr .u64 (wu64 ((iand .u64 (wu64 ((wu64 ((shK .shr .u64 x (32:Int))*(iand .u64 y (4294967295:Int))))+(shK .shr .u64 (wu64 ((iand .u64 x (4294967295:Int))*(iand .u64 y (4294967295:Int)))) (32:Int)))) (4294967295:Int))+(wu64 ((iand .u64 x (4294967295:Int))*(shK .shr .u64 y (32:Int)))))) (32:Int)))),((wu64 (x*y)),()))
def qaB (x:Int) (y:Int):Int×Int×Unit :=
  ((wu64 ((wu64 ((wu64 ((shK .shr .u64 x (32:Int))*(shK .shr .u64 y (32:Int))))+(shK .shr .u64 (wu64 ((wu64 ((shK .shr .u64 x (32:Int))*(iand .u64 y (4294967295:Int))))+(shK .shr .u64 (wu64 ((iand .u64 x (4294967295:Int))*(iand .u64 y (4294967295:Int)))) (32:Int)))) (32:Int))))+(shK .shr .u64 (wu64 ((iand .u64 (wu64 ((wu64 ((shK .shr .u64 x (32:Int))*(iand .u64 y (4294967295:Int))))+(shK .shr .u64 (wu64 ((iand .u64 x (4294967295:Int))*(iand .u64 y (4294967295:Int)))) (32:Int)))) (4294967295:Int))+(wu64 ((iand .u64 x (4294967295:Int))*(shK .shr .u64 y (32:Int)))))) (32:Int)))),((wu64 (x*y)),()))
theorem qee (x:Int) (y:Int):qbh x y=some (qaB x y):=by
  unfold qbh qaB
  first | rfl | simp only[qeF]
def qb0 (x:Int) (y:Int):Option Zv18 :=
  some (qaB x y)
def qh (x:Int) (y:Int):Int×Int×Unit :=
  (qaB x y)
theorem qfb (x:Int) (y:Int):qb0 x y=some (qh x y):=by
  unfold qb0 qh
  first | rfl | simp only[qeF]
def qS (x1:Zv20×Zv17):Option (Zv9 ⊕ Zv12) :=
  bif (decide (x1.1.1<((x1.2.1.length:Nat):Int))) then(Option.bind (agree (req (qG x1.1.1 ((x1.2.1.length:Nat):Int) x1.2.1.length) (req (qG (0:Int) x1.1.1 x1.2.1.length) (req (Nat.blt 0 ((x1.2.1.drop 0).take ((x1.1.1).toNat-0)).length&&Nat.blt 0 ((((x1.2.1.length:Nat):Int)).toNat-(x1.1.1).toNat)) (some (((w64 (x1.1.1+(((min ((x1.2.1.drop 0).take ((x1.1.1).toNat-0)).length ((((x1.2.1.length:Nat):Int)).toNat-(x1.1.1).toNat)):Nat):Int))),()),((x1.2.1.take ((x1.1.1).toNat)++(((x1.2.1.drop 0).take ((x1.1.1).toNat-0)).take ((((x1.2.1.length:Nat):Int)).toNat-(x1.1.1).toNat)++x1.2.1.drop ((x1.1.1).toNat+(min ((x1.2.1.drop 0).take ((x1.1.1).toNat-0)).length ((((x1.2.1.length:Nat):Int)).toNat-(x1.1.1).toNat))))),())))))) (req (qG (0:Int) x1.1.1 x1.2.1.length) (req (qG x1.1.1 ((x1.2.1.length:Nat):Int) x1.2.1.length) (req (Nat.blt 0 ((x1.2.1.drop 0).take ((x1.1.1).toNat-0)).length&&Nat.blt 0 ((((x1.2.1.length:Nat):Int)).toNat-(x1.1.1).toNat)) (some (((w64 (x1.1.1+(((min ((x1.2.1.drop 0).take ((x1.1.1).toNat-0)).length ((((x1.2.1.length:Nat):Int)).toNat-(x1.1.1).toNat)):Nat):Int))),()),((x1.2.1.take ((x1.1.1).toNat)++(((x1.2.1.drop 0).take ((x1.1.1).toNat-0)).take ((((x1.2.1.length:Nat):Int)).toNat-(x1.1.1).toNat)++x1.2.1.drop ((x1.1.1).toNat+(min ((x1.2.1.drop 0).take ((x1.1.1).toNat-0)).length ((((x1.2.1.length:Nat):Int)).toNat-(x1.1.1).toNat))))),()))))))) fun x2 =>
  some (Sum.inl ((x2.1.1,()),(x2.2.1,()))))
  else some (Sum.inr ((),(x1.2.1,())))
def qap (x:List Int) (count:Int):Option Zv21 :=
  bif (decide (count<0)) then none
  else bif ((decide ((qh (wu64 ((x.length:Nat):Int)) (wu64 count)).1>0))||(decide (((qh (wu64 ((x.length:Nat):Int)) (wu64 count)).2).1>9223372036854775807))) then none
  else req (decide (0≤(w64 ((qh (wu64 ((x.length:Nat):Int)) (wu64 count)).2).1))&&((w64 ((qh (wu64 ((x.length:Nat):Int)) (wu64 count)).2).1)==(w64 ((qh (wu64 ((x.length:Nat):Int)) (wu64 count)).2).1)&&room ((w64 ((qh (wu64 ((x.length:Nat):Int)) (wu64 count)).2).1)).toNat 8)) (req (Nat.blt 0 x.length&&Nat.blt 0 ((List.replicate ((w64 ((qh (wu64 ((x.length:Nat):Int)) (wu64 count)).2).1)).toNat (0:Int)).length)) (Option.bind (iterW (qS) (((((min x.length (List.replicate ((w64 ((qh (wu64 ((x.length:Nat):Int)) (wu64 count)).2).1)).toNat (0:Int)).length):Nat):Int),()),(((List.replicate ((w64 ((qh (wu64 ((x.length:Nat):Int)) (wu64 count)).2).1)).toNat (0:Int)).take 0++(x.take ((List.replicate ((w64 ((qh (wu64 ((x.length:Nat):Int)) (wu64 count)).2).1)).toNat (0:Int)).length)++(List.replicate ((w64 ((qh (wu64 ((x.length:Nat):Int)) (wu64 count)).2).1)).toNat (0:Int)).drop (0+(min x.length (List.replicate ((w64 ((qh (wu64 ((x.length:Nat):Int)) (wu64 count)).2).1)).toNat (0:Int)).length)))),()))) fun x3 =>
  some x3.2.1))
def qB (s:List Int) (v:Int) (x1:Zv20×(Unit)):Option (Zv16 ⊕ (Zv19 ⊕ Int)) :=
  bif (decide (x1.1.1<((s.length:Nat):Int))) then(Option.bind (at? s x1.1.1) fun d2 =>
  bif (v==d2) then some (Sum.inr (Sum.inr x1.1.1))
  else some (Sum.inl (((w64 (x1.1.1+1)),()),())))
  else some (Sum.inr (Sum.inl ((),())))
def qaA (s:List Int) (v:Int):Option (Int) :=
  Option.bind (α:=Zv19 ⊕ Int) (iterW (qB s v) (((0:Int),()),())) (Sum.elim (fun x3 =>
  some (-1:Int)) some)
def qbd (l:List Zv8) (i:Int) (j:Int):Option (Int) :=
  Option.bind (at? l i) fun d5 =>
  Option.bind (at? l j) fun d6 =>
  Option.bind (at? l i) fun d7 =>
  Option.bind (at? l j) fun d8 =>
  some (w64 ((w64 ((w64 ((100:Int)*(w64 (d5.1-d6.1))))*(w64 (d5.1-d6.1))))+(w64 ((w64 (d7.2.2.1+d8.2.2.1))*(w64 (d7.2.2.1+d8.2.2.1))))))
def qe (r3:Int) (self:((Zv6×Zv21×(Option Zv21)×Int×Unit)×Bool×Int×Unit)→Option ((Zv6×Zv21×(Option Zv21)×Int×Unit)×Unit)) (bye:Bool) (sum:Int) (x6:Zv20×((Zv6×Zv21×(Option Zv21)×Int×Unit)×Unit)):Option ((Zv20×((Zv6×Zv21×(Option Zv21)×Int×Unit)×Unit)) ⊕ ((Unit)×((Zv6×Zv21×(Option Zv21)×Int×Unit)×Unit))) :=
  bif (decide (x6.1.1<((x6.2.1.1.length:Nat):Int))) then(req (inb x6.1.1 x6.2.1.2.1.length) (Option.bind (gopt (decide ((getD' x6.2.1.2.1 ((x6.1.1).toNat) (0:Int))<0)) (0:Int) (qa1 x6.2.1.1 r3 x6.1.1)) fun r7 =>
  Option.bind (bif ((decide ((getD' x6.2.1.2.1 ((x6.1.1).toNat) (0:Int))<0))&&(r7==0)) then(req (inb r3 x6.2.1.2.1.length) (req (inb x6.1.1 (x6.2.1.2.1.set ((r3).toNat) x6.1.1).length) (Option.bind (qbd x6.2.1.1 r3 x6.1.1) fun r8 =>
  Option.bind (self ((x6.2.1.1,(((x6.2.1.2.1.set ((r3).toNat) x6.1.1).set ((x6.1.1).toNat) r3),(x6.2.1.2.2.1,x6.2.1.2.2.2))),bye,(w64 (sum+r8)),())) fun r9 =>
  req (inb r3 r9.1.2.1.length) (req (inb x6.1.1 (r9.1.2.1.set ((r3).toNat) (-1:Int)).length) (some ((),((r9.1.1,(((r9.1.2.1.set ((r3).toNat) (-1:Int)).set ((x6.1.1).toNat) (-1:Int)),(r9.1.2.2.1,r9.1.2.2.2))),())))))))
  else some ((),((x6.2.1.1,(x6.2.1.2.1,(x6.2.1.2.2.1,x6.2.1.2.2.2))),()))) fun x10 =>
  some (Sum.inl (((w64 (x6.1.1+1)),()),((x10.2.1.1,(x10.2.1.2.1,(x10.2.1.2.2.1,x10.2.1.2.2.2))),())))))
  else some (Sum.inr ((),((x6.2.1.1,(x6.2.1.2.1,(x6.2.1.2.2.1,x6.2.1.2.2.2))),())))
def qP (self:((Zv6×Zv21×(Option Zv21)×Int×Unit)×Bool×Int×Unit)→Option ((Zv6×Zv21×(Option Zv21)×Int×Unit)×Unit)) (p:Zv6×Zv21×(Option Zv21)×Int×Unit) (bye:Bool) (sum:Int):Option ((Zv6×Zv21×(Option Zv21)×Int×Unit)×Unit) :=
  Option.bind (qaA p.2.1 (-1:Int)) fun r3 =>
  bif (decide (r3<0)) then(req (okO p.2.2.1) (Option.bind (bif ((qbE false p.2.2.1)||(decide (sum<p.2.2.2.1))) then(Option.bind (qaz p.2.1) fun r4 =>
  some ((),((p.1,(p.2.1,((some r4),(sum,())))),())))
  else some ((),((p.1,(p.2.1,(p.2.2.1,p.2.2.2))),()))) fun x5 =>
  some ((x5.2.1.1,(x5.2.1.2.1,(x5.2.1.2.2.1,x5.2.1.2.2.2))),())))
  else Option.bind (iterW (qe r3 self bye sum) (((w64 (r3+1)),()),((p.1,(p.2.1,(p.2.2.1,p.2.2.2))),()))) fun x11 =>
  Option.bind (gat bye ((0:Int),([],((0:Int),(false,())))) x11.2.1.1 r3) fun d12 =>
  Option.bind (bif (bye&&(!d12.2.2.2.1)) then(req (inb r3 x11.2.1.2.1.length) (Option.bind (at? x11.2.1.1 r3) fun d13 =>
  Option.bind (at? x11.2.1.1 r3) fun d14 =>
  Option.bind (self ((x11.2.1.1,((x11.2.1.2.1.set ((r3).toNat) ((x11.2.1.1.length:Nat):Int)),(x11.2.1.2.2.1,x11.2.1.2.2.2))),false,(w64 (sum+(w64 ((w64 ((100:Int)*d13.1))*d14.1)))),())) fun r15 =>
  req (inb r3 r15.1.2.1.length) (some ((),((r15.1.1,((r15.1.2.1.set ((r3).toNat) (-1:Int)),(r15.1.2.2.1,r15.1.2.2.2))),())))))
  else some ((),((x11.2.1.1,(x11.2.1.2.1,(x11.2.1.2.2.1,x11.2.1.2.2.2))),()))) fun x16 =>
  some ((x16.2.1.1,(x16.2.1.2.1,(x16.2.1.2.2.1,x16.2.1.2.2.2))),())
def qk (self:((Zv6×Zv21×(Option Zv21)×Int×Unit)×Bool×Int×Unit)→Option ((Zv6×Zv21×(Option Zv21)×Int×Unit)×Unit)) (x:(Zv6×Zv21×(Option Zv21)×Int×Unit)×Bool×Int×Unit):Option ((Zv6×Zv21×(Option Zv21)×Int×Unit)×Unit):=qP self x.1 x.2.1 x.2.2.1
def qaG (p:Zv6×Zv21×(Option Zv21)×Int×Unit) (bye:Bool) (sum:Int):Option ((Zv6×Zv21×(Option Zv21)×Int×Unit)×Unit):=fixW qk (p,bye,sum,())
def qgC (x9:Zv5×(Unit)):Option (Zv2 ⊕ ((Zv14×Int×Unit)×(Unit))) :=
  bif (decide (x9.1.2.2.1<0)) then none
  else some (Sum.inr ((x9.1.1,x9.1.2.1,()),()))
def qaO (v8:List Int) (l:List Zv8) (x11:Zv5×(Unit)):Option (Zv2 ⊕ ((Zv14×Int×Unit)×(Unit))) :=
  bif (decide (x11.1.2.2.1<((v8.length:Nat):Int))) then(req (inb x11.1.2.2.1 v8.length) (Option.bind (bif ((getD' v8 ((x11.1.2.2.1).toNat) (0:Int))==((l.length:Nat):Int)) then some ((x11.1.1,x11.1.2.2.1,()),())
  else Option.bind (gat (decide (x11.1.2.2.1<(getD' v8 ((x11.1.2.2.1).toNat) (0:Int)))) ((0:Int),([],((0:Int),(false,())))) l (getD' v8 ((x11.1.2.2.1).toNat) (0:Int))) fun d12 =>
  Option.bind (gat (decide (x11.1.2.2.1<(getD' v8 ((x11.1.2.2.1).toNat) (0:Int)))) ((0:Int),([],((0:Int),(false,())))) l x11.1.2.2.1) fun d13 =>
  Option.bind (bif ((decide (x11.1.2.2.1<(getD' v8 ((x11.1.2.2.1).toNat) (0:Int))))&&(decide (d12.2.2.1<d13.2.2.1))) then req (room (x11.1.1.length+([((getD' v8 ((x11.1.2.2.1).toNat) (0:Int)),(x11.1.2.2.1,()))]).length) 16) (some (((x11.1.1++[((getD' v8 ((x11.1.2.2.1).toNat) (0:Int)),(x11.1.2.2.1,()))]),()),()))
  else Option.bind (bif (decide (x11.1.2.2.1<(getD' v8 ((x11.1.2.2.1).toNat) (0:Int)))) then req (room (x11.1.1.length+([(x11.1.2.2.1,((getD' v8 ((x11.1.2.2.1).toNat) (0:Int)),()))]).length) 16) (some (((x11.1.1++[(x11.1.2.2.1,((getD' v8 ((x11.1.2.2.1).toNat) (0:Int)),()))]),()),()))
  else some ((x11.1.1,()),())) fun x14 =>
  some ((x14.1.1,()),())) fun x15 =>
  some ((x15.1.1,x11.1.2.1,()),())) fun x16 =>
  some (Sum.inl ((x16.1.1,x16.1.2.1,(w64 (x11.1.2.2.1+1)),()),()))))
  else some (Sum.inr ((x11.1.1,x11.1.2.1,()),()))
def qb7 (l:List Zv8):Option (Zv14×Int×Int×Int×Unit) :=
  Option.bind (qa7 l) fun r5 =>
  bif (r5 !=0) then some (([]:List Zv18),((0:Int),((0:Int),(r5,()))))
  else Option.bind (qap ([(-1:Int)]) ((l.length:Nat):Int)) fun r6 =>
  Option.bind (qaG (l,(r6,((none:Option Zv21),((0:Int),())))) ((((l.length:Nat):Int).tmod 2)==1) (0:Int)) fun r7 =>
  req (okO r7.1.2.2.1) (bif (qbE false r7.1.2.2.1) then some (([]:List Zv18),((0:Int),((0:Int),((8:Int),()))))
  else Option.elim r7.1.2.2.1 (Option.bind (iterW (qgC) ((([]:List Zv18),(-1:Int),(0:Int),()),())) fun x10 =>
  some (x10.1.1,(r7.1.2.2.2.1,(x10.1.2.1,((0:Int),()))))) fun v8 =>
  Option.bind (iterW (qaO v8 l) ((([]:List Zv18),(-1:Int),(0:Int),()),())) fun x17 =>
  some (x17.1.1,(r7.1.2.2.2.1,(x17.1.2.1,((0:Int),())))))
def qbU:Option (Bool) :=
  Option.bind (qb7 (List.replicate 2 ((0:Int),(([]:List Int),((0:Int),(false,())))))) fun r2 =>
  some (((r2.2.2.2.1==0)&&(((r2.1.length:Nat):Int)==1))&&(r2.2.2.1==(-1:Int)))
def qE (d2:Int×Zv21×Int×Bool×Unit) (l:List Zv8) (x1:Zv20×Zv17) (x3:Zv20×Zv17):Option (Zv9 ⊕ (Zv12 ⊕ (Zv12 ⊕ (Zv9 ⊕ (Zv12 ⊕ Int))))) :=
  bif (decide (x3.1.1<((d2.2.1.length:Nat):Int))) then(Option.bind (at? d2.2.1 x3.1.1) fun d4 =>
  bif (((decide (d4<0))||(decide (d4≥((l.length:Nat):Int))))||(d4==x1.1.1)) then some (Sum.inr (Sum.inr (Sum.inr (Sum.inr (Sum.inr (3:Int))))))
  else req (inb (w64 ((w64 ((8:Int)*x1.1.1))+d4)) x3.2.1.length) (req (inb (w64 ((w64 ((8:Int)*x1.1.1))+d4)) x3.2.1.length) (some (Sum.inl (((w64 (x3.1.1+1)),()),((x3.2.1.set (((w64 ((w64 ((8:Int)*x1.1.1))+d4))).toNat) (w64 ((getD' x3.2.1 (((w64 ((w64 ((8:Int)*x1.1.1))+d4))).toNat) (0:Int))+1))),()))))))
  else some (Sum.inr (Sum.inl ((),(x3.2.1,()))))
def qM (l:List Zv8) (x1:Zv20×Zv17):Option (Zv9 ⊕ (Zv12 ⊕ Int)) :=
  bif (decide (x1.1.1<((l.length:Nat):Int))) then(Option.bind (α:=Zv12 ⊕ (Zv9 ⊕ (Zv12 ⊕ Int))) (Option.bind (at? l x1.1.1) fun d2 =>
  bif ((((decide (d2.1<0))||(decide (d2.1>40)))||(decide (d2.2.2.1<(-20:Int))))||(decide (d2.2.2.1>20))) then some (Sum.inr (Sum.inr (Sum.inr (4:Int))))
  else bif (decide (((d2.2.1.length:Nat):Int)>20)) then some (Sum.inr (Sum.inr (Sum.inr (2:Int))))
  else Option.bind (α:=Zv12 ⊕ (Zv12 ⊕ (Zv9 ⊕ (Zv12 ⊕ Int)))) (iterW (qE d2 l x1) (((0:Int),()),(x1.2.1,()))) (Sum.elim (fun x5 =>
  some (Sum.inl ((),(x5.2.1,())))) some)) (Sum.elim (fun x6 =>
  some (Sum.inl (((w64 (x1.1.1+1)),()),(x6.2.1,())))) some))
  else some (Sum.inr (Sum.inl ((),(x1.2.1,()))))
def qI (x8:Zv20×(Unit)) (x7:(Unit)×Zv17) (x9:Zv20×(Unit)):Option (Zv16 ⊕ (Zv19 ⊕ (Zv19 ⊕ (Zv16 ⊕ (Zv19 ⊕ Int))))) :=
  bif (decide (x9.1.1<x8.1.1)) then(req (inb (w64 ((w64 ((8:Int)*x8.1.1))+x9.1.1)) x7.2.1.length) (req (inb (w64 ((w64 ((8:Int)*x9.1.1))+x8.1.1)) x7.2.1.length) (bif ((getD' x7.2.1 (((w64 ((w64 ((8:Int)*x8.1.1))+x9.1.1))).toNat) (0:Int))!=(getD' x7.2.1 (((w64 ((w64 ((8:Int)*x9.1.1))+x8.1.1))).toNat) (0:Int))) then some (Sum.inr (Sum.inr (Sum.inr (Sum.inr (Sum.inr (3:Int))))))
  else req (inb (w64 ((w64 ((8:Int)*x8.1.1))+x9.1.1)) x7.2.1.length) (bif (decide ((getD' x7.2.1 (((w64 ((w64 ((8:Int)*x8.1.1))+x9.1.1))).toNat) (0:Int))>1)) then some (Sum.inr (Sum.inr (Sum.inr (Sum.inr (Sum.inr (7:Int))))))
  else some (Sum.inl (((w64 (x9.1.1+1)),()),()))))))
  else some (Sum.inr (Sum.inl ((),())))
def qK (l:List Zv8) (x7:(Unit)×Zv17) (x8:Zv20×(Unit)):Option (Zv16 ⊕ (Zv19 ⊕ Int)) :=
  bif (decide (x8.1.1<((l.length:Nat):Int))) then(Option.bind (α:=Zv19 ⊕ (Zv16 ⊕ (Zv19 ⊕ Int))) (Option.bind (α:=Zv19 ⊕ (Zv19 ⊕ (Zv16 ⊕ (Zv19 ⊕ Int)))) (iterW (qI x8 x7) (((0:Int),()),())) (Sum.elim (fun x10 =>
  some (Sum.inl ((),()))) some)) (Sum.elim (fun x11 =>
  some (Sum.inl (((w64 (x8.1.1+1)),()),()))) some))
  else some (Sum.inr (Sum.inl ((),())))
def qaI (l:List Zv8):Option (Int) :=
  bif ((decide (((l.length:Nat):Int)<2))||(decide (((l.length:Nat):Int)>8))) then some (2:Int)
  else Option.bind (α:=Zv12 ⊕ Int) (iterW (qM l) (((0:Int),()),((List.replicate 64 (0:Int)),()))) (Sum.elim (fun x7 =>
  Option.bind (α:=Zv19 ⊕ Int) (iterW (qK l x7) (((0:Int),()),())) (Sum.elim (fun x12 =>
  some (0:Int)) some)) some)
def qdS (l:List Zv8) (i:Int) (j:Int):Option (Bool) :=
  some (((((decide (i≥0))&&(decide (i<((l.length:Nat):Int))))&&(decide (j≥0)))&&(decide (j<((l.length:Nat):Int))))&&(i !=j))
def qa3 (l:List Zv8) (i:Int) (j:Int):Bool :=
  (((((decide (i≥0))&&(decide (i<((l.length:Nat):Int))))&&(decide (j≥0)))&&(decide (j<((l.length:Nat):Int))))&&(i !=j))
theorem qhc (l:List Zv8) (i:Int) (j:Int):qdS l i j=some (qa3 l i j):=by
  unfold qdS qa3
  first | rfl | simp only[qeF]
def qc1 (l:List Zv8) (i:Int) (j:Int):Option Zv18 :=
  Option.bind (qa7 l) fun r3 =>
  bif (r3 !=0) then some ((0:Int),(r3,()))
  else bif (!(qa3 l i j)) then some ((0:Int),((1:Int),()))
  else Option.bind (qbd l i j) fun r4 =>
  some (r4,((0:Int),()))
def qad (l:List Zv8) (with':List Int) (x2:Zv20×(Unit)):Option (Zv16 ⊕ Zv16) :=
  req (imp (decide (x2.1.1<((l.length:Nat):Int))) (inb x2.1.1 with'.length)) (bif ((decide (x2.1.1<((l.length:Nat):Int)))&&((getD' with' ((x2.1.1).toNat) (0:Int))!=(-2:Int))) then some (Sum.inl (((w64 (x2.1.1+1)),()),()))
  else some (Sum.inr ((x2.1.1,()),())))
def qab (d5:Int×Zv21×Int×Bool×Unit) (x4:Zv3×Zv17) (x6:(Bool×Int×Unit)×(Unit)):Option (((Bool×Int×Unit)×(Unit)) ⊕ ((Bool×Unit)×(Unit))) :=
  bif (decide (x6.1.2.1<((d5.2.1.length:Nat):Int))) then(Option.bind (at? d5.2.1 x6.1.2.1) fun d7 =>
  some (Sum.inl (((x6.1.1||(d7==x4.1.2.1)),(w64 (x6.1.2.1+1)),()),())))
  else some (Sum.inr ((x6.1.1,()),()))
def qo (l:List Zv8) (x3:Zv20×(Unit)) (self:Zv1→Option Zv4) (cost:Int) (off:Bool) (x4:Zv3×Zv17):Option ((Zv3×Zv17) ⊕ (Zv7×Zv17)) :=
  bif (decide (x4.1.2.1<((l.length:Nat):Int))) then(Option.bind (Option.bind (at? l x3.1.1) fun d5 =>
  Option.bind (iterW (qab d5 x4) ((false,(0:Int),()),())) fun x8 =>
  req (inb x4.1.2.1 x4.2.1.length) (bif (((getD' x4.2.1 ((x4.1.2.1).toNat) (0:Int))!=(-2:Int))||x8.1.1) then some ((x4.1.1,()),(x4.2.1,()))
  else Option.bind (at? l x3.1.1) fun d9 =>
  Option.bind (at? l x4.1.2.1) fun d10 =>
  Option.bind (at? l x3.1.1) fun d11 =>
  Option.bind (at? l x4.1.2.1) fun d12 =>
  req (inb x3.1.1 x4.2.1.length) (req (inb x4.1.2.1 (x4.2.1.set ((x3.1.1).toNat) x4.1.2.1).length) (Option.bind (self (((x4.2.1.set ((x3.1.1).toNat) x4.1.2.1).set ((x4.1.2.1).toNat) x3.1.1),(x4.1.1,()),l,(w64 ((w64 (cost+(w64 ((w64 ((100:Int)*(w64 (d9.1-d10.1))))*(w64 (d9.1-d10.1))))))+(w64 ((w64 (d11.2.2.1+d12.2.2.1))*(w64 (d11.2.2.1+d12.2.2.1)))))),off,())) fun r13 =>
  req (inb x3.1.1 r13.1.length) (req (inb x4.1.2.1 (r13.1.set ((x3.1.1).toNat) (-2:Int)).length) (some ((r13.2,()),(((r13.1.set ((x3.1.1).toNat) (-2:Int)).set ((x4.1.2.1).toNat) (-2:Int)),())))))))) fun x14 =>
  some (Sum.inl ((x14.1.1,(w64 (x4.1.2.1+1)),()),(x14.2.1,()))))
  else some (Sum.inr ((x4.1.1,()),(x4.2.1,())))
def qaL (self:Zv1→Option Zv4) (with':List Int) (out:List Zv15) (l:List Zv8) (cost:Int) (off:Bool):Option Zv4 :=
  Option.bind (iterW (qad l with') (((0:Int),()),())) fun x3 =>
  bif (x3.1.1==((l.length:Nat):Int)) then req (room (([]:List Int).length+with'.length) 8) (req (room (out.length+([((([]:List Int)++with'),(cost,()))]).length) 32) (some (with',(out++[((([]:List Int)++with'),(cost,()))]))))
  else Option.bind (iterW (qo l x3 self cost off) ((out,(w64 (x3.1.1+1)),()),(with',()))) fun x15 =>
  Option.bind (gat (((((l.length:Nat):Int).tmod 2)==1)&&(!off)) ((0:Int),([],((0:Int),(false,())))) l x3.1.1) fun d16 =>
  Option.bind (bif ((((((l.length:Nat):Int).tmod 2)==1)&&(!off))&&(!d16.2.2.2.1)) then(req (inb x3.1.1 x15.2.1.length) (Option.bind (at? l x3.1.1) fun d17 =>
  Option.bind (at? l x3.1.1) fun d18 =>
  Option.bind (self ((x15.2.1.set ((x3.1.1).toNat) (-1:Int)),(x15.1.1,()),l,(w64 (cost+(w64 ((w64 ((100:Int)*d17.1))*d18.1)))),true,())) fun r19 =>
  req (inb x3.1.1 r19.1.length) (some ((r19.2,()),((r19.1.set ((x3.1.1).toNat) (-2:Int)),())))))
  else some ((x15.1.1,()),(x15.2.1,()))) fun x20 =>
  some (x20.2.1,x20.1.1)
def qC (self:Zv1→Option Zv4) (x:Zv21×Zv7×Zv6×Int×Bool×Unit):Option Zv4:=qaL self x.1 x.2.1.1 x.2.2.1 x.2.2.2.1 x.2.2.2.2.1
def qcp (with':List Int) (out:List Zv15) (l:List Zv8) (cost:Int) (off:Bool):Option Zv4:=fixW qC (with',(out,()),l,cost,off,())
def qF (l:List Zv8) (x2:Zv20×Zv17):Option (Zv9 ⊕ Zv12) :=
  bif (decide (x2.1.1<(((List.replicate (((l.length:Nat):Int)).toNat (0:Int)).length:Nat):Int))) then req (inb x2.1.1 x2.2.1.length) (some (Sum.inl (((w64 (x2.1.1+1)),()),((x2.2.1.set ((x2.1.1).toNat) (-2:Int)),()))))
  else some (Sum.inr ((),(x2.2.1,())))
def qaM (l:List Zv8):Option Zv11 :=
  req (decide (0≤((l.length:Nat):Int))&&(((l.length:Nat):Int)==((l.length:Nat):Int)&&room (((l.length:Nat):Int)).toNat 8)) (Option.bind (iterW (qF l) (((0:Int),()),((List.replicate (((l.length:Nat):Int)).toNat (0:Int)),()))) fun x3 =>
  Option.bind (qcp x3.2.1 ([]:List Zv15) l (0:Int) false) fun r4 =>
  some r4.2)
def qN (r17:List Zv15) (x18:Zv20×Zv10):Option ((Zv20×Zv10) ⊕ ((Unit)×Zv10)) :=
  bif (decide (x18.1.1<((r17.length:Nat):Int))) then(req (inb x18.1.1 r17.length) (Option.bind (bif (decide (((getD' r17 ((x18.1.1).toNat) ([],((0:Int),()))).2).1<x18.2.1.2.1)) then some ((),((getD' r17 ((x18.1.1).toNat) ([],((0:Int),()))),()))
  else some ((),(x18.2.1,()))) fun x19 =>
  some (Sum.inl (((w64 (x18.1.1+1)),()),(x19.2.1,())))))
  else some (Sum.inr ((),(x18.2.1,())))
def qH (x20:(Unit)×Zv10) (l:List Zv8) (r9:Zv14×Int×Int×Int×Unit) (x21:(Int×Int×Int×Unit)×(Unit)):Option (((Int×Int×Int×Unit)×(Unit)) ⊕ (Zv13 ⊕ Bool)) :=
  bif (decide (x21.1.2.2.1<((x20.2.1.1.length:Nat):Int))) then(Option.bind (α:=Zv13 ⊕ (((Int×Int×Int×Unit)×(Unit)) ⊕ (Zv13 ⊕ Bool))) (Option.bind (at? x20.2.1.1 x21.1.2.2.1) fun d22 =>
  Option.bind (bif (d22==(-1:Int)) then some ((x21.1.2.2.1,()),())
  else some ((x21.1.2.1,()),())) fun x23 =>
  bif (decide (d22<x21.1.2.2.1)) then some (Sum.inl ((x21.1.1,x23.1.1,()),()))
  else Option.bind (at? l d22) fun d24 =>
  Option.bind (at? l x21.1.2.2.1) fun d25 =>
  Option.bind (bif (decide (d24.2.2.1<d25.2.2.1)) then some ((),((d22,(x21.1.2.2.1,())),()))
  else some ((),((x21.1.2.2.1,(d22,())),()))) fun x26 =>
  Option.bind (gat (!(decide (x21.1.1≥((r9.1.length:Nat):Int)))) ((0:Int),((0:Int),())) r9.1 x21.1.1) fun d27 =>
  bif ((decide (x21.1.1≥((r9.1.length:Nat):Int)))||(!((d27.1==x26.2.1.1)&&((d27.2.1==x26.2.1.2.1)&&true)))) then some (Sum.inr (Sum.inr (Sum.inr false)))
  else some (Sum.inl (((w64 (x21.1.1+1)),x23.1.1,()),()))) (Sum.elim (fun x28 =>
  some (Sum.inl ((x28.1.1,x28.1.2.1,(w64 (x21.1.2.2.1+1)),()),()))) some))
  else some (Sum.inr (Sum.inl ((x21.1.1,x21.1.2.1,()),())))
def qbB (l:List Zv8) (i:Int) (j:Int):Option (Bool) :=
  Option.bind (qbU) fun r7 =>
  bif (!r7) then some false
  else Option.bind (qaI l) fun r8 =>
  Option.bind (qb7 l) fun r9 =>
  Option.bind (qc1 l i j) fun r10 =>
  Option.bind (qa7 l) fun r11 =>
  bif (r11 !=r8) then some false
  else bif (r8 !=0) then some (((r9.2.2.2.1==r8)&&(r10.2.1==r8))&&((w64 ((w64 ((w64 (((r9.1.length:Nat):Int)+r9.2.1))+r9.2.2.1))+r10.1))==0))
  else Option.bind (α:=Zv19 ⊕ Bool) (bif (((decide ((if j<i then j else i)<0))||(decide ((if j>i then j else i)≥((l.length:Nat):Int))))||(i==j)) then(bif ((r10.2.1 !=1)||(r10.1 !=0)) then some (Sum.inr false)
  else some (Sum.inl ((),())))
  else Option.bind (at? l i) fun d12 =>
  Option.bind (at? l j) fun d13 =>
  Option.bind (at? l i) fun d14 =>
  Option.bind (at? l j) fun d15 =>
  bif ((r10.2.1 !=0)||(r10.1 !=(w64 ((w64 ((w64 ((100:Int)*(w64 (d12.1-d13.1))))*(w64 (d12.1-d13.1))))+(w64 ((w64 (d14.2.2.1+d15.2.2.1))*(w64 (d14.2.2.1+d15.2.2.1)))))))) then some (Sum.inr false)
  else some (Sum.inl ((),()))) (Sum.elim (fun x16 =>
  Option.bind (qaM l) fun r17 =>
  bif (((r17.length:Nat):Int)==0) then some ((r9.2.2.2.1==8)&&((w64 ((w64 (((r9.1.length:Nat):Int)+r9.2.1))+r9.2.2.1))==0))
  else req (inb (0:Int) r17.length) (Option.bind (iterW (qN r17) (((0:Int),()),((getD' r17 0 ([],((0:Int),()))),()))) fun x20 =>
  Option.bind (α:=Zv13 ⊕ Bool) (iterW (qH x20 l r9) (((0:Int),(-1:Int),(0:Int),()),())) (Sum.elim (fun x29 =>
  some ((((r9.2.2.2.1==0)&&(r9.2.1==x20.2.1.2.1))&&(r9.2.2.1==x29.1.2.1))&&(x29.1.1==((r9.1.length:Nat):Int)))) some))) some)
end
end Go.Proofs.Ytcifaoaepbidoaa
namespace Go.Den
set_option linter.unusedVariables false
set_option linter.unusedSimpArgs false

theorem qdO {T α:Type} {f:T→Option (T ⊕ α)}:∀ {n m:Nat} {x:T} {r:α},iterN f n x=some r→n≤m→iterN f m x=some r
  | 0,_,_,_,h,_=>by simp[iterN] at h
  | n+1,0,_,_,_,h=>by omega
  | n+1,m+1,x,r,h,hm=>by
    simp only[iterN] at h ⊢
    match hf:f x with
    | none=>simp[hf] at h
    | some (.inr q)=>simp only[hf] at h ⊢;exact h
    | some (.inl y)=>simp only[hf] at h ⊢;exact qdO h (by omega)
theorem qeh {T α:Type} {f:T→Option (T ⊕ α)} {n:Nat} {x:T} {r:α} (h:iterN f n x=some r):iterW f x=some r:=by
  have hx:∃n,(iterN f n x).isSome=true:=⟨n,by rw[h];rfl⟩;unfold iterW;rw[dif_pos hx];obtain⟨q,hq⟩:=Option.isSome_iff_exists.1 (Classical.choose_spec hx);rw[hq];rcases Nat.le_total n (Classical.choose hx) with hl | hl
  · rw[←hq,qdO h hl]
  · rw[←h,qdO hq hl]
theorem qeT {T α:Type} {f:T→Option (T ⊕ α)} {x:T} {r:α} (h:iterW f x=some r):∃n,iterN f n x=some r:=by
  unfold iterW at h;split at h
  · exact⟨_,h⟩
  · cases h
theorem qcn {T α:Type} {f:T→Option (T ⊕ α)} {x y:T} (h:f x=some (.inl y)):iterW f x=iterW f y:=by
  cases hy:iterW f y with
  | some r =>
    obtain⟨n,hn⟩:=qeT hy;exact qeh (n:=n+1) (by simp[iterN,h,hn])
  | none =>
    cases hx:iterW f x with
    | none=>rfl
    | some r =>
      obtain⟨n,hn⟩:=qeT hx
      cases n with
      | zero=>simp[iterN] at hn
      | succ n =>
        simp only[iterN,h] at hn;rw[qeh hn] at hy;cases hy
theorem qbk {T α:Type} {f:T→Option (T ⊕ α)} {x:T} {r:α} (h:f x=some (.inr r)):iterW f x=some r:=qeh (n:=1) (by simp[iterN,h])
theorem iterW_meas {T α:Type} {f:T→Option (T ⊕ α)} (I:T→Prop) (μ:T→Nat) (Q:α→Prop)
    (h:∀x,I x→(∃y,f x=some (.inl y)∧I y∧μ y<μ x)∨(∃r,f x=some (.inr r)∧Q r)):∀x,I x→∃r,iterW f x=some r∧Q r:=by
  have key:∀(n:Nat) x,μ x<n→I x→∃r,iterW f x=some r∧Q r:=by
    intro n
    induction n with
    | zero=>intro x hx;omega
    | succ n ih =>
      intro x hx hi;rcases h x hi with ⟨y,h1,h2,h3⟩ | ⟨r,h1,h2⟩
      · rw[qcn h1];exact ih y (by omega) h2
      · exact⟨r,qbk h1,h2⟩
  exact fun x hi=>key _ x (Nat.lt_succ_self _) hi
theorem iterW_fun {T α:Type} {f:T→Option (T ⊕ α)} (I:T→Prop) (μ:T→Nat) (g:T→α)
    (h:∀x,I x→(∃y,f x=some (.inl y)∧I y∧μ y<μ x∧g y=g x)∨f x=some (.inr (g x))):∀x,I x→iterW f x=some (g x):=by
  have key:∀(n:Nat) x,μ x<n→I x→iterW f x=some (g x):=by
    intro n
    induction n with
    | zero=>intro x hx;omega
    | succ n ih =>
      intro x hx hi;rcases h x hi with ⟨y,h1,h2,h3,h4⟩ | h1
      · rw[qcn h1,ih y (by omega) h2,h4]
      · exact qbk h1
  exact fun x hi=>key _ x (Nat.lt_succ_self _) hi
theorem qx {T α:Type} {f:T→Option (T ⊕ α)} (n:Nat) (st:Nat→T) (r:α) (hs:∀i,i<n→f (st i)=some (.inl (st (i+1)))) (he:f (st n)=some (.inr r)):iterW f (st 0)=some r:=by
  have key:∀k,k≤n→iterW f (st (n-k))=some r:=by
    intro k
    induction k with
    | zero=>intro _;exact qbk he
    | succ k ih =>
      intro hk;have:=hs (n-(k+1)) (by omega);rw[show n-(k+1)+1=n-k by omega] at this;rw[qcn this];exact ih (by omega)
  have:=key n (Nat.le_refl _)
  rwa [Nat.sub_self] at this
theorem iterW_any {α β:Type} (xs:List α) (p:α→Bool) (f:((Int×Unit)×Unit)→Option (((Int×Unit)×Unit) ⊕ β)) (A B:β)
    (h1:∀i (hi:i<xs.length),f (((i:Int),()),())=bif p xs[i] then some (.inr A) else some (.inl ((((i+1:Nat):Int),()),()))) (h2:f (((xs.length:Int),()),())=some (.inr B)) :
    iterW f ((0,()),())=some (bif xs.any p then A else B):=by
  have key:∀k i,i+k=xs.length→iterW f (((i:Int),()),())=some (bif (xs.drop i).any p then A else B):=by
    intro k
    induction k with
    | zero =>
      intro i hi
      have:i=xs.length:=by omega
      subst this;rw[qbk h2];simp
    | succ k ih =>
      intro i hi
      have hl:i<xs.length:=by omega
      have hs:=h1 i hl;rw[List.drop_eq_getElem_cons hl]
      cases hp:p xs[i] with
      | true =>
        rw[hp] at hs;rw[qbk hs];simp only[List.any_cons,hp,Bool.true_or,cond_true]
      | false =>
        rw[hp] at hs;rw[qcn hs,ih (i+1) (by omega)];simp only[List.any_cons,hp,Bool.false_or]
  have:=key xs.length 0 (by omega);simpa using this
theorem qi {n:Int} (h1 : -9223372036854775808≤n) (h2:n≤9223372036854775807):w64 n=n:=by
  simp[w64,IntKind.wrap,IntKind.signed,IntKind.bits];omega
theorem qc3 {n b:Nat} (h:n*b≤140737488355328):room n b=true:=Nat.ble_eq_true_of_le h
theorem beq_f {α:Type} [BEq α] [LawfulBEq α] {a b:α} (h:¬a=b):(a==b)=false:=by simpa using h
theorem bne_t {α:Type} [BEq α] [LawfulBEq α] {a b:α} (h:¬a=b):(a !=b)=true:=by simpa using h
theorem qj {α:Type} (x:Option α):req true x=x:=rfl
theorem at?_eq {α:Type} (xs:List α) (i:Int) (h0:0≤i) (h1:i<(xs.length:Int)):at? xs i=some (xs[i.toNat]'(by omega)):=by
  simp[at?,h0,List.getElem?_eq_getElem (show i.toNat<xs.length by omega)]
theorem qt {i:Int} {n:Nat}:inb i n=true↔0≤i∧i<(n:Int):=by simp[inb]
def Le {α:Type} (a b:Option α):Prop:=∀r,a=some r→b=some r
theorem Le.refl {α:Type} (a:Option α):Le a a:=fun _ h=>h
theorem Le.bind {α β:Type} {a b:Option α} {f g:α→Option β} (h:Le a b) (hf:∀x,Le (f x) (g x)):Le (Option.bind a f) (Option.bind b g):=fun r hr=>by
  obtain⟨x,h1,h2⟩:=Option.bind_eq_some_iff.1 hr;rw[h x h1];exact hf x r h2
theorem Le.elim {α β γ:Type} {f g:α→Option γ} {f' g':β→Option γ} (h:∀x,Le (f x) (g x)) (h':∀x,Le (f' x) (g' x)):∀x,Le (Sum.elim f f' x) (Sum.elim g g' x)
  | .inl x=>h x
  | .inr x=>h' x
theorem Le.cond {α:Type} {c:Bool} {a b a' b':Option α} (h:Le a a') (h':Le b b'):Le (bif c then a else b) (bif c then a' else b'):=by
  cases c
  · exact h'
  · exact h
theorem Le.req {α:Type} {c:Bool} {a b:Option α} (h:Le a b):Le (req c a) (req c b):=by
  cases c
  · exact Le.refl _
  · exact h
theorem Le.gopt {α:Type} {c:Bool} {d:α} {a b:Option α} (h:Le a b):Le (gopt c d a) (gopt c d b):=by
  cases c
  · exact Le.refl _
  · exact h
theorem Le.map {α β:Type} {f:α→β} {a b:Option α} (h:Le a b):Le (Option.map f a) (Option.map f b):=fun r hr=>by
  obtain⟨x,h1,h2⟩:=Option.map_eq_some_iff.1 hr;rw[h x h1,←h2];rfl
theorem Le.iter {T α:Type} {f g:T→Option (T ⊕ α)} (h:∀x,Le (f x) (g x)) (n:Nat) (x:T):Le (iterN f n x) (iterW g x):=by
  have key:∀n x,Le (iterN f n x) (iterN g n x):=by
    intro n
    induction n with
    | zero=>intro x;exact Le.refl _
    | succ n ih =>
      intro x r hr;simp only[iterN] at hr ⊢
      match hf:f x with
      | none=>rw[hf] at hr;cases hr
      | some (.inl y)=>rw[hf] at hr;rw[h x _ hf];exact ih y r hr
      | some (.inr q)=>rw[hf] at hr;rw[h x _ hf];exact hr
  exact fun r hr=>qeh (key n x r hr)
def Mono {T α:Type} (G:(T→Option α)→T→Option α):Prop:=∀φ ψ,(∀x,Le (φ x) (ψ x))→∀x,Le (G φ x) (G ψ x)
theorem Le.fix {T α:Type} {F G:(T→Option α)→T→Option α} (h:∀φ ψ,(∀x,Le (φ x) (ψ x))→∀x,Le (F φ x) (G ψ x)) (hG:Mono G) (n:Nat) (x:T):Le (fixN F n x) (fixW G x):=by
  have key:∀n x,Le (fixN F n x) (fixN G n x):=by
    intro n
    induction n with
    | zero=>intro x;exact Le.refl _
    | succ n ih=>intro x;exact h _ _ ih x
  have up:∀n x,Le (fixN G n x) (fixN G (n+1) x):=by
    intro n
    induction n with
    | zero=>intro x r hr;cases hr
    | succ n ih=>intro x;exact hG _ _ ih x
  have mono:∀k n x,Le (fixN G n x) (fixN G (n+k) x):=by
    intro k
    induction k with
    | zero=>intro n x;exact Le.refl _
    | succ k ih=>intro n x r hr;exact up _ x r (ih n x r hr)
  intro r hr;have h1:=key n x r hr;have hx:∃n,(fixN G n x).isSome=true:=⟨n,by rw[h1];rfl⟩;unfold fixW;rw[dif_pos hx];obtain⟨q,hq⟩:=Option.isSome_iff_exists.1 (Classical.choose_spec hx);rw[hq];rcases Nat.le_total n (Classical.choose hx) with hl | hl
  · have:=mono (Classical.choose hx-n) n x r h1;rw[show n+(Classical.choose hx-n)=Classical.choose hx by omega,hq] at this;exact this
  · have:=mono (n-Classical.choose hx) (Classical.choose hx) x q hq;rw[show Classical.choose hx+(n-Classical.choose hx)=n by omega,h1] at this;exact this.symm

def foldN {A:Type} (g:Nat→A→A):Nat→A→A
  | 0,a=>a
  | n+1,a=>g n (foldN g n a)
theorem qgc {A R:Type} (n:Nat) (f:((A×Int×Unit)×Unit)→Option (((A×Int×Unit)×Unit) ⊕ R)) (g:Nat→A→A) (fin:A→R) (I:Nat→A→Prop) (a0:A) (h0:I 0 a0)
    (hs:∀i,i<n→∀a,I i a→f ((a,(i:Int),()),())=some (.inl ((g i a,((i:Int)+1),()),()))∧I (i+1) (g i a)) (he:∀a,I n a→f ((a,(n:Int),()),())=some (.inr (fin a))) :
    iterW f ((a0,(0:Int),()),())=some (fin (foldN g n a0)):=by
  have hI:∀i,i≤n→I i (foldN g i a0):=fun i=>by
    induction i with
    | zero=>intro _;exact h0
    | succ i ih=>intro hi;exact(hs i (by omega) _ (ih (by omega))).2
  have:=qx (f:=f) n (fun i=>((foldN g i a0,(i:Int),()),())) (fin (foldN g n a0)) (fun i hi=>by
    rw[(hs i hi _ (hI i (by omega))).1]
    simp[foldN]) (he _ (hI n (Nat.le_refl _)))
  exact this
theorem qbJ {A C:Type} (F:C→List A) (B:Nat):∀l:List C,(∀x∈l,(F x).length≤B)→(l.flatMap F).length≤l.length*B
  | [],_=>by simp
  | x::l,h=>by
    have:=qbJ F B l (fun y hy=>h y (List.mem_cons_of_mem _ hy));have:=h x List.mem_cons_self;rw[List.flatMap_cons,List.length_append,List.length_cons,Nat.add_mul];omega
theorem foldN_all {A:Type} (xs:List A) (q:A→Bool) (b0:Bool):∀n,n≤xs.length→foldN (fun i b=>b&&((xs[i]?).map q).getD true) n b0=(b0&&(xs.take n).all q)
  | 0,_=>by simp[foldN]
  | n+1,h=>by
    have hn:n<xs.length:=by omega
    rw[foldN,foldN_all xs q b0 n (by omega),List.getElem?_eq_getElem hn,List.take_succ_eq_append_getElem hn,List.all_append];simp[Bool.and_assoc]
theorem qhT {A R:Type} (xs:List A) (q:A→Bool) (f:((Int×Int×Unit)×Unit)→Option (((Int×Int×Unit)×Unit) ⊕ R)) (fin:Int→R)
    (hs:∀(i:Nat) (hi:i<xs.length) (c:Int),0≤c→c≤i→f ((c,(i:Int),()),())=some (.inl (((bif q xs[i] then c+1 else c),((i:Int)+1),()),()))) (he:∀c,f ((c,(xs.length:Int),()),())=some (.inr (fin c))) :
    iterW f (((0:Int),(0:Int),()),())=some (fin ((xs.countP q:Nat):Int)):=by
  have hf:∀n,n≤xs.length→foldN (fun i (c:Int)=>bif ((xs[i]?).map q).getD false then c+1 else c) n 0=(((xs.take n).countP q:Nat):Int):=fun n=>by
    induction n with
    | zero=>intro _;simp[foldN]
    | succ n ih =>
      intro h
      have hn:n<xs.length:=by omega
      rw[foldN,ih (by omega),List.getElem?_eq_getElem hn,List.take_succ_eq_append_getElem hn,List.countP_append];simp only[Option.map_some,Option.getD_some,List.countP_cons,List.countP_nil]
      cases q xs[n]<;>simp
  have:=hf xs.length (Nat.le_refl _);rw[List.take_length] at this;rw[←this];refine qgc xs.length f _ fin (fun i c=>0≤c∧c≤i) 0 (by simp) (fun i hi c hc=>⟨?_,?_⟩) (fun b _=>he b)
  · rw[hs i hi c hc.1 hc.2,List.getElem?_eq_getElem hi];rfl
  · cases ((xs[i]?).map q).getD false<;>simp<;>omega
theorem Le.iterW {T α:Type} {f g:T→Option (T ⊕ α)} (h:∀x,Le (f x) (g x)) (x:T):Le (Go.Den.iterW f x) (Go.Den.iterW g x):=fun r hr=>by
  obtain⟨n,hn⟩:=qeT hr;exact Le.iter h n x r hn
theorem Le.agreeW {α:Type} {a b a' b':Option α} (h:Le a a') (h':Le b b'):Le (Go.Den.agree a b) (Go.Den.agree a' b'):=fun r hr=>by
  unfold Go.Den.agree at hr ⊢;split at hr
  · rename_i e;rw[h r hr,h' r (e▸hr),if_pos rfl]
  · cases hr
theorem qhv {T α:Type} {G:(T→Option α)→T→Option α} (hG:Mono G) (I:T→Prop) (μ:T→Nat) (s:T→α)
    (h:∀φ x,I x→(∀y,I y→μ y<μ x→φ y=some (s y))→G φ x=some (s x)):∀x,I x→fixW G x=some (s x):=by
  have a2:∀n x,I x→μ x<n→fixN G n x=some (s x):=by
    intro n
    induction n with
    | zero=>intro x _ hl;omega
    | succ n ih=>intro x hx hl;exact h _ x hx fun y hy hm=>ih y hy (by omega)
  intro x hx;exact Le.fix (fun φ ψ hs y=>hG φ ψ hs y) hG (μ x+1) x _ (a2 _ x hx (Nat.lt_succ_self _))
end Go.Den
namespace Go.Proofs.Ytcifaoaepbidoaa
open Go.Den
set_option linter.unusedVariables false
set_option maxRecDepth 100000
theorem qby (self self':((Zv6×Zv21×(Option Zv21)×Int×Unit)×Bool×Int×Unit)→Option ((Zv6×Zv21×(Option Zv21)×Int×Unit)×Unit)) (hself:∀x,Le (self x) (self' x)) (r3:Int) (bye:Bool) (sum:Int) (x6:Zv20×((Zv6×Zv21×(Option Zv21)×Int×Unit)×Unit)):Le (qe r3 self bye sum x6) (qe r3 self' bye sum x6):=by
  unfold qe
  repeat (first | exact Le.refl _ | assumption | apply hself | apply Le.cond | apply Le.req | apply Le.gopt | apply Le.map | apply Le.agreeW | refine Le.iterW (fun _=>?_) _ | refine Le.bind ?_ (Le.elim (fun _=>?_) (fun _=>?_)) | refine Le.bind ?_ (fun _=>?_))
theorem qb5:Mono qk:=by
  intro self self' hself x
  unfold qk qP
  repeat (first | exact Le.refl _ | assumption | apply qby | apply hself | apply Le.cond | apply Le.req | apply Le.gopt | apply Le.map | apply Le.agreeW | refine Le.iterW (fun _=>?_) _ | refine Le.bind ?_ (Le.elim (fun _=>?_) (fun _=>?_)) | refine Le.bind ?_ (fun _=>?_))
theorem qcI (self self':Zv1→Option Zv4) (hself:∀x,Le (self x) (self' x)) (l:List Zv8) (x3:Zv20×(Unit)) (cost:Int) (off:Bool) (x4:Zv3×Zv17):Le (qo l x3 self cost off x4) (qo l x3 self' cost off x4):=by
  unfold qo
  repeat (first | exact Le.refl _ | assumption | apply hself | apply Le.cond | apply Le.req | apply Le.gopt | apply Le.map | apply Le.agreeW | refine Le.iterW (fun _=>?_) _ | refine Le.bind ?_ (Le.elim (fun _=>?_) (fun _=>?_)) | refine Le.bind ?_ (fun _=>?_))
theorem qdL:Mono qC:=by
  intro self self' hself x
  unfold qC qaL
  repeat (first | exact Le.refl _ | assumption | apply qcI | apply hself | apply Le.cond | apply Le.req | apply Le.gopt | apply Le.map | apply Le.agreeW | refine Le.iterW (fun _=>?_) _ | refine Le.bind ?_ (Le.elim (fun _=>?_) (fun _=>?_)) | refine Le.bind ?_ (fun _=>?_))
set_option linter.unusedSimpArgs false

def fstA (e:Nat→Option Int):Nat→Nat→Option Int
  | _,0=>none
  | i,k+1=>match e i with
    | some b=>some b
    | none=>fstA e (i+1) k
theorem qeY {e:Nat→Option Int}:∀ {k i:Nat},fstA e i k=none→∀j,i≤j→j<i+k→e j=none
  | 0,i,_,j,h1,h2=>by omega
  | k+1,i,h,j,h1,h2=>by
    unfold fstA at h
    match he:e i with
    | some b=>rw[he] at h;cases h
    | none =>
      rw[he] at h;by_cases hj:j=i
      · rw[hj];exact he
      · exact qeY h j (by omega) (by omega)
theorem iterS {T α:Type} {f:T→Option (T ⊕ α)} (n:Nat) (st:Nat→T) (e:Nat→Option Int) (g:Int→α) (B:α)
    (h1:∀i,i<n→(∀j,j<i→e j=none)→f (st i)=match e i with
      | some b=>some (.inr (g b))
      | none=>some (.inl (st (i+1)))) (h2:(∀j,j<n→e j=none)→f (st n)=some (.inr B)) :
    iterW f (st 0)=some (match fstA e 0 n with | some r=>g r | none=>B):=by
  have key:∀k i,i+k=n→(∀j,j<i→e j=none)→iterW f (st i)=some (match fstA e i k with | some r=>g r | none=>B):=by
    intro k
    induction k with
    | zero =>
      intro i hi hp
      have:i=n:=by omega
      subst this;exact qbk (h2 hp)
    | succ k ih =>
      intro i hi hp;have hs:=h1 i (by omega) hp;unfold fstA
      match he:e i with
      | some b=>rw[he] at hs;exact qbk hs
      | none =>
        rw[he] at hs;rw[qcn hs];exact ih (i+1) (by omega) fun j hj=>by
          by_cases h:j=i
          · rw[h];exact he
          · exact hp j (by omega)
  exact key n 0 (by omega) (fun j hj=>by omega)

abbrev Pl:=Int×List Int×Int×Bool×Unit
def cntO (l:List Pl) (i j:Nat):Int:=(((((l[i]?).map fun p=>p.2.1).getD []).countP fun k=>k==(j:Int):Nat):Int)
theorem qf2 {l:List Pl} {i:Nat} (hi:i<l.length) (j:Nat):cntO l i j=((l[i].2.1.countP fun k=>k==(j:Int):Nat):Int):=by
  unfold cntO;rw[List.getElem?_eq_getElem hi];rfl
theorem qht (l:List Pl) (i:Nat) (j:Int) (hi:i<l.length) (hb:l[i].2.1.length≤20):qa1 l (i:Int) j=some ((l[i].2.1.countP (fun k=>k==j):Nat):Int):=by
  unfold qa1;rw[at?_eq l _ (by omega) (by omega)];simp only[Int.toNat_natCast,Option.bind_some];rw[qhT l[i].2.1 (fun k=>k==j) (qbT l[i] j) (fun c=>((c,()),())) (fun k hk c h0 h1=>?_) (fun c=>?_)]
  · rfl
  · unfold qbT
    have:(k:Int)<((l[i].2.1.length:Nat):Int):=by omega
    simp only[this,decide_true,cond_true];rw[at?_eq _ _ (by omega) (by omega)];simp only[Int.toNat_natCast,Option.bind_some];rw[qi (n:=(k:Int)+1) (by omega) (by omega),qi (n:=c+1) (by omega) (by omega)]
    cases l[i].2.1[k]==j<;>simp
  · unfold qbT;simp
def badO (n i:Nat) (k:Int):Bool:=(decide (k<0)||decide (k≥(n:Int)))||(k==(i:Int))
def bad1 (l:List Pl) (i:Nat):Option Int:=(l[i]?).bind fun p =>
  bif ((decide (p.1<(0:Int))||decide (p.1>(40:Int)))||decide (p.2.2.1<(-20:Int)))||decide (p.2.2.1>(20:Int)) then some 4
  else bif decide (((p.2.1.length:Nat):Int)>(20:Int)) then some 2
  else bif p.2.1.any (badO l.length i) then some 3 else none
def bad2 (l:List Pl) (i j:Nat):Option Int:=bif cntO l i j !=cntO l j i then some 3 else bif decide (cntO l i j>1) then some 7 else none
def swF (l:List Pl):Int:=bif decide (((l.length:Nat):Int)<2)||decide (((l.length:Nat):Int)>8) then 2
  else match fstA (bad1 l) 0 l.length with
    | some r=>r
    | none=>match fstA (fun i=>fstA (bad2 l i) 0 i) 0 l.length with
      | some r=>r
      | none=>0
theorem qfO (l:List Pl):qa7 l=some (swF l):=by
  unfold qa7 swF;by_cases hn:(decide (((l.length:Nat):Int)<2)||decide (((l.length:Nat):Int)>8))=true
  · rw[hn];rfl
  rw[Bool.not_eq_true] at hn;simp only[hn,cond_false];simp only[Bool.or_eq_false_iff,decide_eq_false_iff_not] at hn;have h1:=iterS (f:=qax l) l.length (fun i=>(((i:Int),()),())) (bad1 l) (fun r=>(.inr r:(Unit×Unit) ⊕ Int)) (.inl ((),())) (fun i hi _=>?_) (fun _=>?_)
  rotate_left
  · unfold qax bad1
    have hlt:(i:Int)<((l.length:Nat):Int):=by omega
    simp only[hlt,decide_true,cond_true];rw[at?_eq l _ (by omega) (by omega),List.getElem?_eq_getElem hi];simp only[Int.toNat_natCast,Option.bind_some];generalize l[i]=p;by_cases c1:(((decide (p.1<(0:Int))||decide (p.1>(40:Int)))||decide (p.2.2.1<(-20:Int)))||decide (p.2.2.1>(20:Int)))=true
    · rw[c1];rfl
    rw[Bool.not_eq_true] at c1;rw[c1];simp only[cond_false];by_cases c2:decide (((p.2.1.length:Nat):Int)>(20:Int))=true
    · rw[c2];rfl
    rw[Bool.not_eq_true] at c2;rw[c2];simp only[cond_false];simp only[decide_eq_false_iff_not] at c2;have hany:iterW (qay p l (((i:Int),()),())) ((0,()),())=some (bif p.2.1.any (badO l.length i) then(Sum.inr (Sum.inr (Sum.inr 3))) else(Sum.inl ((),()))):=by
      refine iterW_any p.2.1 (badO l.length i) (qay p l (((i:Int),()),())) (Sum.inr (Sum.inr (Sum.inr 3))) (Sum.inl ((),())) (fun k hk=>?_) ?_
      · unfold qay
        have hlt2:(k:Int)<((p.2.1.length:Nat):Int):=by omega
        simp only[hlt2,decide_true,cond_true];rw[at?_eq _ _ (by omega) (by omega)];simp only[Int.toNat_natCast,Option.bind_some];show(bif badO l.length i p.2.1[k] then _ else _)=_;cases badO l.length i p.2.1[k]
        · simp only[cond_false];rw[qi (by omega) (by omega)];rfl
        · have:(k:Int)≥0:=by omega
          simp only[cond_true,this,decide_true];rfl
      · unfold qay;simp
    rw[hany]
    · cases p.2.1.any (badO l.length i)
      · simp only[cond_false,Option.bind_some,Sum.elim_inl];rw[qi (by omega) (by omega)];rfl
      · rfl
  · unfold qax;simp
  have h1':iterW (qax l) (((0:Int),()),())=_:=h1;rw[h1']
  match hb1:fstA (bad1 l) 0 l.length with
  | some r=>rfl
  | none =>
    simp only[Option.bind_some,Sum.elim_inl];have hlen:∀i (hi:i<l.length),l[i].2.1.length≤20:=fun i hi=>by
      have:=qeY hb1 i (by omega) (by omega);unfold bad1 at this;rw[List.getElem?_eq_getElem hi] at this;simp only[Option.bind_some] at this;rcases Nat.lt_or_ge 20 l[i].2.1.length with h | h
      · have:decide (((l[i].2.1.length:Nat):Int)>(20:Int))=true:=by rw[decide_eq_true_iff];omega
        rename_i h0;rw[this] at h0;revert h0
        cases (((decide (l[i].1<(0:Int))||decide (l[i].1>(40:Int)))||decide (l[i].2.2.1<(-20:Int)))||decide (l[i].2.2.1>(20:Int)))<;>simp
      · exact h
    have hm:∀i j:Nat,i<l.length→qa1 l (i:Int) (j:Int)=some (cntO l i j):=fun i j hi=>by
      rw[qht l i j hi (hlen i hi),qf2 hi]
    have h2:=iterS (f:=qau l) l.length (fun i=>(((i:Int),()),())) (fun i=>fstA (bad2 l i) 0 i) (fun r=>(.inr r:(Unit×Unit) ⊕ Int)) (.inl ((),())) (fun i hi _=>?_) (fun _=>?_)
    rotate_left
    · unfold qau
      have hlt:(i:Int)<((l.length:Nat):Int):=by omega
      simp only[hlt,decide_true,cond_true];have h3:=iterS (f:=qav (((i:Int),()),()) l) i (fun j=>(((j:Int),()),())) (bad2 l i) (fun r=>(.inr (.inr (.inr (.inr r))):(Unit×Unit) ⊕ ((Unit×Unit) ⊕ (((Int×Unit)×Unit) ⊕ ((Unit×Unit) ⊕ Int))))) (.inl ((),())) (fun j hj _=>?_) (fun _=>?_)
      rotate_left
      · unfold qav bad2
        have hlt2:(j:Int)<(i:Int):=by omega
        simp only[hlt2,decide_true,cond_true,hm i j hi,hm j i (by omega),Option.bind_some];cases cntO l i j !=cntO l j i
        · simp only[cond_false];cases decide (cntO l i j>1)
          · simp only[cond_false];rw[qi (by omega) (by omega)];rfl
          · rfl
        · rfl
      · unfold qav;simp
      have h3':iterW (qav (((i:Int),()),()) l) (((0:Int),()),())=_:=h3;rw[h3']
      match fstA (bad2 l i) 0 i with
      | some r=>rfl
      | none =>
        simp only[Option.bind_some,Sum.elim_inl];rw[qi (by omega) (by omega)];rfl
    · unfold qau;simp
    have h2':iterW (qau l) (((0:Int),()),())=_:=h2;rw[h2']
    match fstA (fun i=>fstA (bad2 l i) 0 i) 0 l.length with
    | some r=>rfl
    | none=>rfl

def tabI (F:Nat→Nat→Int):List Int:=(List.range 64).map fun k=>F (k / 8) (k % 8)
theorem qel (F:Nat→Nat→Int):(tabI F).length=64:=by simp[tabI]
theorem qf4 (F:Nat→Nat→Int) {a b:Nat} (ha:a<8) (hb:b<8):getD' (tabI F) (8*a+b) 0=F a b:=by
  unfold getD' tabI;rw[List.getD_eq_getElem?_getD,List.getElem?_map,List.getElem?_range (by omega)];simp only[Option.map_some,Option.getD_some];rw[show(8*a+b) / 8=a by omega,show(8*a+b) % 8=b by omega]
theorem tabI_set (F:Nat→Nat→Int) {a b:Nat} (ha:a<8) (hb:b<8) (v:Int):(tabI F).set (8*a+b) v=tabI fun x y=>if x=a∧y=b then v else F x y:=by
  apply List.ext_getElem?;intro k;rw[List.getElem?_set];by_cases h:8*a+b=k
  · subst h;rw[if_pos rfl,qel,if_pos (by omega)];unfold tabI;rw[List.getElem?_map,List.getElem?_range (by omega)];simp only[Option.map_some];rw[if_pos ⟨by omega,by omega⟩]
  · rw[if_neg h];unfold tabI;rw[List.getElem?_map,List.getElem?_map];by_cases hk:k<64
    · rw[List.getElem?_range hk];simp only[Option.map_some];rw[if_neg (by omega)]
    · rw[List.getElem?_eq_none (by simp;omega)];rfl
theorem qek {F G:Nat→Nat→Int} (h:∀a b,a<8→b<8→F a b=G a b):tabI F=tabI G:=by
  unfold tabI;refine List.map_congr_left fun k hk=>?_;simp only[List.mem_range] at hk;exact h _ _ (by omega) (by omega)
def cts (l:List Pl) (i:Nat) (a b:Nat):Int:=if a<i then cntO l a b else 0
theorem qhN (l:List Pl):qaI l=some (swF l):=by
  unfold qaI swF;by_cases hn:(decide (((l.length:Nat):Int)<2)||decide (((l.length:Nat):Int)>8))=true
  · rw[hn];rfl
  rw[Bool.not_eq_true] at hn;simp only[hn,cond_false];simp only[Bool.or_eq_false_iff,decide_eq_false_iff_not] at hn;have h1:=iterS (f:=qM l) l.length (fun i=>(((i:Int),()),(tabI (cts l i),()))) (bad1 l) (fun r=>(.inr r:(Unit×(List Int×Unit)) ⊕ Int)) (.inl ((),(tabI (cts l l.length),()))) (fun i hi hp=>?_) (fun _=>?_)
  rotate_left
  · unfold qM bad1
    have hlt:(i:Int)<((l.length:Nat):Int):=by omega
    simp only[hlt,decide_true,cond_true];rw[at?_eq l _ (by omega) (by omega),List.getElem?_eq_getElem hi];simp only[Int.toNat_natCast,Option.bind_some];obtain⟨p,hpe⟩:∃p,l[i]=p:=⟨_,rfl⟩;rw[hpe];by_cases c1:(((decide (p.1<(0:Int))||decide (p.1>(40:Int)))||decide (p.2.2.1<(-20:Int)))||decide (p.2.2.1>(20:Int)))=true
    · rw[c1];rfl
    rw[Bool.not_eq_true] at c1;rw[c1];simp only[cond_false];by_cases c2:decide (((p.2.1.length:Nat):Int)>(20:Int))=true
    · rw[c2];rfl
    rw[Bool.not_eq_true] at c2;rw[c2];simp only[cond_false];simp only[decide_eq_false_iff_not] at c2
    let G:Nat→Nat→Nat→Int:=fun m a b=>if a=i then(((p.2.1.take m).countP fun k=>k==(b:Int):Nat):Int) else cts l i a b
    have hG0:tabI (cts l i)=tabI (G 0):=qek fun a b _ _=>by
      simp only[G,cts];by_cases h:a<i
      · have h2:a≠i:=by omega
        simp[h,h2]
      · by_cases h2:a=i
        · simp[h2]
        · simp[h,h2]
    have hGn:tabI (G p.2.1.length)=tabI (cts l (i+1)):=qek fun a b _ _=>by
      simp only[G,cts];split
      · rename_i h;subst h;rw[if_pos (by omega),List.take_length,qf2 hi,hpe]
      · by_cases h:a<i
        · rw[if_pos h,if_pos (by omega)]
        · rw[if_neg h,if_neg (by omega)]
    have h2:=iterS (f:=qE p l (((i:Int),()),(tabI (cts l i),()))) p.2.1.length (fun m=>(((m:Int),()),(tabI (G m),()))) (fun m=>bif badO l.length i (getD' p.2.1 m 0) then some 3 else none)
      (fun r=>(.inr (.inr (.inr (.inr r))):(Unit×(List Int×Unit)) ⊕ ((Unit×(List Int×Unit)) ⊕ (((Int×Unit)×(List Int×Unit)) ⊕ ((Unit×(List Int×Unit)) ⊕ Int))))) (.inl ((),(tabI (G p.2.1.length),()))) (fun m hm _=>?_) (fun _=>?_)
    rotate_left
    · unfold qE
      have hlt2:(m:Int)<((p.2.1.length:Nat):Int):=by omega
      simp only[hlt2,decide_true,cond_true];rw[at?_eq _ _ (by omega) (by omega)];simp only[Int.toNat_natCast,Option.bind_some]
      have eg:getD' p.2.1 m 0=p.2.1[m]:=by simp[getD',List.getD_eq_getElem?_getD,List.getElem?_eq_getElem hm]
      rw[eg];show(bif badO l.length i p.2.1[m] then _ else _)=_;cases hbo:badO l.length i p.2.1[m]
      · simp only[cond_false];unfold badO at hbo;simp only[Bool.or_eq_false_iff,decide_eq_false_iff_not,beq_eq_false_iff_ne,ne_eq] at hbo;obtain⟨o,ho⟩:∃o:Nat,p.2.1[m]=(o:Int):=⟨p.2.1[m].toNat,by omega⟩;rw[ho] at hbo ⊢
        have ho8:o<8:=by omega
        have hi8:i<8:=by omega
        have e1:w64 (w64 (8*(i:Int))+(o:Int))=((8*i+o:Nat):Int):=by
          rw[qi (n:=8*(i:Int)) (by omega) (by omega),qi (by omega) (by omega)];push_cast;rfl
        rw[e1]
        have hin:inb (((8*i+o:Nat):Int)) (tabI (G m)).length=true:=by rw[qt,qel];omega
        rw[hin];simp only[qj,Int.toNat_natCast];rw[qf4 _ hi8 ho8,tabI_set _ hi8 ho8,qi (n:=(m:Int)+1) (by omega) (by omega)];have e2:(tabI fun x y=>if x=i∧y=o then w64 (G m i o+1) else G m x y)=tabI (G (m+1)):=qek fun a b _ _=>by
          simp only[G];by_cases ha:a=i
          · subst ha;simp only[if_true,true_and];have hc:((p.2.1.take m).countP fun k=>k==(o:Int))≤m:=by
              refine Nat.le_trans List.countP_le_length ?_;simp;omega
            rw[qi (by omega) (by omega),List.take_succ_eq_append_getElem hm,List.countP_append,ho];by_cases hb:b=o
            · subst hb;simp
            · have:((o:Int)==(b:Int))=false:=by simp;omega
              simp[hb,this]
          · simp[ha]
        rw[e2];rfl
      · rfl
    · unfold qE;simp
    have h2':iterW (qE p l (((i:Int),()),(tabI (cts l i),()))) (((0:Int),()),(tabI (G 0),()))=_:=h2;rw[←hG0] at h2';rw[h2'];have hany:∀k i0,i0+k=p.2.1.length→(match fstA (fun m=>bif badO l.length i (getD' p.2.1 m 0) then some 3 else none) i0 k with | some r=>some r | none=>none)=(bif (p.2.1.drop i0).any (badO l.length i) then some 3 else none):=by
      intro k
      induction k with
      | zero=>intro i0 h0;rw[List.drop_eq_nil_of_le (by omega)];rfl
      | succ k ih =>
        intro i0 h0
        have hlt3:i0<p.2.1.length:=by omega
        have eg:getD' p.2.1 i0 0=p.2.1[i0]:=by simp[getD',List.getD_eq_getElem?_getD,List.getElem?_eq_getElem hlt3]
        rw[List.drop_eq_getElem_cons hlt3,List.any_cons];unfold fstA;rw[eg];cases badO l.length i p.2.1[i0]
        · simp only[cond_false,Bool.false_or];exact ih (i0+1) (by omega)
        · rfl
    have hany0:=hany p.2.1.length 0 (by omega);rw[List.drop_zero] at hany0;rw[←hany0]
    match fstA (fun m=>bif badO l.length i (getD' p.2.1 m 0) then some 3 else none) 0 p.2.1.length with
    | some r=>rfl
    | none =>
      simp only[Option.bind_some,Sum.elim_inl];rw[qi (by omega) (by omega),hGn];rfl
  · unfold qM;simp
  have e0:List.replicate 64 (0:Int)=tabI (cts l 0):=by
    rw[qek (F:=cts l 0) (G:=fun _ _=>0) (fun a b _ _=>by simp[cts])];decide
  rw[e0];have h1':iterW (qM l) (((0:Int),()),(tabI (cts l 0),()))=_:=h1;rw[h1']
  match hb1:fstA (bad1 l) 0 l.length with
  | some r=>rfl
  | none =>
    simp only[Option.bind_some,Sum.elim_inl];have h2:=iterS (f:=qK l ((),(tabI (cts l l.length),()))) l.length (fun i=>(((i:Int),()),())) (fun i=>fstA (bad2 l i) 0 i) (fun r=>(.inr r:(Unit×Unit) ⊕ Int)) (.inl ((),())) (fun i hi _=>?_) (fun _=>?_)
    rotate_left
    · unfold qK
      have hlt:(i:Int)<((l.length:Nat):Int):=by omega
      simp only[hlt,decide_true,cond_true];have h3:=iterS (f:=qI (((i:Int),()),()) ((),(tabI (cts l l.length),()))) i (fun j=>(((j:Int),()),())) (bad2 l i) (fun r=>(.inr (.inr (.inr (.inr r))):(Unit×Unit) ⊕ ((Unit×Unit) ⊕ (((Int×Unit)×Unit) ⊕ ((Unit×Unit) ⊕ Int))))) (.inl ((),())) (fun j hj _=>?_) (fun _=>?_)
      rotate_left
      · unfold qI bad2
        have hlt2:(j:Int)<(i:Int):=by omega
        have e1:w64 (w64 (8*(i:Int))+(j:Int))=((8*i+j:Nat):Int):=by
          rw[qi (n:=8*(i:Int)) (by omega) (by omega),qi (by omega) (by omega)];push_cast;rfl
        have e2:w64 (w64 (8*(j:Int))+(i:Int))=((8*j+i:Nat):Int):=by
          rw[qi (n:=8*(j:Int)) (by omega) (by omega),qi (by omega) (by omega)];push_cast;rfl
        have i1:inb (((8*i+j:Nat):Int)) (tabI (cts l l.length)).length=true:=by rw[qt,qel];omega
        have i2:inb (((8*j+i:Nat):Int)) (tabI (cts l l.length)).length=true:=by rw[qt,qel];omega
        simp only[hlt2,decide_true,cond_true,e1,e2,i1,i2,qj,Int.toNat_natCast];rw[qf4 _ (by omega) (by omega),qf4 _ (by omega) (by omega)]
        have f1:cts l l.length i j=cntO l i j:=by simp[cts,hi]
        have f2:cts l l.length j i=cntO l j i:=by simp[cts];omega
        rw[f1,f2];cases cntO l i j !=cntO l j i
        · simp only[cond_false];cases decide (cntO l i j>1)
          · simp only[cond_false];rw[qi (by omega) (by omega)];rfl
          · rfl
        · rfl
      · unfold qI;simp
      have h3':iterW (qI (((i:Int),()),()) ((),(tabI (cts l l.length),()))) (((0:Int),()),())=_:=h3;rw[h3']
      match fstA (bad2 l i) 0 i with
      | some r=>rfl
      | none =>
        simp only[Option.bind_some,Sum.elim_inl];rw[qi (by omega) (by omega)];rfl
    · unfold qK;simp
    have h2':iterW (qK l ((),(tabI (cts l l.length),()))) (((0:Int),()),())=_:=h2;rw[h2']
    match fstA (fun i=>fstA (bad2 l i) 0 i) 0 l.length with
    | some r=>rfl
    | none=>rfl

structure Fine (l:List Pl):Prop where
  lo:2≤l.length
  hi:l.length≤8
  pl:∀i (h:i<l.length),(0≤l[i].1∧l[i].1≤40)∧(-20≤l[i].2.2.1∧l[i].2.2.1≤20)∧l[i].2.1.length≤20
theorem fine_of {l:List Pl} (h:swF l=0):Fine l:=by
  unfold swF at h;by_cases hn:(decide (((l.length:Nat):Int)<2)||decide (((l.length:Nat):Int)>8))=true
  · rw[hn] at h;cases h
  rw[Bool.not_eq_true] at hn;simp only[hn,cond_false] at h;simp only[Bool.or_eq_false_iff,decide_eq_false_iff_not] at hn;refine⟨by omega,by omega,fun i hi=>?_⟩;have key:bad1 l i=none:=by
    match hb:fstA (bad1 l) 0 l.length with
    | none=>exact qeY hb i (by omega) (by omega)
    | some r =>
      exfalso;rw[hb] at h;simp only at h;have:∀k i0 r,fstA (bad1 l) i0 k=some r→r=4∨r=2∨r=3:=by
        intro k
        induction k with
        | zero=>intro i0 r h;cases h
        | succ k ih =>
          intro i0 r h;unfold fstA at h
          match hb2:bad1 l i0 with
          | none=>rw[hb2] at h;exact ih _ _ h
          | some b =>
            rw[hb2] at h;cases h;unfold bad1 at hb2;obtain⟨p,_,hp⟩:=Option.bind_eq_some_iff.1 hb2;revert hp
            cases (((decide (p.1<(0:Int))||decide (p.1>(40:Int)))||decide (p.2.2.1<(-20:Int)))||decide (p.2.2.1>(20:Int))) with
            | true=>intro hp;cases hp;exact .inl rfl
            | false =>
              cases decide (((p.2.1.length:Nat):Int)>(20:Int)) with
              | true=>intro hp;cases hp;exact .inr (.inl rfl)
              | false =>
                cases p.2.1.any (badO l.length i0) with
                | true=>intro hp;cases hp;exact .inr (.inr rfl)
                | false=>intro hp;cases hp
      rcases this _ _ _ hb with h1 | h1 | h1<;>rw[h] at h1<;>cases h1
  unfold bad1 at key;rw[List.getElem?_eq_getElem hi] at key;simp only[Option.bind_some] at key;revert key
  cases h1:(((decide (l[i].1<(0:Int))||decide (l[i].1>(40:Int)))||decide (l[i].2.2.1<(-20:Int)))||decide (l[i].2.2.1>(20:Int))) with
  | true=>intro hp;cases hp
  | false =>
    cases h2:decide (((l[i].2.1.length:Nat):Int)>(20:Int)) with
    | true=>intro hp;cases hp
    | false =>
      intro _;simp only[Bool.or_eq_false_iff,decide_eq_false_iff_not] at h1 h2;omega

def scO (l:List Pl) (i:Nat):Int:=((l[i]?).map fun p=>p.1).getD 0
def coO (l:List Pl) (i:Nat):Int:=((l[i]?).map fun p=>p.2.2.1).getD 0
def byO (l:List Pl) (i:Nat):Bool:=((l[i]?).map fun p=>p.2.2.2.1).getD false
def gC (l:List Pl) (i j:Nat):Int:=100*(scO l i-scO l j)*(scO l i-scO l j)+(coO l i+coO l j)*(coO l i+coO l j)
def bC (l:List Pl) (i:Nat):Int:=100*scO l i*scO l i
theorem sq_le {d b:Int} (h1 : -b≤d) (h2:d≤b):0≤d*d∧d*d≤b*b:=by
  have hb:0≤b:=by omega
  refine⟨?_,?_⟩
  · rcases Int.le_total 0 d with h | h
    · exact Int.mul_nonneg h h
    · exact Int.mul_nonneg_of_nonpos_of_nonpos h h
  · rcases Int.le_total 0 d with h | h
    · exact Int.mul_le_mul h2 h2 h hb
    · have:=Int.mul_le_mul (a := -d) (b := -d) (c:=b) (d:=b) (by omega) (by omega) (by omega) hb
      rwa [Int.neg_mul_neg] at this
theorem rngO {l:List Pl} (hf:Fine l) {i:Nat} (hi:i<l.length):(0≤scO l i∧scO l i≤40)∧(-20≤coO l i∧coO l i≤20)∧scO l i=l[i].1∧coO l i=l[i].2.2.1∧byO l i=l[i].2.2.2.1:=by
  obtain⟨h1,h2,_⟩:=hf.pl i hi;unfold scO coO byO;rw[List.getElem?_eq_getElem hi];exact⟨h1,h2,rfl,rfl,rfl⟩
theorem qhA {l:List Pl} (hf:Fine l) {i j:Nat} (hi:i<l.length) (hj:j<l.length):(0≤100*((scO l i-scO l j)*(scO l i-scO l j))∧100*((scO l i-scO l j)*(scO l i-scO l j))≤160000)∧(0≤(coO l i+coO l j)*(coO l i+coO l j)∧(coO l i+coO l j)*(coO l i+coO l j)≤1600)∧gC l i j=100*((scO l i-scO l j)*(scO l i-scO l j))+(coO l i+coO l j)*(coO l i+coO l j):=by
  obtain⟨a1,a2,_⟩:=rngO hf hi;obtain⟨b1,b2,_⟩:=rngO hf hj;have h1:=sq_le (d:=scO l i-scO l j) (b:=40) (by omega) (by omega);have h2:=sq_le (d:=coO l i+coO l j) (b:=40) (by omega) (by omega);refine⟨by omega,by omega,?_⟩;unfold gC;rw[Int.mul_assoc]
theorem cost_w {l:List Pl} (hf:Fine l) {i j:Nat} (hi:i<l.length) (hj:j<l.length):w64 ((w64 ((100:Int)*(w64 (l[i].1-l[j].1))))*(w64 (l[i].1-l[j].1)))=100*((scO l i-scO l j)*(scO l i-scO l j))∧w64 ((w64 (l[i].2.2.1+l[j].2.2.1))*(w64 (l[i].2.2.1+l[j].2.2.1)))=(coO l i+coO l j)*(coO l i+coO l j):=by
  obtain⟨a1,a2,a3,a4,_⟩:=rngO hf hi;obtain⟨b1,b2,b3,b4,_⟩:=rngO hf hj;obtain⟨g1,g2,_⟩:=qhA hf hi hj;rw[←a3,←a4,←b3,←b4];rw[qi (n:=scO l i-scO l j) (by omega) (by omega),qi (n:=100*(scO l i-scO l j)) (by omega) (by omega),qi (n:=coO l i+coO l j) (by omega) (by omega),Int.mul_assoc,qi (by omega) (by omega),qi (by omega) (by omega)];exact⟨rfl,rfl⟩
theorem cost_spec {l:List Pl} (hf:Fine l) {i j:Nat} (hi:i<l.length) (hj:j<l.length):qbd l (i:Int) (j:Int)=some (gC l i j):=by
  unfold qbd;rw[at?_eq l _ (by omega) (by omega),at?_eq l _ (by omega) (by omega)];simp only[Int.toNat_natCast,Option.bind_some];obtain⟨e1,e2⟩:=cost_w hf hi hj;obtain⟨g1,g2,g3⟩:=qhA hf hi hj;rw[e1,e2,g3,qi (by omega) (by omega)]
theorem bC_rng {l:List Pl} (hf:Fine l) {i:Nat} (hi:i<l.length):(0≤bC l i∧bC l i≤160000)∧w64 ((w64 ((100:Int)*l[i].1))*l[i].1)=bC l i:=by
  obtain⟨a1,a2,a3,a4,_⟩:=rngO hf hi;have h1:=sq_le (d:=scO l i) (b:=40) (by omega) (by omega)
  have e:bC l i=100*(scO l i*scO l i):=by unfold bC;rw[Int.mul_assoc]
  rw[←a3,qi (n:=100*scO l i) (by omega) (by omega),Int.mul_assoc,←e];exact⟨by omega,qi (by omega) (by omega)⟩

def freeN (y:List Int):Nat:=y.countP fun x=>x == -1
def qa (y:List Int):Nat:=y.findIdx fun x=>x == -1
theorem qba {y:List Int} (h:qa y<y.length):y[qa y] = -1:=by
  have:=List.findIdx_getElem (p:=fun x:Int=>x == -1) (xs:=y) (w:=h);simp only[beq_iff_eq] at this;exact this
theorem qbV {y:List Int} {m:Nat} (h:m<qa y) (hm:m<y.length):y[m] ≠ -1:=by
  have:=List.not_of_lt_findIdx (p:=fun x:Int=>x == -1) (xs:=y) h;simpa using this
theorem qbi (y:List Int):qa y≤y.length:=List.findIdx_le_length
theorem qfY {y:List Int} (h:qa y<y.length):0<freeN y:=by
  unfold freeN;rw[List.countP_pos_iff];exact⟨-1,by rw[←qba h];exact List.getElem_mem h,rfl⟩
theorem qdi {y:List Int} (h:freeN y=0):qa y=y.length:=by
  rcases Nat.lt_or_ge (qa y) y.length with h1 | h1
  · have:=qfY h1;omega
  · have:=qbi y;omega
theorem qf3 {y:List Int} {i:Nat} {v:Int} (hi:i<y.length) (hy:y[i] = -1) (hv:v ≠ -1):freeN (y.set i v)+1=freeN y:=by
  unfold freeN;rw[List.countP_set hi]
  have:0<y.countP fun x=>x == -1:=by rw[List.countP_pos_iff];exact⟨-1,by rw[←hy];exact List.getElem_mem hi,rfl⟩
  have e:(v == -1)=false:=by simpa using hv
  simp only[hy,e,beq_self_eq_true,if_true];simp;omega
structure GoodY (n:Nat) (y:List Int):Prop where
  len:y.length=n
  ent:∀a (h:a<y.length),y[a] = -1∨y[a]=(n:Int)∨(0≤y[a]∧y[a]<(n:Int)∧y[a]≠(a:Int))
theorem GoodY.set {n:Nat} {y:List Int} (h:GoodY n y) {i:Nat} {v:Int} (hv:v=(n:Int)∨(0≤v∧v<(n:Int)∧v≠(i:Int))):GoodY n (y.set i v):=by
  refine⟨by rw[List.length_set];exact h.len,fun a ha=>?_⟩;rw[List.getElem_set];by_cases e:i=a
  · subst e;rw[if_pos rfl];exact .inr hv
  · rw[if_neg e];exact h.ent a (by simpa using ha)
abbrev Acc:=Option (List Int)×Int
def cmp (l:List Pl):Nat→List Int→Bool→Int→List (List Int×Int)
  | 0,y,b,c=>[(y,c)]
  | k+1,y,b,c=>bif Nat.beq (qa y) y.length then [(y,c)] else
    ((List.range (l.length-(qa y+1))).flatMap fun t=>bif (getD' y (qa y+1+t) 0 == -1)&&(cntO l (qa y) (qa y+1+t)==0) then
      cmp l k ((y.set (qa y) ((qa y+1+t:Nat):Int)).set (qa y+1+t) ((qa y:Nat):Int)) b (c+gC l (qa y) (qa y+1+t)) else []) ++
    (bif b && !byO l (qa y) then cmp l k (y.set (qa y) (l.length:Int)) false (c+bC l (qa y)) else [])
theorem qaZ {l:List Pl} {k:Nat} {y:List Int} {b:Bool} {c:Int} (h:qa y=y.length):cmp l k y b c=[(y,c)]:=by
  cases k with
  | zero=>rfl
  | succ k=>unfold cmp;rw[h];simp
theorem qcb {n:Nat} {y:List Int} {j:Nat} (hg:GoodY n y) (hi:qa y<y.length) (hj1:qa y<j) (hj:j<y.length) (hyj:y[j] = -1) :
    freeN ((y.set (qa y) (j:Int)).set j ((qa y:Nat):Int))+2=freeN y∧GoodY n ((y.set (qa y) (j:Int)).set j ((qa y:Nat):Int)):=by
  have h1:=qf3 (v:=(j:Int)) hi (qba hi) (by omega);have h2:=qf3 (y:=y.set (qa y) (j:Int)) (i:=j) (v:=((qa y:Nat):Int)) (by simpa using hj) (by rw[List.getElem_set_ne (by omega)];exact hyj) (by omega);have hl:=hg.len;exact⟨by omega,(hg.set (.inr ⟨by omega,by omega,by omega⟩)).set (.inr ⟨by omega,by omega,by omega⟩)⟩
theorem qem {n:Nat} {y:List Int} (hg:GoodY n y) (hi:qa y<y.length) (hn:n=y.length):freeN (y.set (qa y) (n:Int))+1=freeN y∧GoodY n (y.set (qa y) (n:Int)) :=
  ⟨qf3 hi (qba hi) (by omega),hg.set (.inl rfl)⟩
theorem qaj {A:Type} {xs:List A} {i:Nat} {d:A} (h:i<xs.length):getD' xs i d=xs[i]:=by simp[getD',List.getD_eq_getElem?_getD,List.getElem?_eq_getElem h]
theorem qcP {A B:Type} {f g:A→List B}:∀ {l:List A},(∀x∈l,f x=g x)→l.flatMap f=l.flatMap g
  | [],_=>rfl
  | x::l,h=>by
    rw[List.flatMap_cons,List.flatMap_cons,h x List.mem_cons_self,qcP fun y hy=>h y (List.mem_cons_of_mem _ hy)]
theorem qei {l:List Pl}:∀(k k':Nat) (y:List Int) (b:Bool) (c:Int),GoodY l.length y→freeN y≤k→freeN y≤k'→cmp l k y b c=cmp l k' y b c:=by
  intro k
  induction k with
  | zero =>
    intro k' y b c hg h _
    have h0:freeN y=0:=by omega
    rw[qaZ (qdi h0),qaZ (qdi h0)]
  | succ k ih =>
    intro k' y b c hg h h'
    cases k' with
    | zero =>
      have h0:freeN y=0:=by omega
      rw[qaZ (qdi h0),qaZ (qdi h0)]
    | succ k' =>
      by_cases he:qa y=y.length
      · rw[qaZ he,qaZ he]
      have hi:qa y<y.length:=by have:=qbi y;omega
      have hbe:Nat.beq (qa y) y.length=false:=by
        rw[Bool.eq_false_iff];intro hh;exact he (Nat.eq_of_beq_eq_true hh)
      have hl:=hg.len;unfold cmp;rw[hbe];simp only[cond_false];congr 1
      · refine qcP fun t ht=>?_;simp only[List.mem_range] at ht
        have hj:qa y+1+t<y.length:=by omega
        rw[qaj hj];cases hc:(y[qa y+1+t] == -1)&&(cntO l (qa y) (qa y+1+t)==0)
        · rfl
        · simp only[Bool.and_eq_true,beq_iff_eq] at hc;obtain⟨h1,h2⟩:=qcb hg hi (by omega) hj hc.1;simp only[cond_true];exact ih k' _ _ _ h2 (by omega) (by omega)
      · cases b && !byO l (qa y)
        · rfl
        · obtain⟨h1,h2⟩:=qem hg hi hl.symm;simp only[cond_true];exact ih k' _ _ _ h2 (by omega) (by omega)
theorem cmp_mem {l:List Pl}:∀(k:Nat) (y:List Int) (b:Bool) (c:Int),GoodY l.length y→freeN y≤k→∀q∈cmp l k y b c,GoodY l.length q.1∧freeN q.1=0:=by
  intro k
  induction k with
  | zero =>
    intro y b c hg h q hq;simp only[cmp,List.mem_singleton] at hq;subst hq;exact⟨hg,by simpa using h⟩
  | succ k ih =>
    intro y b c hg h q hq;by_cases he:qa y=y.length
    · rw[qaZ he] at hq;simp only[List.mem_singleton] at hq;subst hq;refine⟨hg,?_⟩;unfold freeN;rw[List.countP_eq_zero];intro x hx;obtain⟨m,hm,rfl⟩:=List.getElem_of_mem hx;have:=qbV (m:=m) (by rw[he];exact hm) hm;simpa using this
    have hi:qa y<y.length:=by have:=qbi y;omega
    have hbe:Nat.beq (qa y) y.length=false:=by
      rw[Bool.eq_false_iff];intro hh;exact he (Nat.eq_of_beq_eq_true hh)
    have hl:=hg.len;unfold cmp at hq;rw[hbe] at hq;simp only[cond_false,List.mem_append,List.mem_flatMap,List.mem_range] at hq;rcases hq with ⟨t,ht,hq⟩ | hq
    · have hj:qa y+1+t<y.length:=by omega
      rw[qaj hj] at hq;cases hc:(y[qa y+1+t] == -1)&&(cntO l (qa y) (qa y+1+t)==0)
      · rw[hc] at hq;cases hq
      · rw[hc] at hq;simp only[Bool.and_eq_true,beq_iff_eq] at hc;obtain⟨h1,h2⟩:=qcb hg hi (by omega) hj hc.1;exact ih _ _ _ h2 (by omega) q hq
    · cases hc:b && !byO l (qa y)
      · rw[hc] at hq;cases hq
      · rw[hc] at hq;obtain⟨h1,h2⟩:=qem hg hi hl.symm;exact ih _ _ _ h2 (by omega) q hq
theorem cmp_len {l:List Pl} (hn:l.length≤8):∀(k:Nat) (y:List Int) (b:Bool) (c:Int),(cmp l k y b c).length≤8 ^ k:=by
  intro k
  induction k with
  | zero=>intro y b c;simp[cmp]
  | succ k ih =>
    intro y b c;unfold cmp;have hp:0<8 ^ k:=Nat.pow_pos (by omega);cases Nat.beq (qa y) y.length
    · simp only[cond_false,List.length_append]
      have h1:=qbJ (fun t=>bif (getD' y (qa y+1+t) 0 == -1)&&(cntO l (qa y) (qa y+1+t)==0) then
        cmp l k ((y.set (qa y) ((qa y+1+t:Nat):Int)).set (qa y+1+t) ((qa y:Nat):Int)) b (c+gC l (qa y) (qa y+1+t)) else []) (8 ^ k) (List.range (l.length-(qa y+1))) (fun t _=>by
          cases (getD' y (qa y+1+t) 0 == -1)&&(cntO l (qa y) (qa y+1+t)==0)
          · simp
          · exact ih _ _ _)
      have h2:(bif b && !byO l (qa y) then cmp l k (y.set (qa y) (l.length:Int)) false (c+bC l (qa y)) else []).length≤8 ^ k:=by
        cases b && !byO l (qa y)
        · simp
        · exact ih _ _ _
      rw[List.length_range] at h1;have h3:(l.length-(qa y+1))*8 ^ k≤7*8 ^ k:=Nat.mul_le_mul_right _ (by omega);rw[Nat.pow_succ];omega
    · simp only[cond_true,List.length_singleton];exact Nat.pow_pos (by omega)

def updA (a:Acc) (q:List Int×Int):Acc:=bif qbE false a.1||decide (q.2<a.2) then(some q.1,q.2) else a
theorem qhM (y:List Int) (hl:y.length≤8):qaA y (-1)=some (if qa y=y.length then -1 else((qa y:Nat):Int)):=by
  unfold qaA;have hle:=qbi y;have h:=qx (f:=qB y (-1)) (qa y) (fun i=>(((i:Int),()),())) (if qa y=y.length then .inl ((),()) else .inr ((qa y:Nat):Int)) (fun i hi=>?_) ?_
  rotate_left
  · unfold qB
    have hlt:i<y.length:=by omega
    have h1:(i:Int)<((y.length:Nat):Int):=by omega
    simp only[h1,decide_true,cond_true];rw[at?_eq y _ (by omega) (by omega)];simp only[Int.toNat_natCast,Option.bind_some];have:((-1:Int)==y[i])=false:=by
      have:=qbV hi hlt;simp only[beq_eq_false_iff_ne,ne_eq];exact fun e=>this e.symm
    rw[this,qi (by omega) (by omega)];rfl
  · unfold qB;by_cases he:qa y=y.length
    · rw[if_pos he,he];simp
    · rw[if_neg he]
      have hlt:qa y<y.length:=by omega
      have h1:((qa y:Nat):Int)<((y.length:Nat):Int):=by omega
      simp only[h1,decide_true,cond_true];rw[at?_eq y _ (by omega) (by omega)];simp only[Int.toNat_natCast,Option.bind_some];rw[qba hlt];rfl
  have h':iterW (qB y (-1)) (((0:Int),()),())=_:=h;rw[h'];by_cases he:qa y=y.length
  · rw[if_pos he,if_pos he];rfl
  · rw[if_neg he,if_neg he];rfl
theorem qhQ (y:List Int) (h0:y≠[]) (hl:y.length≤8):qaz y=some y:=by
  unfold qaz
  have:y.isEmpty=false:=by cases y<;>simp_all
  rw[this];simp only[cond_false];rw[qc3 (by simp;omega)];rfl
theorem okO_upd {a:Acc} {q:List Int×Int} (h:okO a.1=true) (hq:q.1≠[]):okO (updA a q).1=true:=by
  unfold updA;cases qbE false a.1||decide (q.2<a.2)
  · exact h
  · simp only[cond_true]
    cases hq1:q.1 with
    | nil=>exact absurd hq1 hq
    | cons x r=>rfl
theorem okO_fold {qs:List (List Int×Int)}:∀ {a:Acc},okO a.1=true→(∀q∈qs,q.1≠[])→okO (qs.foldl updA a).1=true:=by
  induction qs with
  | nil=>intro a h _;exact h
  | cons q qs ih=>intro a h hq;exact ih (okO_upd h (hq q List.mem_cons_self)) fun q' h'=>hq q' (List.mem_cons_of_mem _ h')
abbrev SBox:=List Pl×List Int×Option (List Int)×Int×Unit
theorem met_cnt {l:List Pl} (hf:Fine l) {i:Nat} (hi:i<l.length) (j:Nat):qa1 l (i:Int) (j:Int)=some (cntO l i j):=by
  rw[qht l i j hi (hf.pl i hi).2.2,qf2 hi]
def brO (l:List Pl) (k:Nat) (y:List Int) (b:Bool) (c:Int) (t:Nat):List (List Int×Int) :=
  bif (getD' y (qa y+1+t) 0 == -1)&&(cntO l (qa y) (qa y+1+t)==0) then
    cmp l k ((y.set (qa y) ((qa y+1+t:Nat):Int)).set (qa y+1+t) ((qa y:Nat):Int)) b (c+gC l (qa y) (qa y+1+t)) else []
def byeO (l:List Pl) (k:Nat) (y:List Int) (b:Bool) (c:Int):List (List Int×Int) :=
  bif b && !byO l (qa y) then cmp l k (y.set (qa y) (l.length:Int)) false (c+bC l (qa y)) else []
theorem qho {l:List Pl} {k:Nat} {y:List Int} {b:Bool} {c:Int} (h:qa y<y.length):cmp l (k+1) y b c=((List.range (l.length-(qa y+1))).flatMap (brO l k y b c))++byeO l k y b c:=by
  have hbe:Nat.beq (qa y) y.length=false:=by
    rw[Bool.eq_false_iff];intro hh;have:=Nat.eq_of_beq_eq_true hh;omega
  conv=>lhs;unfold cmp
  rw[hbe];rfl
def qeE (l:List Pl) (x:SBox×Bool×Int×Unit):SBox×Unit :=
  ((x.1.1,x.1.2.1,((cmp l (freeN x.1.2.1) x.1.2.1 x.2.1 x.2.2.1).foldl updA (x.1.2.2.1,x.1.2.2.2.1)).1,((cmp l (freeN x.1.2.1) x.1.2.1 x.2.1 x.2.2.1).foldl updA (x.1.2.2.1,x.1.2.2.2.1)).2,()),())
structure InS (l:List Pl) (x:SBox×Bool×Int×Unit):Prop where
  lx:x.1.1=l
  y:GoodY l.length x.1.2.1
  ok:okO x.1.2.2.1=true
  c0:0≤x.2.2.1
  c1:x.2.2.1+(freeN x.1.2.1:Int)*161600≤1292800
theorem reset2 {y:List Int} {i j:Nat} {a b:Int} (hi:i<y.length) (hj:j<y.length) (hij:i≠j) (h1:y[i] = -1) (h2:y[j] = -1):((((y.set i a).set j b).set i (-1)).set j (-1))=y:=by
  apply List.ext_getElem?;intro k;simp only[List.getElem?_set,List.length_set];by_cases e1:j=k
  · subst e1;rw[if_pos rfl,if_pos hj,List.getElem?_eq_getElem hj,h2]
  · rw[if_neg e1];by_cases e2:i=k
    · subst e2;rw[if_pos rfl,if_pos hi,List.getElem?_eq_getElem hi,h1]
    · rw[if_neg e2,if_neg e1,if_neg e2]
theorem reset1 {y:List Int} {i:Nat} {a:Int} (hi:i<y.length) (h1:y[i] = -1):((y.set i a).set i (-1))=y:=by
  apply List.ext_getElem?;intro k;simp only[List.getElem?_set,List.length_set];by_cases e2:i=k
  · subst e2;rw[if_pos rfl,if_pos hi,List.getElem?_eq_getElem hi,h1]
  · rw[if_neg e2,if_neg e2]
theorem qcC {B:Type} (f:Nat→List B) (m:Nat):(List.range (m+1)).flatMap f=(List.range m).flatMap f++f m:=by
  rw[List.range_succ];simp
theorem qhd {l:List Pl} (hf:Fine l):∀x:SBox×Bool×Int×Unit,InS l x→fixW qk x=some (qeE l x):=by
  refine qhv qb5 (InS l) (fun x=>freeN x.1.2.1) (qeE l) fun φ x hx hφ=>?_;obtain⟨⟨l',y,best,least,⟨⟩⟩,b,c,⟨⟩⟩:=x;obtain⟨hl',hg,hok,hc0,hc1⟩:=hx;simp only at hl' hg hok hc0 hc1 hφ;subst hl';have hyl:=hg.len;have h8:=hf.hi;have h2:=hf.lo;show qP φ (l',y,best,least,()) b c=_;unfold qP;simp only;rw[qhM y (by omega)];simp only[Option.bind_some];by_cases he:qa y=y.length
  · rw[if_pos he]
    have hyn:y≠[]:=fun e=>by rw[e] at hyl;simp at hyl;omega
    simp only[show((-1:Int)<0) from by decide,decide_true,cond_true,hok,qj];rw[qhQ y hyn (by omega)];unfold qeE;simp only[qaZ he,List.foldl_cons,List.foldl_nil];unfold updA;simp only
    cases qbE false best||decide (c<least)<;>rfl
  rw[if_neg he]
  have hi:qa y<y.length:=by have:=qbi y;omega
  have hneg:¬((qa y:Nat):Int)<0:=by omega
  simp only[hneg,decide_false,cond_false];obtain⟨i,hie⟩:∃i,qa y=i:=⟨_,rfl⟩;have hyi:y[qa y] = -1:=qba hi;obtain⟨k,hk⟩:∃k,freeN y=k+1:=⟨freeN y-1,by have:=qfY hi;omega⟩
  have hstep:∀m,m<l'.length-(qa y+1)→∀(a:Acc),okO a.1=true →
      qe ((qa y:Nat):Int) φ b c (((((qa y+1+m:Nat):Int)),()),((l',y,a.1,a.2,()),())) =
        some (.inl (((((qa y+1+(m+1):Nat):Int)),()),((l',y,((brO l' k y b c m).foldl updA a).1,((brO l' k y b c m).foldl updA a).2,()),()))):=by
    intro m hm a ha
    have hj:qa y+1+m<y.length:=by omega
    unfold qe
    have h1:(((qa y+1+m:Nat):Int))<((l'.length:Nat):Int):=by omega
    have h3:inb (((qa y+1+m:Nat):Int)) y.length=true:=by rw[qt];omega
    simp only[h1,decide_true,cond_true,h3,qj,Int.toNat_natCast];simp only[qaj hj]
    have ew:w64 ((((qa y+1+m:Nat):Int))+1)=((qa y+1+(m+1):Nat):Int):=by rw[qi (by omega) (by omega)];omega
    have hneg':decide (y[qa y+1+m]<0)=(y[qa y+1+m] == -1):=by
      rcases hg.ent _ hj with h | h | h
      · rw[h];rfl
      · have e1:¬y[qa y+1+m]<0:=by omega
        have e2:(y[qa y+1+m] == -1)=false:=by simp only[beq_eq_false_iff_ne,ne_eq];omega
        rw[e2];simp[e1]
      · have e1:¬y[qa y+1+m]<0:=by omega
        have e2:(y[qa y+1+m] == -1)=false:=by simp only[beq_eq_false_iff_ne,ne_eq];omega
        rw[e2];simp[e1]
    simp only[hneg',ew];unfold brO;rw[qaj hj]
    cases hc:(y[qa y+1+m] == -1) with
    | false=>simp only[gopt,cond_false,Bool.false_and,Option.bind_some,List.foldl_nil]
    | true =>
      simp only[gopt,cond_true,Bool.true_and];rw[met_cnt hf (by omega)];simp only[Option.bind_some]
      cases hcn:(cntO l' (qa y) (qa y+1+m)==0) with
      | false=>simp only[cond_false,Option.bind_some,List.foldl_nil]
      | true =>
        simp only[beq_iff_eq] at hc
        have h4:inb ((qa y:Nat):Int) y.length=true:=by rw[qt];omega
        have h5:inb (((qa y+1+m:Nat):Int)) (y.set (qa y) (((qa y+1+m:Nat):Int))).length=true:=by rw[qt,List.length_set];omega
        simp only[cond_true,h4,h5,qj,Int.toNat_natCast];rw[cost_spec hf (by omega) (by omega)];simp only[Option.bind_some];obtain⟨f1,f2⟩:=qcb hg hi (j:=qa y+1+m) (by omega) hj hc;obtain⟨g1,g2,g3⟩:=qhA hf (i:=qa y) (j:=qa y+1+m) (by omega) (by omega);have ec:w64 (c+gC l' (qa y) (qa y+1+m))=c+gC l' (qa y) (qa y+1+m):=qi (by omega) (by omega);rw[ec];rw[hφ ((l',((y.set (qa y) (((qa y+1+m:Nat):Int))).set (qa y+1+m) ((qa y:Nat):Int)),a.1,a.2,()),b,c+gC l' (qa y) (qa y+1+m),()) ⟨rfl,f2,ha,by simp only;omega,by simp only;omega⟩ (by simp only;omega)];unfold qeE;simp only[Option.bind_some]
        rw[qei (freeN ((y.set (qa y) (((qa y+1+m:Nat):Int))).set (qa y+1+m) ((qa y:Nat):Int))) k _ b _ f2 (Nat.le_refl _) (by omega)]
        have h6:inb ((qa y:Nat):Int) ((y.set (qa y) (((qa y+1+m:Nat):Int))).set (qa y+1+m) ((qa y:Nat):Int)).length=true:=by rw[qt,List.length_set,List.length_set];omega
        have h7:inb (((qa y+1+m:Nat):Int)) (((y.set (qa y) (((qa y+1+m:Nat):Int))).set (qa y+1+m) ((qa y:Nat):Int)).set (qa y) (-1)).length=true:=by rw[qt,List.length_set,List.length_set,List.length_set];omega
        simp only[h6,h7,qj,Option.bind_some];rw[reset2 hi hj (by omega) hyi hc]
  have hbrm:∀m,m<l'.length-(qa y+1)→∀q∈brO l' k y b c m,q.1≠[]:=fun m hm q hq e=>by
    have hj:qa y+1+m<y.length:=by omega
    unfold brO at hq;rw[qaj hj] at hq;cases hc:(y[qa y+1+m] == -1)&&(cntO l' (qa y) (qa y+1+m)==0)
    · rw[hc] at hq;cases hq
    · rw[hc] at hq;simp only[Bool.and_eq_true,beq_iff_eq] at hc;obtain⟨f1,f2⟩:=qcb hg hi (j:=qa y+1+m) (by omega) hj hc.1;have:=(cmp_mem k _ b _ f2 (by omega) q hq).1.len;rw[e] at this;simp at this;omega
  have hfold:∀m,m≤l'.length-(qa y+1)→okO (((List.range m).flatMap (brO l' k y b c)).foldl updA (best,least)).1=true:=fun m hm =>
    okO_fold hok fun q hq=>by
      obtain⟨t,ht,hq⟩:=List.mem_flatMap.1 hq;simp only[List.mem_range] at ht;exact hbrm t (by omega) q hq
  have hloop:=qx (f:=qe ((qa y:Nat):Int) φ b c) (l'.length-(qa y+1))
    (fun m=>(((((qa y+1+m:Nat):Int)),()),((l',y,(((List.range m).flatMap (brO l' k y b c)).foldl updA (best,least)).1,(((List.range m).flatMap (brO l' k y b c)).foldl updA (best,least)).2,()),())))
    ((),((l',y,(((List.range (l'.length-(qa y+1))).flatMap (brO l' k y b c)).foldl updA (best,least)).1,(((List.range (l'.length-(qa y+1))).flatMap (brO l' k y b c)).foldl updA (best,least)).2,()),()))
    (fun m hm=>by
      rw[hstep m hm _ (hfold m (by omega)),qcC,List.foldl_append]) (by
      unfold qe
      have:¬(((qa y+1+(l'.length-(qa y+1)):Nat):Int))<((l'.length:Nat):Int):=by omega
      simp only[this,decide_false,cond_false])
  have ew1:w64 (((qa y:Nat):Int)+1)=((qa y+1+0:Nat):Int):=by rw[qi (by omega) (by omega)];omega
  simp only[List.range_zero,List.flatMap_nil,List.foldl_nil] at hloop;rw[ew1,hloop];simp only[Option.bind_some];unfold qeE;simp only;rw[hk,qho hi,List.foldl_append];have hA:=hfold (l'.length-(qa y+1)) (Nat.le_refl _);obtain⟨A,hAe⟩:∃A,((List.range (l'.length-(qa y+1))).flatMap (brO l' k y b c)).foldl updA (best,least)=A:=⟨_,rfl⟩;rw[hAe] at hA ⊢
  have hib:qa y<l'.length:=by omega
  obtain⟨_,_,r3,_,r5⟩:=rngO hf hib;unfold byeO
  cases b with
  | false=>simp only[gat,cond_false,Bool.false_and,Option.bind_some,List.foldl_nil]
  | true =>
    have hat:at? l' ((qa y:Nat):Int)=some l'[qa y]:=by
      rw[at?_eq l' _ (by omega) (by omega)];simp only[Int.toNat_natCast]
    simp only[gat,cond_true,Bool.true_and,hat,Option.bind_some];rw[←r5]
    cases byO l' (qa y) with
    | true=>simp only[Bool.not_true,cond_false,Option.bind_some,List.foldl_nil]
    | false =>
      have h4:inb ((qa y:Nat):Int) y.length=true:=by rw[qt];omega
      simp only[Bool.not_false,cond_true,h4,qj,hat,Option.bind_some,Int.toNat_natCast];obtain⟨f1,f2⟩:=qem hg hi hyl.symm;obtain⟨b1,b2⟩:=bC_rng hf hib;rw[b2,qi (n:=c+bC l' (qa y)) (by omega) (by omega)];rw[hφ ((l',y.set (qa y) ((l'.length:Nat):Int),A.1,A.2,()),false,c+bC l' (qa y),()) ⟨rfl,f2,hA,by simp only;omega,by simp only;omega⟩ (by simp only;omega)];unfold qeE;simp only[Option.bind_some];rw[qei (freeN (y.set (qa y) ((l'.length:Nat):Int))) k _ false _ f2 (Nat.le_refl _) (by omega)]
      have h6:inb ((qa y:Nat):Int) (y.set (qa y) ((l'.length:Nat):Int)).length=true:=by rw[qt,List.length_set];omega
      simp only[h6,qj,Option.bind_some];rw[reset1 hi hyi]

def encO (n:Nat) (x:Int):Int:=if x = -1 then -2 else if x=(n:Int) then -1 else x
def decO (n:Nat) (x:Int):Int:=if x = -2 then -1 else if x = -1 then(n:Int) else x
theorem qbc {n:Nat} {y:List Int} (h:GoodY n y):(y.map (encO n)).map (decO n)=y:=by
  rw[List.map_map]
  conv=>rhs;rw[←List.map_id y]
  refine List.map_congr_left fun x hx=>?_;obtain⟨a,ha,rfl⟩:=List.getElem_of_mem hx;simp only[Function.comp,id];unfold encO decO;rcases h.ent a ha with h1 | h1 | h1
  · rw[h1];simp
  · rw[h1,if_neg (by omega),if_pos rfl];simp
  · have e1:y[a] ≠ -1:=by omega
    have e2:y[a]≠(n:Int):=by omega
    have e3:y[a] ≠ -2:=by omega
    rw[if_neg e1,if_neg e2,if_neg e3,if_neg e1]
theorem qg4 {n:Nat} {y:List Int} {a:Nat} (ha:a<y.length):getD' (y.map (encO n)) a 0=encO n y[a]:=by
  rw[qaj (by simpa using ha),List.getElem_map]
theorem qfU {n:Nat} {y:List Int} (h:GoodY n y) {a:Nat} (ha:a<y.length):(encO n y[a] != -2) = !(y[a] == -1):=by
  unfold encO;rcases h.ent a ha with h1 | h1 | h1
  · rw[h1];rfl
  · have e:y[a] ≠ -1:=by omega
    rw[if_neg e,if_pos h1];simp[e]
  · have e1:y[a] ≠ -1:=by omega
    have e2:y[a]≠(n:Int):=by omega
    have e3:y[a] ≠ -2:=by omega
    rw[if_neg e1,if_neg e2,bne_t e3,beq_f e1];rfl
theorem qdF {n:Nat} (y:List Int) (i:Nat) (v:Int):(y.map (encO n)).set i (encO n v)=(y.set i v).map (encO n):=by rw[List.map_set]
def wrO (n:Nat) (q:List Int×Int):List Int×Int×Unit:=(q.1.map (encO n),q.2,())
theorem scan_free {l:List Pl} {y:List Int} (hg:GoodY l.length y) (h8:l.length≤8):iterW (qad l (y.map (encO l.length))) (((0:Int),()),())=some ((((qa y:Nat):Int),()),()):=by
  have hle:=qbi y;have hl:=hg.len;have h:=qx (f:=qad l (y.map (encO l.length))) (qa y) (fun i=>(((i:Int),()),())) ((((qa y:Nat):Int),()),()) (fun i hi=>?_) ?_
  · exact h
  · unfold qad
    have hlt:i<y.length:=by omega
    have h1:(i:Int)<((l.length:Nat):Int):=by omega
    have h2:inb (i:Int) (y.map (encO l.length)).length=true:=by rw[qt,List.length_map];omega
    simp only[h1,decide_true,imp,cond_true,h2,qj,Bool.true_and,Int.toNat_natCast];rw[qg4 hlt,qfU hg hlt]
    have:(y[i] == -1)=false:=by simpa using qbV hi hlt
    rw[this,qi (by omega) (by omega)];rfl
  · unfold qad;by_cases he:qa y=y.length
    · have h1:¬((qa y:Nat):Int)<((l.length:Nat):Int):=by omega
      simp only[h1,decide_false,imp,cond_false,qj,Bool.false_and]
    · have hlt:qa y<y.length:=by omega
      have h1:((qa y:Nat):Int)<((l.length:Nat):Int):=by omega
      have h2:inb ((qa y:Nat):Int) (y.map (encO l.length)).length=true:=by rw[qt,List.length_map];omega
      simp only[h1,decide_true,imp,cond_true,h2,qj,Bool.true_and,Int.toNat_natCast];rw[qg4 hlt,qfU hg hlt,qba hlt];rfl
theorem qf9 (xs:List Int) (q:Int→Bool) (b0:Bool):∀n,n≤xs.length→foldN (fun i b=>b||((xs[i]?).map q).getD false) n b0=(b0||(xs.take n).any q)
  | 0,_=>by simp[foldN]
  | n+1,h=>by
    have hn:n<xs.length:=by omega
    rw[foldN,qf9 xs q b0 n (by omega),List.getElem?_eq_getElem hn,List.take_succ_eq_append_getElem hn,List.any_append];simp[Bool.or_assoc]
theorem met3_spec {l:List Pl} (hf:Fine l) {i:Nat} (hi:i<l.length) (j:Nat) (o:List (List Int×Int×Unit)) (w:List Int):iterW (qab l[i] ((o,(j:Int),()),(w,()))) ((false,(0:Int),()),())=some ((!(cntO l i j==0),()),()):=by
  have hlen:=(hf.pl i hi).2.2;have h:=qgc l[i].2.1.length (qab l[i] ((o,(j:Int),()),(w,()))) (fun m b=>b||((l[i].2.1[m]?).map fun k=>k==(j:Int)).getD false) (fun b=>((b,()),())) (fun _ _=>True) false trivial (fun m hm b _=>⟨?_,trivial⟩) (fun b _=>?_)
  · rw[h,qf9 l[i].2.1 (fun k=>k==(j:Int)) false _ (Nat.le_refl _),List.take_length,Bool.false_or];have e:l[i].2.1.any (fun k=>k==(j:Int)) = !(cntO l i j==0):=by
      rw[qf2 hi]
      cases ha:l[i].2.1.any (fun k=>k==(j:Int)) with
      | true =>
        rw[List.any_eq_true] at ha;obtain⟨x,hx,hxj⟩:=ha
        have:0<l[i].2.1.countP fun k=>k==(j:Int):=by rw[List.countP_pos_iff];exact⟨x,hx,hxj⟩
        have e2:(((l[i].2.1.countP fun k=>k==(j:Int):Nat):Int)==0)=false:=by simp only[beq_eq_false_iff_ne,ne_eq];omega
        rw[e2];rfl
      | false =>
        have:(l[i].2.1.countP fun k=>k==(j:Int))=0:=by
          rw[List.countP_eq_zero];intro x hx hxj;rw[←Bool.not_eq_true,List.any_eq_true] at ha;exact ha ⟨x,hx,hxj⟩
        rw[this];rfl
    rw[e]
  · unfold qab
    have h1:(m:Int)<((l[i].2.1.length:Nat):Int):=by omega
    simp only[h1,decide_true,cond_true];rw[at?_eq _ _ (by omega) (by omega),qi (by omega) (by omega),List.getElem?_eq_getElem hm];simp only[Int.toNat_natCast,Option.bind_some,Option.map_some,Option.getD_some]
  · unfold qab;simp
abbrev RArg:=(List Int)×((List (List Int×Int×Unit))×Unit)×List Pl×Int×Bool×Unit
def qev (l:List Pl) (off:Bool):Bool:=((((l.length:Nat):Int).tmod 2)==1) && !off
def qfB (l:List Pl) (x:RArg):(List Int)×(List (List Int×Int×Unit)) :=
  (x.1,x.2.1.1++(cmp l (freeN (x.1.map (decO l.length))) (x.1.map (decO l.length)) (qev l x.2.2.2.2.1) x.2.2.2.1).map (wrO l.length))
structure InR (l:List Pl) (x:RArg):Prop where
  lx:x.2.2.1=l
  y:∃y,GoodY l.length y∧x.1=y.map (encO l.length)
  c0:0≤x.2.2.2.1
  c1:x.2.2.2.1+(freeN (x.1.map (decO l.length)):Int)*161600≤1292800
  o:x.2.1.1.length+(cmp l (freeN (x.1.map (decO l.length))) (x.1.map (decO l.length)) (qev l x.2.2.2.2.1) x.2.2.2.1).length≤1000000000
theorem qf0 {l:List Pl} (hf:Fine l):∀x:RArg,InR l x→fixW qC x=some (qfB l x):=by
  refine qhv qdL (InR l) (fun x=>freeN (x.1.map (decO l.length))) (qfB l) fun φ x hx hφ=>?_;obtain⟨w,⟨out,⟨⟩⟩,l',c,off,⟨⟩⟩:=x;obtain⟨hl',⟨y,hg,hw⟩,hc0,hc1,ho⟩:=hx;simp only at hl' hw hc0 hc1 ho hφ;subst hl';subst hw;rw[qbc hg] at hc1 ho hφ;have hyl:=hg.len;have h8:=hf.hi;have h2:=hf.lo;show qaL φ (y.map (encO l'.length)) out l' c off=_;unfold qaL qfB;rw[scan_free hg h8];simp only[Option.bind_some];rw[qbc hg];by_cases he:qa y=y.length
  · have e1:(((qa y:Nat):Int)==((l'.length:Nat):Int))=true:=by rw[beq_iff_eq];omega
    rw[qaZ he] at ho ⊢;simp only[List.length_singleton] at ho;rw[e1];simp only[cond_true];rw[qc3 (by simp;omega),qc3 (by simp;omega)];simp only[qj,List.nil_append];rfl
  have hi:qa y<y.length:=by have:=qbi y;omega
  have e1:(((qa y:Nat):Int)==((l'.length:Nat):Int))=false:=by simp only[beq_eq_false_iff_ne,ne_eq];omega
  rw[e1];simp only[cond_false];have hyi:y[qa y] = -1:=qba hi;obtain⟨k,hk⟩:∃k,freeN y=k+1:=⟨freeN y-1,by have:=qfY hi;omega⟩;obtain⟨b,hb⟩:∃b,qev l' off=b:=⟨_,rfl⟩;have hb':((((l'.length:Nat):Int).tmod 2)==1 && !off)=b:=hb;rw[hb'] ;rw[hb] at ho ⊢;rw[hk,qho hi] at ho ⊢;rw[List.length_append] at ho;have hat:at? l' ((qa y:Nat):Int)=some l'[qa y]:=by
    rw[at?_eq l' _ (by omega) (by omega)];simp only[Int.toNat_natCast]
  have hib:qa y<l'.length:=by omega
  have encj:∀j:Nat,j<l'.length→encO l'.length (j:Int)=(j:Int):=fun j hj=>by
    unfold encO;rw[if_neg (by omega),if_neg (by omega)]
  have encn:encO l'.length ((l'.length:Nat):Int) = -1:=by unfold encO;rw[if_neg (by omega),if_pos rfl]
  have encf:encO l'.length (-1) = -2:=rfl;have hpre:∀m,m≤l'.length-(qa y+1)→((List.range m).flatMap (brO l' k y b c)).length≤((List.range (l'.length-(qa y+1))).flatMap (brO l' k y b c)).length:=fun m hm=>by
    obtain⟨d,hd⟩:∃d,l'.length-(qa y+1)=m+d:=⟨l'.length-(qa y+1)-m,by omega⟩;rw[hd,List.range_add,List.flatMap_append,List.length_append];omega
  have hstep:∀m,m<l'.length-(qa y+1) →
      qo l' ((((qa y:Nat):Int),()),()) φ c off ((out++((List.range m).flatMap (brO l' k y b c)).map (wrO l'.length),(((qa y+1+m:Nat):Int)),()),(y.map (encO l'.length),())) =
        some (.inl ((out++((List.range (m+1)).flatMap (brO l' k y b c)).map (wrO l'.length),(((qa y+1+(m+1):Nat):Int)),()),(y.map (encO l'.length),()))):=by
    intro m hm
    have hj:qa y+1+m<y.length:=by omega
    have hp1:=hpre (m+1) (by omega);rw[qcC] at hp1 ⊢;rw[List.length_append] at hp1;unfold qo
    have h1:(((qa y+1+m:Nat):Int))<((l'.length:Nat):Int):=by omega
    simp only[h1,decide_true,cond_true,hat,Option.bind_some];rw[met3_spec hf hib (qa y+1+m)]
    have h3:inb (((qa y+1+m:Nat):Int)) (y.map (encO l'.length)).length=true:=by rw[qt,List.length_map];omega
    have ew:w64 ((((qa y+1+m:Nat):Int))+1)=((qa y+1+(m+1):Nat):Int):=by rw[qi (by omega) (by omega)];omega
    simp only[h3,qj,Option.bind_some,Int.toNat_natCast,ew];rw[qg4 hj,qfU hg hj]
    have ebr:brO l' k y b c m=bif (y[qa y+1+m] == -1)&&(cntO l' (qa y) (qa y+1+m)==0) then
      cmp l' k ((y.set (qa y) ((qa y+1+m:Nat):Int)).set (qa y+1+m) ((qa y:Nat):Int)) b (c+gC l' (qa y) (qa y+1+m)) else []:=by
      unfold brO;rw[qaj hj]
    have eno:(!(y[qa y+1+m] == -1) || !(cntO l' (qa y) (qa y+1+m)==0)) = !((y[qa y+1+m] == -1)&&(cntO l' (qa y) (qa y+1+m)==0)):=by rw[Bool.not_and]
    rw[eno]
    cases hc:(y[qa y+1+m] == -1)&&(cntO l' (qa y) (qa y+1+m)==0) with
    | false =>
      rw[hc] at ebr;simp only[cond_false] at ebr;simp only[Bool.not_false,cond_true,Option.bind_some];rw[ebr,List.append_nil]
    | true =>
      rw[hc] at ebr;simp only[cond_true] at ebr;simp only[Bool.and_eq_true,beq_iff_eq] at hc;have hat2:at? l' (((qa y+1+m:Nat):Int))=some (l'[qa y+1+m]'(by omega)):=by
        rw[at?_eq l' _ (by omega) (by omega)];simp only[Int.toNat_natCast]
      have h4:inb ((qa y:Nat):Int) (y.map (encO l'.length)).length=true:=by rw[qt,List.length_map];omega
      have h5:inb (((qa y+1+m:Nat):Int)) ((y.map (encO l'.length)).set (qa y) (((qa y+1+m:Nat):Int))).length=true:=by rw[qt,List.length_set,List.length_map];omega
      simp only[Bool.not_true,cond_false,hat2,Option.bind_some,h4,h5,qj];obtain⟨f1,f2⟩:=qcb hg hi (j:=qa y+1+m) (by omega) hj hc.1;obtain⟨g1,g2,g3⟩:=qhA hf (i:=qa y) (j:=qa y+1+m) (by omega) (by omega);obtain⟨c1,c2⟩:=cost_w hf (i:=qa y) (j:=qa y+1+m) hib (by omega);rw[c1,c2,qi (n:=c+100*((scO l' (qa y)-scO l' (qa y+1+m))*(scO l' (qa y)-scO l' (qa y+1+m)))) (by omega) (by omega),qi (by omega) (by omega),Int.add_assoc,←g3];have es:((y.map (encO l'.length)).set (qa y) (((qa y+1+m:Nat):Int))).set (qa y+1+m) ((qa y:Nat):Int)=((y.set (qa y) (((qa y+1+m:Nat):Int))).set (qa y+1+m) ((qa y:Nat):Int)).map (encO l'.length):=by
        conv=>lhs;rw[←encj (qa y+1+m) (by omega),qdF,←encj (qa y) hib,qdF]
      rw[es];obtain⟨y',hy'⟩:∃y',(y.set (qa y) (((qa y+1+m:Nat):Int))).set (qa y+1+m) ((qa y:Nat):Int)=y':=⟨_,rfl⟩;rw[hy'] at f1 f2 ebr ⊢;have efu:cmp l' (freeN y') y' b (c+gC l' (qa y) (qa y+1+m))=cmp l' k y' b (c+gC l' (qa y) (qa y+1+m)):=qei _ _ _ _ _ f2 (Nat.le_refl _) (by omega)
      rw[hφ (y'.map (encO l'.length),(out++((List.range m).flatMap (brO l' k y b c)).map (wrO l'.length),()),l',c+gC l' (qa y) (qa y+1+m),off,()) ⟨rfl,⟨y',f2,rfl⟩,by simp only;omega,by simp only;rw[qbc f2];omega,by
        simp only;rw[qbc f2,hb,efu,←ebr,List.length_append,List.length_map]
        omega⟩ (by simp only;rw[qbc f2];omega)]
      unfold qfB;simp only[Option.bind_some];rw[qbc f2,hb,efu,←ebr]
      have h6:inb ((qa y:Nat):Int) (y'.map (encO l'.length)).length=true:=by rw[qt,List.length_map,←hy',List.length_set,List.length_set];omega
      have h7:inb (((qa y+1+m:Nat):Int)) ((y'.map (encO l'.length)).set (qa y) (-2)).length=true:=by rw[qt,List.length_set,List.length_map,←hy',List.length_set,List.length_set];omega
      simp only[h6,h7,qj,Option.bind_some];have er:((y'.map (encO l'.length)).set (qa y) (-2)).set (qa y+1+m) (-2)=y.map (encO l'.length):=by
        rw[←encf,qdF,qdF,←hy',reset2 hi hj (by omega) hyi hc.1]
      rw[er,List.map_append,List.append_assoc]
  have hloop:=qx (f:=qo l' ((((qa y:Nat):Int),()),()) φ c off) (l'.length-(qa y+1))
    (fun m=>((out++((List.range m).flatMap (brO l' k y b c)).map (wrO l'.length),(((qa y+1+m:Nat):Int)),()),(y.map (encO l'.length),())))
    ((out++((List.range (l'.length-(qa y+1))).flatMap (brO l' k y b c)).map (wrO l'.length),()),(y.map (encO l'.length),()))
    hstep (by
      unfold qo
      have:¬(((qa y+1+(l'.length-(qa y+1)):Nat):Int))<((l'.length:Nat):Int):=by omega
      simp only[this,decide_false,cond_false])
  have ew1:w64 (((qa y:Nat):Int)+1)=((qa y+1+0:Nat):Int):=by rw[qi (by omega) (by omega)];omega
  simp only[List.range_zero,List.flatMap_nil,List.map_nil,List.append_nil] at hloop;rw[ew1,hloop];simp only[Option.bind_some];obtain⟨_,_,r3,_,r5⟩:=rngO hf hib;rw[List.map_append,←List.append_assoc];obtain⟨o2,ho2⟩:∃o2,out++((List.range (l'.length-(qa y+1))).flatMap (brO l' k y b c)).map (wrO l'.length)=o2:=⟨_,rfl⟩
  have ho2l:o2.length+(byeO l' k y b c).length≤1000000000:=by rw[←ho2,List.length_append,List.length_map];omega
  rw[ho2];unfold byeO at ho2l ⊢
  cases hbb:b with
  | false=>simp only[gat,cond_false,Bool.false_and,Option.bind_some,List.map_nil,List.append_nil]
  | true =>
    rw[hbb] at ho2l hb;simp only[gat,cond_true,Bool.true_and,hat,Option.bind_some] at ho2l ⊢;rw[←r5]
    cases hby:byO l' (qa y) with
    | true=>simp only[Bool.not_true,cond_false,Option.bind_some,List.map_nil,List.append_nil]
    | false =>
      rw[hby] at ho2l
      have h4:inb ((qa y:Nat):Int) (y.map (encO l'.length)).length=true:=by rw[qt,List.length_map];omega
      simp only[Bool.not_false,cond_true,h4,qj,Option.bind_some,Int.toNat_natCast] at ho2l ⊢;obtain⟨f1,f2⟩:=qem hg hi hyl.symm;obtain⟨b1,b2⟩:=bC_rng hf hib;rw[b2,qi (n:=c+bC l' (qa y)) (by omega) (by omega)];have es:(y.map (encO l'.length)).set (qa y) (-1)=(y.set (qa y) ((l'.length:Nat):Int)).map (encO l'.length):=by
        rw[←qdF,encn]
      rw[es];obtain⟨y',hy'⟩:∃y',y.set (qa y) ((l'.length:Nat):Int)=y':=⟨_,rfl⟩;rw[hy'] at f1 f2 ho2l ⊢;have efu:cmp l' (freeN y') y' false (c+bC l' (qa y))=cmp l' k y' false (c+bC l' (qa y)):=qei _ _ _ _ _ f2 (Nat.le_refl _) (by omega)
      have hal:qev l' true=false:=by unfold qev;simp
      rw[hφ (y'.map (encO l'.length),(o2,()),l',c+bC l' (qa y),true,()) ⟨rfl,⟨y',f2,rfl⟩,by simp only;omega,by simp only;rw[qbc f2];omega,by
        simp only;rw[qbc f2,hal,efu]
        omega⟩ (by simp only;rw[qbc f2];omega)]
      unfold qfB;simp only[Option.bind_some];rw[qbc f2,hal,efu]
      have h6:inb ((qa y:Nat):Int) (y'.map (encO l'.length)).length=true:=by rw[qt,List.length_map,←hy',List.length_set];omega
      simp only[h6,qj,Option.bind_some];have er:(y'.map (encO l'.length)).set (qa y) (-2)=y.map (encO l'.length):=by
        rw[←encf,qdF,←hy',reset1 hi hyi]
      rw[er]
end Go.Proofs.Ytcifaoaepbidoaa
