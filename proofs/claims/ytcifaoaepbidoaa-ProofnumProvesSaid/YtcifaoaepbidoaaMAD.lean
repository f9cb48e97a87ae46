/- Several texts in one: DenD, DenE, DenF, DenG, Tabs, MSortS, CoreS, SearchS. -/
import Derived.Test.YtcifaoaepbidoaaDenC
import Derived.Test.YtcifaoaepbidoaaMAA
namespace Go.Den
open Go.Eng
set_option linter.unusedVariables false
set_option linter.unusedSectionVars false
set_option linter.unusedSimpArgs false
variable [CT : Ctx]

theorem listed_spec {o:Nat}:∀ {l:List (Nat×Option OTy)},listed o l=true↔o∈l.map Prod.fst
  | []=>by simp[listed]
  | (p,q)::r=>by
    simp only[listed,Bool.or_eq_true,List.map_cons,List.mem_cons,listed_spec (l:=r)];constructor
    · rintro (h | h)
      · exact .inl (Nat.eq_of_beq_eq_true h).symm
      · exact .inr h
    · rintro (rfl | h)
      · exact .inl (by simp)
      · exact .inr h
theorem qaC {o:Nat}:∀ {l:List (Nat×Option OTy)},qaq o l=true→listed o l=true
  | (p,none)::r,h=>by
    simp only[qaq,Bool.or_eq_true] at h;simp only[listed,Bool.or_eq_true];exact h.imp id qaC
  | (p,some _)::r,h=>by
    simp only[qaq] at h;simp only[listed,Bool.or_eq_true];exact .inr (qaC h)

section
variable {F : Fr} {n0 : Nat} {objs' : List OB} {γ' : Gh} {w' : World} {T : Sp}

theorem qax:∀(l:List (Nat×Option OTy)) (y:DL (tysO l)) (base:List OB),base.length≤(concO l y base).length
  | [],_,base=>Nat.le_refl _
  | (o,none)::r,y,base=>by
    have:=qax r y (base.set o .dead);simpa[concO] using this
  | (o,some (.box τ))::r,y,base=>by
    have:=qax r y.2 (base.set o (.box (cc τ y.1 base.length).1)++(cc τ y.1 base.length).2);simp only[List.length_append,List.length_set] at this;simp only[concO];omega
  | (o,some (.arr i e))::r,y,base=>by
    have:=qax r y.2 (base.set o (.arr i e y.1 false));simpa[concO] using this
  | (o,some (.mp k v))::r,y,base=>by
    have:=qax r y.2 (base.set o (.mp k v y.1));simpa[concO] using this
  | (o,some (.bld t i))::r,y,base=>by
    have:=qax r y.2 (base.set o (.bld t (.os base.length))++(cc (.osl i (.int .u8)) y.1 base.length).2);simp only[List.length_append,List.length_set] at this;simp only[concO];omega
  | (o,some (.ar t p ow))::r,y,base=>by
    have:=qax r y.2 (base.set o .dead++[.ar t p ow y.1 none]);simp only[List.length_append,List.length_set] at this;simp only[concO];omega
theorem qA:∀(l:List (Nat×Option OTy)) (y:DL (tysO l)) (base:List OB) (o:Nat),o<base.length→listed o l=false→(concO l y base)[o]?=base[o]?
  | [],_,base,o,_,_=>rfl
  | (p,none)::r,y,base,o,ho,hl=>by
    simp only[listed,Bool.or_eq_false_iff] at hl
    have hne:p≠o:=fun e=>by subst e;simp at hl
    simp only[concO];rw[qA r y (base.set p .dead) o (by simpa using ho) hl.2,ql hne]
  | (p,some (.box τ))::r,y,base,o,ho,hl=>by
    simp only[listed,Bool.or_eq_false_iff] at hl
    have hne:p≠o:=fun e=>by subst e;simp at hl
    simp only[concO];rw[qA r y.2 _ o (by simp;omega) hl.2,List.getElem?_append_left (by simpa using ho),ql hne]
  | (p,some (.arr i e))::r,y,base,o,ho,hl=>by
    simp only[listed,Bool.or_eq_false_iff] at hl
    have hne:p≠o:=fun e=>by subst e;simp at hl
    simp only[concO];rw[qA r y.2 (base.set p (.arr i e y.1 false)) o (by simpa using ho) hl.2,ql hne]
  | (p,some (.mp k v))::r,y,base,o,ho,hl=>by
    simp only[listed,Bool.or_eq_false_iff] at hl
    have hne:p≠o:=fun e=>by subst e;simp at hl
    simp only[concO];rw[qA r y.2 (base.set p (.mp k v y.1)) o (by simpa using ho) hl.2,ql hne]
  | (p,some (.bld t i))::r,y,base,o,ho,hl=>by
    simp only[listed,Bool.or_eq_false_iff] at hl
    have hne:p≠o:=fun e=>by subst e;simp at hl
    simp only[concO];rw[qA r y.2 _ o (by simp;omega) hl.2,List.getElem?_append_left (by simpa using ho),ql hne]
  | (p,some (.ar t q ow))::r,y,base,o,ho,hl=>by
    simp only[listed,Bool.or_eq_false_iff] at hl
    have hne:p≠o:=fun e=>by subst e;simp at hl
    simp only[concO];rw[qA r y.2 _ o (by simp;omega) hl.2,List.getElem?_append_left (by simpa using ho),ql hne]
theorem qbY (r:ORel F objs' γ' w') (hT:Sp.le (Imm objs' γ' w') T):∀(l:List (Nat×Option OTy)) {y:DL (tysO l)} (base:List OB),absO objs' l=some y→(l.map Prod.fst).Nodup→(∀q∈l,q.1<n0)→n0≤base.length →
    (∀o∈qH (idsD objs') objs' l,∀b,(γ' o).2=some b→T b) →
    ∃gs:List (Value×Option Nat),(concO l y base).length=base.length+gs.length∧gs.flatMap (fun g=>g.2.toList)=blocks γ' (qH (idsO objs') objs' l)∧(∀o∈qH (idsO objs') objs' l,Mut objs' o) ∧
      (∀q∈l,Mut (concO l y base) q.1→Mut objs' q.1∧qaq q.1 l=false)∧(∀q∈l,(∀i (e:Ty) (xs:List (D e)),(concO l y base)[q.1]?≠some (.arr i e xs true))∧∀ob,(concO l y base)[q.1]?=some ob→isAr ob=false) ∧
      ∀(OF:List OB) (γF:Gh),(∀o,o<(concO l y base).length→OF[o]?=(concO l y base)[o]?)→Sp.le T (Imm OF γF w')→(γF.m=γ'.m∧γF.B=γ'.B∧∀o x,n0≤o→γF.kc o x=γ'.kc ((arOf objs').getD 0) x)→(∀o,o<n0→γF o=γ' o)→(∀j g,gs[j]?=some g→γF (base.length+j)=g)→(concO l y base).length≤OF.length →
        (∀q∈l,∀ob,OF[q.1]?=some ob→ObR OF γF w' ob (γF q.1))∧(∀o ob,base.length≤o→o<(concO l y base).length→OF[o]?=some ob→ObR OF γF w' ob (γF o)∧(mutOb ob=true∨isAr ob=true)∧(∀t p ow xs lent,ob = .ar t p ow xs lent→ArO OF γF w' o t p ow xs lent))
  | [],y,base,_,_,_,_,_=>⟨[],by simp[concO],by simp[qH,blocks],fun o ho=>(by simp[qH] at ho),fun q hq=>(by cases hq),fun q hq=>(by cases hq),fun OF γF _ _ _ _ _ _=>⟨fun q hq=>(by cases hq),fun o ob h1 h2=>(by simp[concO] at h2;omega)⟩⟩
  | (p,none)::l,y,base,h,hnd,hlt,hb,hids=>by
    simp only[absO] at h;simp only[List.map_cons,List.nodup_cons] at hnd;have hpl:listed p l=false:=Bool.eq_false_iff.2 fun hh=>hnd.1 (listed_spec.1 hh);have hp:=hlt (p,none) List.mem_cons_self;obtain⟨gs,g1,g2,g3,g4,g4b,g5⟩:=qbY r hT l (base.set p .dead) h hnd.2 (fun q hq=>hlt q (List.mem_cons_of_mem _ hq)) (by simpa using hb) (fun o ho=>hids o (by simpa[qH] using ho));have hpe:(concO l y (base.set p .dead))[p]?=some .dead:=by
      rw[qA l y _ p (by simp;simp at hp;omega) hpl,List.getElem?_set_self (by simp at hp;omega)]
    refine⟨gs,by simpa[concO] using g1,by simpa[qH] using g2,fun o ho=>g3 o (by simpa[qH] using ho),fun q hq hm=>?_,fun q hq=>?_,fun OF γF e1 e2 eg e3 e4 e5=>?_⟩
    · rcases List.mem_cons.1 hq with rfl | hq
      · obtain⟨ob,h1,h2⟩:=hm;simp only[concO] at h1;rw[hpe] at h1;cases h1;cases h2
      · obtain⟨h1,h2⟩:=g4 q hq hm;refine⟨h1,?_⟩;simp only[qaq,Bool.or_eq_false_iff];refine⟨Bool.eq_false_iff.2 fun hh=>?_,h2⟩;have:=Nat.eq_of_beq_eq_true hh;exact hnd.1 (this▸List.mem_map_of_mem hq)
    · rcases List.mem_cons.1 hq with rfl | hq
      · simp only[concO];rw[hpe];exact⟨by simp,fun ob h=>by cases h;rfl⟩
      · exact g4b q hq
    · obtain⟨f1,f2⟩:=g5 OF γF e1 e2 eg e3 (by simpa using e4) e5;refine⟨fun q hq ob hob=>?_,fun o ob h1 h2=>f2 o ob (by simpa using h1) h2⟩;rcases List.mem_cons.1 hq with rfl | hq
      · have hlen:=qax l y (base.set p .dead);rw[e1 p (by simp only[concO];simp at hlen hp;omega)] at hob;simp only[concO] at hob;rw[hpe] at hob;cases hob;trivial
      · exact f1 q hq ob hob
  | (p,some (.mp kt vt))::l,y,base,h,hnd,hlt,hb,hids=>by
    simp only[absO,Option.bind_eq_some_iff] at h;obtain⟨ob,hob,h⟩:=h
    cases ob with
    | mp k' v' xs =>
        simp only[Option.bind_eq_some_iff] at h;obtain⟨x,hx,y2,hy,hyy⟩:=h;have hyy:(x,y2)=y:=Option.some.inj hyy;subst hyy;obtain⟨rfl,rfl,hx⟩:=qfv hx;subst hx;simp only[List.map_cons,List.nodup_cons] at hnd;have hpl:listed p l=false:=Bool.eq_false_iff.2 fun hh=>hnd.1 (listed_spec.1 hh);have hp:=hlt (p,some (.mp k' v')) List.mem_cons_self;obtain⟨gs,g1,g2,g3,g4,g4b,g5⟩:=qbY r hT l (base.set p (.mp k' v' x)) hy hnd.2 (fun q hq=>hlt q (List.mem_cons_of_mem _ hq)) (by simpa using hb) (fun o ho=>hids o (by simpa[qH] using ho));have hpe:(concO l y2 (base.set p (.mp k' v' x)))[p]?=some (.mp k' v' x):=by
          rw[qA l y2 _ p (by simp;simp at hp;omega) hpl,List.getElem?_set_self (by simp at hp;omega)]
        refine⟨gs,by simpa[concO] using g1,by simpa[qH] using g2,fun o ho=>g3 o (by simpa[qH] using ho),fun q hq hm=>?_,fun q hq=>?_,fun OF γF e1 e2 eg e3 e4 e5=>?_⟩
        · rcases List.mem_cons.1 hq with rfl | hq
          · refine⟨⟨_,hob,rfl⟩,?_⟩;simp only[qaq]
            exact Bool.eq_false_iff.2 fun hh=>by rw[qaC hh] at hpl;cases hpl
          · obtain⟨h1,h2⟩:=g4 q hq hm;exact⟨h1,by simpa[qaq] using h2⟩
        · rcases List.mem_cons.1 hq with rfl | hq
          · simp only[concO];rw[hpe];exact⟨by simp,fun ob h=>by cases h;rfl⟩
          · exact g4b q hq
        · obtain⟨f1,f2⟩:=g5 OF γF e1 e2 eg e3 (by simpa using e4) e5;refine⟨fun q hq ob' hob'=>?_,fun o ob h1 h2=>f2 o ob (by simpa using h1) h2⟩;rcases List.mem_cons.1 hq with rfl | hq
          · have hlen:=qax l y2 (base.set p (.mp k' v' x));rw[e1 p (by simp only[concO];simp at hlen hp;omega)] at hob';simp only[concO] at hob';rw[hpe] at hob';cases hob';have h6:=r.rep p _ hob;rw[e3 p hp];exact h6
          · exact f1 q hq ob' hob'
    | _=>simp at h
  | (p,some (.arr i e))::l,y,base,h,hnd,hlt,hb,hids=>by
    simp only[absO,Option.bind_eq_some_iff] at h;obtain⟨ob,hob,h⟩:=h
    cases ob with
    | arr i' e' xs fz =>
      cases fz with
      | true=>simp at h
      | false =>
        simp only[chk_some,Option.bind_eq_some_iff] at h;obtain⟨hi,x,hx,y2,hy,hyy⟩:=h;have hyy:(x,y2)=y:=Option.some.inj hyy;subst hyy;have hi:=Nat.eq_of_beq_eq_true hi;subst hi;obtain⟨rfl,hx⟩:=qX hx;subst hx;simp only[List.map_cons,List.nodup_cons] at hnd;have hpl:listed p l=false:=Bool.eq_false_iff.2 fun hh=>hnd.1 (listed_spec.1 hh);have hp:=hlt (p,some (.arr i e')) List.mem_cons_self;obtain⟨gs,g1,g2,g3,g4,g4b,g5⟩:=qbY r hT l (base.set p (.arr i e' xs false)) hy hnd.2 (fun q hq=>hlt q (List.mem_cons_of_mem _ hq)) (by simpa using hb) (fun o ho=>hids o (by simpa[qH] using ho));have hpe:(concO l y2 (base.set p (.arr i e' xs false)))[p]?=some (.arr i e' xs false):=by
          rw[qA l y2 _ p (by simp;simp at hp;omega) hpl,List.getElem?_set_self (by simp at hp;omega)]
        refine⟨gs,by simpa[concO] using g1,by simpa[qH] using g2,fun o ho=>g3 o (by simpa[qH] using ho),fun q hq hm=>?_,fun q hq=>?_,fun OF γF e1 e2 eg e3 e4 e5=>?_⟩
        · rcases List.mem_cons.1 hq with rfl | hq
          · refine⟨⟨_,hob,rfl⟩,?_⟩;simp only[qaq]
            exact Bool.eq_false_iff.2 fun hh=>by rw[qaC hh] at hpl;cases hpl
          · obtain⟨h1,h2⟩:=g4 q hq hm;exact⟨h1,by simpa[qaq] using h2⟩
        · rcases List.mem_cons.1 hq with rfl | hq
          · simp only[concO];rw[hpe];exact⟨by simp,fun ob h=>by cases h;rfl⟩
          · exact g4b q hq
        · obtain⟨f1,f2⟩:=g5 OF γF e1 e2 eg e3 (by simpa using e4) e5;refine⟨fun q hq ob' hob'=>?_,fun o ob h1 h2=>f2 o ob (by simpa using h1) h2⟩;rcases List.mem_cons.1 hq with rfl | hq
          · have hlen:=qax l y2 (base.set p (.arr i e' xs false));rw[e1 p (by simp only[concO];simp at hlen hp;omega)] at hob';simp only[concO] at hob';rw[hpe] at hob';cases hob';obtain⟨us,h6,h7⟩:=r.rep p _ hob;rw[e3 p hp];exact⟨us,h6,h7.mono fun x c hx=>Rep.mono (hT.trans e2) (fun _ _=>rfl) _ hx (by simp)⟩
          · exact f1 q hq ob' hob'
    | _=>simp at h
  | (p,some (.box τ))::l,y,base,h,hnd,hlt,hb,hids=>by
    simp only[absO,Option.bind_eq_some_iff] at h;obtain⟨ob,hob,h⟩:=h
    cases ob with
    | box cs =>
      simp only[Option.bind_eq_some_iff] at h;obtain⟨x,hx,y2,hy,hyy⟩:=h;have hyy:(x,y2)=y:=Option.some.inj hyy;subst hyy;simp only[List.map_cons,List.nodup_cons] at hnd;have hpl:listed p l=false:=Bool.eq_false_iff.2 fun hh=>hnd.1 (listed_spec.1 hh);have hp:p<n0:=hlt (p,some (.box τ)) List.mem_cons_self;obtain⟨b,Tt,cells,hg,hheap,hvl⟩:=r.rep p _ hob;have hids1:∀o∈idsD objs' τ cs,∀b,(γ' o).2=some b→T b:=fun o ho=>hids o (by simp only[qH,hob,List.mem_append];exact .inl ho);obtain⟨hrep,hmo⟩:=qS (S:=T) r hT τ hx hvl hids1;obtain⟨gs0,c1,c2,c3⟩:=qbU τ hrep base.length
      obtain⟨gs,g1,g2,g3,g4,g4b,g5⟩:=qbY r hT l (base.set p (.box (cc τ x base.length).1)++(cc τ x base.length).2) hy hnd.2 (fun q hq=>hlt q (List.mem_cons_of_mem _ hq)) (by simp;omega) (fun o ho=>hids o (by simp only[qH,hob,List.mem_append];exact .inr ho));have hpe:(concO l y2 (base.set p (.box (cc τ x base.length).1)++(cc τ x base.length).2))[p]?=some (.box (cc τ x base.length).1):=by
        rw[qA l y2 _ p (by simp;omega) hpl,List.getElem?_append_left (by simp;omega),List.getElem?_set_self (by omega)]
      have hlen0:(base.set p (.box (cc τ x base.length).1)++(cc τ x base.length).2).length=base.length+gs0.length:=by simp[c1]
      refine⟨gs0++gs,?_,?_,fun o ho=>?_,fun q hq hm=>?_,fun q hq=>?_,fun OF γF e1 e2 eg e3 e4 e5=>?_⟩
      · simp only[concO];rw[g1,hlen0,List.length_append,Nat.add_assoc]
      · rw[List.flatMap_append,←c2,g2];simp only[qH,hob,blocks,List.flatMap_append]
      · simp only[qH,hob,List.mem_append] at ho;exact ho.elim (hmo o) (g3 o)
      · rcases List.mem_cons.1 hq with rfl | hq
        · refine⟨⟨_,hob,rfl⟩,?_⟩;simp only[qaq]
          exact Bool.eq_false_iff.2 fun hh=>by rw[qaC hh] at hpl;cases hpl
        · obtain⟨h1,h2⟩:=g4 q hq hm;exact⟨h1,by simpa[qaq] using h2⟩
      · rcases List.mem_cons.1 hq with rfl | hq
        · simp only[concO];rw[hpe];exact⟨by simp,fun ob h=>by cases h;rfl⟩
        · exact g4b q hq
      · have hle:=qax l y2 (base.set p (.box (cc τ x base.length).1)++(cc τ x base.length).2);rw[hlen0] at hle;simp only[concO] at e1 e5;have c3':=c3 OF γF e2 (fun j g hj=>e4 j g (by rw[List.getElem?_append_left (qj hj)];exact hj)) (by omega)
        obtain⟨f1,f2⟩:=g5 OF γF e1 e2 eg e3 (fun j g hj=>by
          rw[hlen0,Nat.add_assoc]
          exact e4 (gs0.length+j) g (by rw[List.getElem?_append_right (by omega)];simpa using hj)) e5
        refine⟨fun q hq ob' hob'=>?_,fun o ob' h1 h2 h3=>?_⟩
        · rcases List.mem_cons.1 hq with rfl | hq
          · rw[e1 p (by omega),hpe] at hob';cases hob';rw[e3 p hp];exact⟨b,Tt,cells,hg,hheap,c3'.1⟩
          · exact f1 q hq ob' hob'
        · simp only[concO] at h2;by_cases ho:o<base.length+gs0.length
          · rw[e1 o h2,qA l y2 _ o (by rw[hlen0];exact ho) (Bool.eq_false_iff.2 fun hh=>by
              obtain⟨q,hq,rfl⟩:=List.mem_map.1 (listed_spec.1 hh);have:=hlt q (List.mem_cons_of_mem _ hq)
              omega),List.getElem?_append_right (by simpa using h1)] at h3
            simp only[List.length_set] at h3
            have hj:o-base.length<gs0.length:=by omega
            have e6:=e4 (o-base.length) gs0[o-base.length] (by rw[List.getElem?_append_left hj];exact List.getElem?_eq_getElem hj);rw[show base.length+(o-base.length)=o by omega] at e6;rw[e6];have h4:=c3'.2 (o-base.length) ob' _ h3 (List.getElem?_eq_getElem hj);exact⟨h4.1,.inl h4.2,fun t p ow xs lent e=>by rw[e] at h4;cases h4.2⟩
          · exact f2 o ob' (by rw[hlen0];omega) h2 h3
    | _=>simp at h
  | (p,some (.bld tb i))::l,y,base,h,hnd,hlt,hb,hids=>by
    simp only[absO,Option.bind_eq_some_iff] at h;obtain⟨ob,hob,h⟩:=h
    cases ob with
    | bld tb' c =>
      simp only[chk_some,Option.bind_eq_some_iff] at h;obtain⟨htt,x,hx,y2,hy,hyy⟩:=h;obtain rfl:=Nat.eq_of_beq_eq_true htt;have hyy:(x,y2)=y:=Option.some.inj hyy;subst hyy;simp only[List.map_cons,List.nodup_cons] at hnd;have hpl:listed p l=false:=Bool.eq_false_iff.2 fun hh=>hnd.1 (listed_spec.1 hh);have hp:p<n0:=hlt (p,some (.bld tb' i)) List.mem_cons_self;obtain⟨b,pp,vv,hg,hheap,hpp,hvc⟩:=r.rep p _ hob;have hvl:VRL objs' γ' w' [c] [vv]:=⟨vv,[],rfl,hvc,rfl⟩;have hids1:∀o∈idsD objs' (.osl i (.int .u8)) [c],∀b,(γ' o).2=some b→T b:=fun o ho=>hids o (by simp only[qH,hob,List.mem_append];exact .inl ho);obtain⟨hrep,hmo⟩:=qS (S:=T) r hT (.osl i (.int .u8)) hx hvl hids1;obtain⟨gs0,c1,c2,c3⟩:=qbU (.osl i (.int .u8)) hrep base.length
      obtain⟨gs,g1,g2,g3,g4,g4b,g5⟩:=qbY r hT l (base.set p (.bld tb' (.os base.length))++(cc (.osl i (.int .u8)) x base.length).2) hy hnd.2 (fun q hq=>hlt q (List.mem_cons_of_mem _ hq)) (by simp;omega) (fun o ho=>hids o (by simp only[qH,hob,List.mem_append];exact .inr ho));have hpe:(concO l y2 (base.set p (.bld tb' (.os base.length))++(cc (.osl i (.int .u8)) x base.length).2))[p]?=some (.bld tb' (.os base.length)):=by
        rw[qA l y2 _ p (by simp;omega) hpl,List.getElem?_append_left (by simp;omega),List.getElem?_set_self (by omega)]
      have hlen0:(base.set p (.bld tb' (.os base.length))++(cc (.osl i (.int .u8)) x base.length).2).length=base.length+gs0.length:=by simp[c1]
      refine⟨gs0++gs,?_,?_,fun o ho=>?_,fun q hq hm=>?_,fun q hq=>?_,fun OF γF e1 e2 eg e3 e4 e5=>?_⟩
      · simp only[concO];rw[g1,hlen0,List.length_append,Nat.add_assoc]
      · rw[List.flatMap_append,←c2,g2];simp only[qH,hob,blocks,List.flatMap_append]
      · simp only[qH,hob,List.mem_append] at ho;exact ho.elim (hmo o) (g3 o)
      · rcases List.mem_cons.1 hq with rfl | hq
        · refine⟨⟨_,hob,rfl⟩,?_⟩;simp only[qaq]
          exact Bool.eq_false_iff.2 fun hh=>by rw[qaC hh] at hpl;cases hpl
        · obtain⟨h1,h2⟩:=g4 q hq hm;exact⟨h1,by simpa[qaq] using h2⟩
      · rcases List.mem_cons.1 hq with rfl | hq
        · simp only[concO];rw[hpe];exact⟨by simp,fun ob h=>by cases h;rfl⟩
        · exact g4b q hq
      · have hle:=qax l y2 (base.set p (.bld tb' (.os base.length))++(cc (.osl i (.int .u8)) x base.length).2);rw[hlen0] at hle;simp only[concO] at e1 e5;have c3':=c3 OF γF e2 (fun j g hj=>e4 j g (by rw[List.getElem?_append_left (qj hj)];exact hj)) (by omega)
        obtain⟨f1,f2⟩:=g5 OF γF e1 e2 eg e3 (fun j g hj=>by
          rw[hlen0,Nat.add_assoc]
          exact e4 (gs0.length+j) g (by rw[List.getElem?_append_right (by omega)];simpa using hj)) e5
        refine⟨fun q hq ob' hob'=>?_,fun o ob' h1 h2 h3=>?_⟩
        · rcases List.mem_cons.1 hq with rfl | hq
          · rw[e1 p (by omega),hpe] at hob';cases hob';rw[e3 p hp];obtain⟨v1,q1,e7,e8,_⟩:=c3'.1;cases e7;exact⟨b,pp,_,hg,hheap,hpp,e8⟩
          · exact f1 q hq ob' hob'
        · simp only[concO] at h2;by_cases ho:o<base.length+gs0.length
          · rw[e1 o h2,qA l y2 _ o (by rw[hlen0];exact ho) (Bool.eq_false_iff.2 fun hh=>by
              obtain⟨q,hq,rfl⟩:=List.mem_map.1 (listed_spec.1 hh);have:=hlt q (List.mem_cons_of_mem _ hq)
              omega),List.getElem?_append_right (by simpa using h1)] at h3
            simp only[List.length_set] at h3
            have hj:o-base.length<gs0.length:=by omega
            have e6:=e4 (o-base.length) gs0[o-base.length] (by rw[List.getElem?_append_left hj];exact List.getElem?_eq_getElem hj);rw[show base.length+(o-base.length)=o by omega] at e6;rw[e6];have h4:=c3'.2 (o-base.length) ob' _ h3 (List.getElem?_eq_getElem hj);exact⟨h4.1,.inl h4.2,fun t p ow xs lent e=>by rw[e] at h4;cases h4.2⟩
          · exact f2 o ob' (by rw[hlen0];omega) h2 h3
    | _=>simp at h
  | (p,some (.ar tn q ow))::l,y,base,h,hnd,hlt,hb,hids=>by
    simp only[absO,Option.bind_eq_some_iff] at h;obtain⟨n,hn,ob,hob,h⟩:=h
    cases ob with
    | ar t' p' ow' xs lent =>
      simp only[chk_some,Option.bind_eq_some_iff,Bool.and_eq_true] at h;obtain⟨⟨h1,h2,h3⟩,x,hx,y2,hy,hyy⟩:=h;have hyy:(x,y2)=y:=Option.some.inj hyy;subst hyy;obtain rfl:=Nat.eq_of_beq_eq_true h1;obtain rfl:ow'=ow:=by
        cases ow<;>cases ow'<;>first | rfl | cases h2 | skip
        rw[Nat.eq_of_beq_eq_true h2]
      cases lent with
      | some _=>cases h3
      | none =>
      unfold castE at hx;split at hx
      rotate_left
      · cases hx
      rename_i e;subst e;cases hx;simp only[List.map_cons,List.nodup_cons] at hnd;have hpl:listed p l=false:=Bool.eq_false_iff.2 fun hh=>hnd.1 (listed_spec.1 hh);have hp:p<n0:=hlt (p,some (.ar t' p' ow')) List.mem_cons_self;obtain⟨gs,g1,g2,g3,g4,g4b,g5⟩:=qbY r hT l (base.set p .dead++[.ar t' p' ow' xs none]) hy hnd.2 (fun q hq=>hlt q (List.mem_cons_of_mem _ hq)) (by simp;omega) (fun o ho=>hids o (by simpa[qH] using ho));have hpe:(concO l y2 (base.set p .dead++[.ar t' p' ow' xs none]))[p]?=some .dead:=by
        rw[qA l y2 _ p (by simp;omega) hpl,List.getElem?_append_left (by simp;omega),List.getElem?_set_self (by omega)]
      have hlen0:(base.set p .dead++[OB.ar t' p' ow' xs none]).length=base.length+1:=by simp
      refine⟨(undef,none)::gs,?_,?_,fun o ho=>?_,fun q hq hm=>?_,fun q hq=>?_,fun OF γF e1 e2 eg e3 e4 e5=>?_⟩
      · simp only[concO];rw[g1,hlen0,List.length_cons];omega
      · rw[List.flatMap_cons,g2];simp only[qH,Option.toList,List.nil_append]
      · exact g3 o (by simpa[qH] using ho)
      · rcases List.mem_cons.1 hq with rfl | hq
        · obtain⟨ob,h1,h2⟩:=hm;simp only[concO] at h1;rw[hpe] at h1;cases h1;cases h2
        · obtain⟨h1,h2⟩:=g4 q hq hm;exact⟨h1,by simpa[qaq] using h2⟩
      · rcases List.mem_cons.1 hq with rfl | hq
        · simp only[concO];rw[hpe];exact⟨by simp,fun ob h=>by cases h;rfl⟩
        · exact g4b q hq
      · have hle:=qax l y2 (base.set p .dead++[.ar t' p' ow' xs none]);rw[hlen0] at hle;simp only[concO] at e1 e5
        obtain⟨f1,f2⟩:=g5 OF γF e1 e2 eg e3 (fun j g hj=>by
          rw[hlen0,Nat.add_assoc]
          exact e4 (1+j) g (by rw[Nat.add_comm 1 j];simpa using hj)) e5
        refine⟨fun q hq ob' hob'=>?_,fun o ob' h1 h2 h3=>?_⟩
        · rcases List.mem_cons.1 hq with rfl | hq
          · rw[e1 p (by omega),hpe] at hob';cases hob';trivial
          · exact f1 q hq ob' hob'
        · simp only[concO] at h2;by_cases ho:o<base.length+1
          · have ho:o=base.length:=by omega
            subst ho
            rw[e1 _ h2,qA l y2 _ _ (by rw[hlen0];exact Nat.lt_succ_self _) (Bool.eq_false_iff.2 fun hh=>by
              obtain⟨q,hq,hqe⟩:=List.mem_map.1 (listed_spec.1 hh);have:=hlt q (List.mem_cons_of_mem _ hq)
              omega),List.getElem?_append_right (by simp)] at h3
            simp only[List.length_set,Nat.sub_self,List.getElem?_cons_zero,Option.some.injEq] at h3;subst h3;have e6:=e4 0 _ rfl;rw[Nat.add_zero] at e6;rw[e6];refine⟨rfl,.inr rfl,fun t2 p2 w2 x2 l2 e=>?_⟩;cases e;obtain⟨ls,hs,k1,k2,k3,k4⟩:=r.ar n _ _ _ _ _ hob;obtain⟨m1,m2,m3⟩:=eg
            have m4:∀x,γF.kc base.length x=γ'.kc n x:=fun x=>by rw[m3 _ _ hb,hn];rfl
            exact⟨ls,hs,k1.mono (hT.trans e2) m1 (fun _ _=>rfl) (fun _ _=>rfl),fun k hk=>by rw[m2];exact k2 k hk,fun i v hv=>by rw[m4];exact k3 i v hv,fun x hx=>by rw[m4];exact k4 x hx⟩
          · exact f2 o ob' (by rw[hlen0];omega) h2 h3
    | _=>simp at h

theorem qeI:∀(l:List (Nat×Ty)) (x:DL (tysS l)) (σ:AState),σ.objs.length≤(concS l x σ).objs.length∧(∀o,o<σ.objs.length→(concS l x σ).objs[o]?=σ.objs[o]?)∧(concS l x σ).n=σ.n∧(concS l x σ).prS=σ.prS∧(concS l x σ).prO=σ.prO∧(concS l x σ).gs=σ.gs∧(concS l x σ).known=σ.known∧∀t,(∀q∈l,q.1≠t)→get (concS l x σ).slots t=get σ.slots t
  | [],_,σ=>⟨Nat.le_refl _,fun _ _=>rfl,rfl,rfl,rfl,rfl,rfl,fun _ _=>rfl⟩
  | (t,τ)::r,x,σ=>by
    simp only[concS];obtain⟨h1,h2,h3,h4,h5,h6,h7,h8⟩:=qeI r x.2 { σ with slots:=(t,some ([],qbJ τ.isAgg (cc τ x.1 σ.objs.length).1))::σ.slots,objs:=σ.objs++(cc τ x.1 σ.objs.length).2 };simp only[List.length_append] at h1;refine⟨by omega,fun o ho=>?_,h3,h4,h5,h6,h7,fun t' ht'=>?_⟩
    · rw[h2 o (by simp;omega)];simp only;rw[List.getElem?_append_left ho]
    · rw[h8 t' fun q hq=>ht' q (List.mem_cons_of_mem _ hq)];simp only;rw[qab,if_neg (ht' (t,τ) List.mem_cons_self)]
theorem qkd {σ':AState} {a':Act} (r':Rel F σ' γ' a' w') (hT:Sp.le (Imm σ'.objs γ' w') T):∀(l:List (Nat×Ty)) {x:DL (tysS l)} (σ1:AState),absS σ'.objs σ'.slots l=some x →
    (∀o∈qaL (idsD σ'.objs) σ'.slots l,∀b,(γ' o).2=some b→T b) →
    ∃gs:List (Value×Option Nat),(concS l x σ1).objs.length=σ1.objs.length+gs.length∧gs.flatMap (fun g=>g.2.toList)=blocks γ' (qaL (idsO σ'.objs) σ'.slots l)∧(∀o∈qaL (idsO σ'.objs) σ'.slots l,Mut σ'.objs o) ∧
      ∀(γF:Gh),Sp.le T (Imm (concS l x σ1).objs γF w')→(∀j g,gs[j]?=some g→γF (σ1.objs.length+j)=g) →
        ∀(OF:List OB),OF=(concS l x σ1).objs →
        (∀t tg pv,get (concS l x σ1).slots t=some (tg,pv)→get σ1.slots t=some (tg,pv)∨(tg=[]∧∃v,a'.tmps[t]?=some v∧PR OF γF w' pv v)) ∧
        (∀o ob,σ1.objs.length≤o→OF[o]?=some ob→ObR OF γF w' ob (γF o)∧mutOb ob=true)
  | [],x,σ1,h,_=>⟨[],by simp[concS],by simp[qaL,blocks],fun o ho=>by simp[qaL] at ho,fun γF _ _ OF hOF=>⟨fun t tg pv hg => .inl hg,fun o ob h1 h2=>by subst hOF;have:=qj h2;simp only[concS] at this;omega⟩⟩
  | (t,τ)::l,x,σ1,h,hids=>by
    simp only[absS,Option.bind_eq_some_iff,chk_some] at h;obtain⟨⟨tg,pv⟩,h1,h2,cs,h3,h4,x1,h5,x2,h6,hx⟩:=h;have hx:(x1,x2)=x:=Option.some.inj hx;subst hx
    have htg:tg=[]:=by simpa using h2
    subst htg;obtain⟨v,hv,hp⟩:=r'.slots t [] pv h1 (qf _);have hvl:=qaz h3 hp
    have hidd:(((get σ'.slots t).bind fun e=>qas e.2).elim [] (idsD σ'.objs τ))=idsD σ'.objs τ cs:=by simp only[h1,Option.bind_some,h3,Option.elim_some]
    have hido:(((get σ'.slots t).bind fun e=>qas e.2).elim [] (idsO σ'.objs τ))=idsO σ'.objs τ cs:=by simp only[h1,Option.bind_some,h3,Option.elim_some]
    obtain⟨hrep,hmo⟩:=qS (S:=T) r'.o hT τ h5 hvl (fun o ho=>hids o (by simp only[qaL,hidd,List.mem_append];exact .inl ho));obtain⟨gs0,c1,c2,c3⟩:=qbU τ hrep σ1.objs.length;obtain⟨gs,g1,g2,g3,g5⟩:=qkd r' hT l { σ1 with slots:=(t,some ([],qbJ τ.isAgg (cc τ x1 σ1.objs.length).1))::σ1.slots,objs:=σ1.objs++(cc τ x1 σ1.objs.length).2 } h6 (fun o ho=>hids o (by simp only[qaL,hidd,List.mem_append];exact .inr ho));have hcl:=qeI l x2 { σ1 with slots:=(t,some ([],qbJ τ.isAgg (cc τ x1 σ1.objs.length).1))::σ1.slots,objs:=σ1.objs++(cc τ x1 σ1.objs.length).2 };simp only[List.length_append,←c1] at g1 g5 hcl;refine⟨gs0++gs,?_,?_,fun o ho=>?_,fun γF e2 e4 OF hOF=>?_⟩
    · simp only[concS];rw[g1,List.length_append,Nat.add_assoc]
    · rw[List.flatMap_append,←c2,g2];simp only[qaL,hido,blocks,List.flatMap_append]
    · simp only[qaL,hido,List.mem_append] at ho;exact ho.elim (hmo o) (g3 o)
    · simp only[concS] at e2 hOF ⊢;subst hOF;have c3':=c3 _ γF e2 (fun j g hj=>e4 j g (by rw[List.getElem?_append_left (qj hj)];exact hj)) (by omega)
      obtain⟨f1,f2⟩:=g5 γF e2 (fun j g hj=>by
        rw[Nat.add_assoc]
        exact e4 (gs0.length+j) g (by rw[List.getElem?_append_right (by omega)];simpa using hj)) _ rfl
      refine⟨fun t' tg' pv' hg=>?_,fun o ob h1' h2'=>?_⟩
      · rcases f1 t' tg' pv' hg with hg' | hg'
        · rw[qab] at hg';split at hg'
          · rename_i e;subst e;cases hg';refine .inr ⟨rfl,v,hv,?_⟩;have:=qaN (τ:=τ) (qc0 τ x1 σ1.objs.length) c3'.1;rw[←qi1 h3 h4 hp] at this;exact this
          · exact .inl hg'
        · exact .inr hg'
      · by_cases ho:o<σ1.objs.length+gs0.length
        · rw[hcl.2.1 o ho] at h2';rw[List.getElem?_append_right h1'] at h2'
          have hj:o-σ1.objs.length<gs0.length:=by omega
          have e6:=e4 (o-σ1.objs.length) gs0[o-σ1.objs.length] (by rw[List.getElem?_append_left hj];exact List.getElem?_eq_getElem hj);rw[show σ1.objs.length+(o-σ1.objs.length)=o by omega] at e6;rw[e6];exact c3'.2 _ ob _ h2' (List.getElem?_eq_getElem hj)
        · exact f2 o ob (by omega) h2'
end

theorem qmR {slots:Slots} {t:Nat} {e:Tag×PV}:∀ {l:List Nat},get (keepF slots l) t=some e→t∈l∧kf slots t=some e
  | [],h=>by simp[keepF,get] at h
  | u::l,h=>by
    simp only[keepF] at h;rw[qab] at h;split at h
    · rename_i e1;subst e1;exact⟨List.mem_cons_self,h⟩
    · obtain⟨h1,h2⟩:=qmR h;exact⟨List.mem_cons_of_mem _ h1,h2⟩
theorem qiQ {slots:Slots} {t:Nat}:∀ {l:List Nat},t∈l→get (keepF slots l) t=kf slots t
  | u::l,h=>by
    simp only[keepF];rw[qab];split
    · rename_i e1;subst e1;rfl
    · rename_i e1;rcases List.mem_cons.1 h with rfl | h
      · exact absurd rfl e1
      · exact qiQ h
theorem qf8 {slots:Slots} {t:Nat} {e:Tag×PV} (h:kf slots t=some e):get slots t=some e∧e.1=[]∧stable e.2=true:=by
  simp only[kf,Option.bind_eq_some_iff,chk_some,Bool.and_eq_true,Option.some.injEq] at h;obtain⟨e',h1,⟨h2,h3⟩,rfl⟩:=h;exact⟨h1,by simpa using h2,h3⟩
theorem kf_of {slots:Slots} {t:Nat} {e:Tag×PV} (h1:get slots t=some e) (h2:e.1=[]) (h3:stable e.2=true):kf slots t=some e:=by
  simp[kf,h1,h2,h3,chk]
theorem mask_bit {t:Nat}:∀ {l:List Nat},bitB (maskN l) t=true↔t∈l
  | []=>by
    rw[qeX];simp[maskN]
  | u::l=>by
    simp only[maskN];rw[qcq,qkt,Bool.or_eq_true,mask_bit (l:=l),List.mem_cons];simp only[decide_eq_true_eq];exact⟨fun h=>h.imp Eq.symm id,fun h=>h.imp Eq.symm id⟩
theorem qit {l:List (Nat×Option OTy)} {o:Nat}:∀ {n:Nat},o<n→listed o l=false→bitB (protO l n) o=true
  | n+1,h,hl=>by
    simp only[protO];by_cases e:o=n
    · subst e;rw[hl];exact qi9 _ _
    · have:=qit (n:=n) (by omega) hl;by_cases hn:listed n l=true
      · simp only[hn,cond_true];exact this
      · simp only[Bool.eq_false_iff.2 hn,cond_false];exact qdp this
def isDat:OB→Bool
  | .arr _ _ _ false=>true
  | .hr _ _ _ _ _ none=>true
  | _=>false
theorem qeR:∀ {ob:OB},isDat ob=true→mutOb ob=true
  | .arr _ _ _ false,_=>rfl
  | .hr _ _ _ _ _ none,_=>rfl
def DatO (objs:List OB) (o:Nat):Prop:=(∃i,∃e:Ty,∃xs:List (D e),objs[o]?=some (.arr i e xs true))∨∃ob,objs[o]?=some ob∧isDat ob=true
theorem ofSl_os {e:Ty} {objs:List OB} {o:Nat} {xs:List (D e)} (h:ofSl e objs (.os o)=some xs):DatO objs o:=by
  simp only[ofSl,Option.bind_eq_some_iff] at h;obtain⟨ob,hob,h3⟩:=h;split at h3
  · rename_i i e' xs fz
    cases fz with
    | true=>exact .inl ⟨i,e',xs,hob⟩
    | false=>exact .inr ⟨_,hob,rfl⟩
  · exact .inr ⟨_,hob,rfl⟩
  · cases h3
theorem qd4 {objs:List OB} {o:Nat}:∀(τ:Ty) {l:List Cv} {x:D τ},toD objs τ l=some x→o∈idsD objs τ l→DatO objs o
  | .int _,l,_,_,h=>by simp[idsD] at h
  | .bool,l,_,_,h=>by simp[idsD] at h
  | .str,l,_,_,h=>by simp[idsD] at h
  | .nil,l,_,_,h=>by simp[idsD] at h
  | .osl _ _,l,_,_,h=>by simp[idsD] at h
  | .onl _ _,l,_,_,h=>by simp[idsD] at h
  | .hrl _ _ _ _ _,l,_,_,h=>by simp[idsD] at h
  | .sl e,l,x,hx,h=>by
    obtain⟨c,h1,h2⟩:=Option.bind_eq_some_iff.1 hx;simp only[idsD,h1,Option.elim_some] at h;clear hx
    cases c with
    | os p =>
      have hop:o=p:=by simpa[osId] using h
      subst hop;exact ofSl_os h2
    | _=>simp[osId] at h
  | .obx e,l,x,hx,h=>by
    obtain⟨bl,h1,h2⟩:=Option.bind_eq_some_iff.1 (show((ownB objs l).bind fun l=>toD objs e l)=some x from hx);simp only[idsD,h1,Option.getD_some] at h;exact qd4 (x:=x) e h2 h
  | .st f r,l,x,hx,h=>by
    simp only[toD,Option.bind_eq_some_iff] at hx;obtain⟨x1,h1,x2,h2,_⟩:=hx;simp only[idsD,List.mem_append] at h;exact h.elim (qd4 f h1) (qd4 r h2)
theorem qoJ {objs:List OB} {slots:Slots} {o:Nat}:∀(l:List (Nat×Ty)) {x:DL (tysS l)},absS objs slots l=some x→o∈qaL (idsD objs) slots l→DatO objs o
  | [],_,_,h=>by simp[qaL] at h
  | (t,τ)::l,x,hx,h=>by
    simp only[absS,Option.bind_eq_some_iff,chk_some] at hx;obtain⟨⟨tg,pv⟩,h1,h2,cs,h3,h4,x1,h5,x2,h6,_⟩:=hx;simp only[qaL,h1,Option.bind_some,h3,Option.elim_some,List.mem_append] at h;exact h.elim (qd4 τ h5) (qoJ l h6)
theorem qd6 {objs:List OB} {o:Nat}:∀(l:List (Nat×Option OTy)) {x:DL (tysO l)},absO objs l=some x→o∈qH (idsD objs) objs l→DatO objs o
  | [],_,_,h=>by simp[qH] at h
  | (p,none)::l,x,hx,h=>qd6 l hx (by simpa[qH] using h)
  | (p,some (.arr i e))::l,x,hx,h=>by
    simp only[absO,Option.bind_eq_some_iff] at hx;obtain⟨ob,hob,h2⟩:=hx
    cases ob with
    | arr i' e' xs fz =>
      cases fz with
      | true=>simp at h2
      | false =>
        simp only[chk_some,Option.bind_eq_some_iff] at h2;obtain⟨_,x1,_,y2,hy,_⟩:=h2;exact qd6 l hy (by simpa[qH] using h)
    | _=>simp at h2
  | (p,some (.box τ))::l,x,hx,h=>by
    simp only[absO,Option.bind_eq_some_iff] at hx;obtain⟨ob,hob,h2⟩:=hx
    cases ob with
    | box cs =>
      simp only[Option.bind_eq_some_iff] at h2;obtain⟨x1,h3,y2,hy,_⟩:=h2;simp only[qH,hob,List.mem_append] at h;exact h.elim (qd4 τ h3) (qd6 l hy)
    | _=>simp at h2
  | (p,some (.mp kt vt))::l,x,hx,h=>by
    simp only[absO,Option.bind_eq_some_iff] at hx;obtain⟨ob,hob,h2⟩:=hx
    cases ob with
    | mp k' v' xs =>
      simp only[Option.bind_eq_some_iff] at h2;obtain⟨x1,_,y2,hy,_⟩:=h2;exact qd6 l hy (by simpa[qH] using h)
    | _=>simp at h2
  | (p,some (.bld tb i))::l,x,hx,h=>by
    simp only[absO,Option.bind_eq_some_iff] at hx;obtain⟨ob,hob,h2⟩:=hx
    cases ob with
    | bld tb' c =>
      simp only[chk_some,Option.bind_eq_some_iff] at h2;obtain⟨_,x1,h3,y2,hy,_⟩:=h2;simp only[qH,hob,List.mem_append] at h;exact h.elim (qd4 (.osl i (.int .u8)) h3) (qd6 l hy)
    | _=>simp at h2
  | (p,some (.ar tn q ow))::l,x,hx,h=>by
    simp only[absO,Option.bind_eq_some_iff] at hx;obtain⟨n,_,ob,hob,h2⟩:=hx
    cases ob with
    | ar t' p' ow' xs lent =>
      simp only[chk_some,Option.bind_eq_some_iff] at h2;obtain⟨_,x1,h3,y2,hy,_⟩:=h2;exact qd6 l hy (by simpa[qH] using h)
    | _=>simp at h2
theorem qle {gs:List (Value×Option Nat)} {b:Nat}:∀ {j1 j2:Nat} {g1 g2:Value×Option Nat},(gs.flatMap fun g=>g.2.toList).Nodup→gs[j1]?=some g1→gs[j2]?=some g2→g1.2=some b→g2.2=some b→j1=j2:=by
  induction gs with
  | nil=>intro j1 j2 g1 g2 _ h;simp at h
  | cons g l ih =>
    intro j1 j2 g1 g2 hn h1 h2 hb hb';simp only[List.flatMap_cons,List.nodup_append] at hn
    cases j1 with
    | zero =>
      cases j2 with
      | zero=>rfl
      | succ j2 =>
        simp at h1 h2;exact absurd rfl (hn.2.2 b (by rw[h1,hb];simp) b (List.mem_flatMap.2 ⟨g2,List.mem_of_getElem? h2,by simp[hb']⟩))
    | succ j1 =>
      cases j2 with
      | zero =>
        simp at h1 h2;exact absurd rfl (hn.2.2 b (by rw[h2,hb'];simp) b (List.mem_flatMap.2 ⟨g1,List.mem_of_getElem? h1,by simp[hb]⟩))
      | succ j2=>exact congrArg _ (ih hn.2.1 (by simpa using h1) (by simpa using h2) hb hb')
def OB.below (n:Nat):OB→Prop
  | .box l=>CvL.below n l
  | .fbx l=>CvL.below n l
  | .bld _ c=>c.below n
  | .hr _ _ _ _ _ hole=>∀k r,hole=some (k,r)→r<n
  | _=>True
theorem ObR.below {objs:List OB} {γ:Gh} {w:World} {ob:OB} {g:Value×Option Nat} (h:ObR objs γ w ob g):OB.below objs.length ob:=by
  cases ob with
  | box l=>obtain⟨_,_,_,_,_,h1⟩:=h;exact h1.below
  | fbx l=>obtain⟨_,_,_,_,_,h1,_⟩:=h;exact h1.below
  | bld t c=>obtain⟨_,_,_,_,_,_,h1⟩:=h;exact h1.below
  | hr i p q j xs hole=>obtain⟨_,_,_,h1⟩:=h;exact fun k r e=>(h1 k r e).2.1
  | _=>trivial
theorem ObR.keep' {objs objs':List OB} {γ γ':Gh} {w w':World} {n:Nat} (h:Keep objs γ w objs' γ' w' n) {ob:OB} {g:Value×Option Nat} (hb:∀b,g.2=some b→w'.heap[b]?=w.heap[b]?) (hbel:OB.below n ob) (hr:ObR objs γ w ob g):ObR objs' γ' w' ob g:=by
  cases ob with
  | box l =>
    obtain⟨b,T,cs,e,h1,h2⟩:=hr;exact⟨b,T,cs,e,(hb b (by simp[e])).trans h1,VRL.keep h hbel h2⟩
  | fbx l =>
    obtain⟨b,T,cs,e,h1,h2,h3⟩:=hr;exact⟨b,T,cs,e,(hb b (by simp[e])).trans h1,VRL.keep h hbel h2,h.imm _ h3⟩
  | arr i e xs fz =>
    obtain⟨us,h1,h2⟩:=hr;exact⟨us,h1.mono fun b hm=>hb b (by simpa using hm),RepL.keep h h2⟩
  | dead=>trivial
  | mbr i e x =>
    rcases hr with hr | ⟨xs,us,h0,h1,h2⟩
    · exact .inl hr
    · exact .inr ⟨xs,us,h0,h1.mono fun b hm=>hb b (by simpa using hm),RepL.keep h h2⟩
  | nilr=>exact hr
  | mp k v xs =>
    obtain⟨b,e,h1,es,clk,h2,h3⟩:=hr;exact⟨b,e,h1,es,clk,(hb b (by simp[e])).trans h2,h3⟩
  | ar t p ow xs lent=>exact hr
  | hr i p q j xs hole =>
    obtain⟨us,h1,h2,h3⟩:=hr;have eh:(hole.map fun x=>(x.1,(γ' x.2).1))=hole.map fun x=>(x.1,(γ x.2).1):=by
      cases hole with
      | none=>rfl
      | some x=>rw[Option.map_some,Option.map_some,h.gh x.2 (hbel x.1 x.2 rfl)]
    refine⟨us,h1.mono fun b hm=>hb b (by simpa using hm),?_,fun k r e=>⟨(h3 k r e).1,?_⟩⟩
    · rw[eh];exact h2.mono (ElR.mono (fun x c=>Rep.keep h) (fun x c=>Rep.keep h) fun ks v hk=>hk.mono h.imm h.heap)
    · have:=VR.keep h (c := .os r) (hbel k r e) (h3 k r e).2;rw[h.gh r (hbel k r e)];exact this
  | bld t c =>
    obtain⟨b,p,v,e,h1,h2,h3⟩:=hr;exact⟨b,p,v,e,(hb b (by simp[e])).trans h1,h2,VR.keep h hbel h3⟩
theorem qfn {F:Fr} {s:Shape} {σ σ':AState} {γ γ':Gh} {a a':Act} {w w':World} (r:Rel F σ γ a w) (hh:qhG s σ=true) (r':Rel F σ' γ' a' w') (hn:σ'.n=σ.n)
    (hk:∀t∈s.keep,∀e,kf σ.slots t=some e→get σ'.slots t=some e) (ho:∀o,o<σ.objs.length→listed o s.objs=false→σ'.objs[o]?=σ.objs[o]?) (K0:Keep σ.objs γ w σ'.objs γ' w' σ.objs.length)
    {x:s.T} (hx:absT s σ.objs.length σ'=some x):∃γF,Rel F (conc s σ x) γF a' w'∧Cl (conc s σ x)∧Step σ γ w (conc s σ x) γF w':=by
  simp only[absT,chk_some,Bool.and_eq_true,Option.bind_eq_some_iff] at hx;obtain⟨⟨hown,hdat⟩,x1,hx1,x2,hx2,hxx⟩:=hx;have hxx:(x1,x2)=x:=Option.some.inj hxx;subst hxx;simp only[qhG,Bool.and_eq_true,List.all_eq_true,Bool.not_eq_true'] at hh;obtain⟨⟨⟨hpm,hsl⟩,hndo,hol⟩,hg0,hkn0⟩:=hh;have hndo:=qa6 hndo;have hol':∀q∈s.objs,q.1<σ.objs.length∧bitB σ.prO q.1=false:=fun q hq=>⟨by have:=(hol q hq).1;simpa[Nat.blt_eq] using this,(hol q hq).2⟩;simp only[okOwned,Bool.and_eq_true] at hown;obtain⟨hown1,hown2⟩:=hown;have hownd:=qa6 hown1;have hownst:∀o∈qaL (idsO σ'.objs) σ'.slots s.slots++qH (idsO σ'.objs) σ'.objs s.objs,stays s σ.objs.length o=false:=fun o ho=>by
    have:=List.all_eq_true.1 hown2 o ho;simpa using this
  let own:=qaL (idsO σ'.objs) σ'.slots s.slots++qH (idsO σ'.objs) σ'.objs s.objs
  let T:Sp:=⟨fun k=>k<w'.heap.size∧γ'.S k∧(∀o',Mut σ'.objs o'→(o'∈own∨stays s σ.objs.length o'=true)→(γ' o').2≠some k)∧k∉γ'.B,γ'.m⟩
  have hT:Sp.le (Imm σ'.objs γ' w') T:=⟨fun k hk=>⟨hk.lt,hk.s,fun o' hm _=>hk.own o' hm,hk.nb⟩,fun _ _ h=>h⟩;have hids:∀o∈qaL (idsD σ'.objs) σ'.slots s.slots++qH (idsD σ'.objs) σ'.objs s.objs,∀b,(γ' o).2=some b→T b:=fun o ho' b hb=>by
    have harr:DatO σ'.objs o:=(List.mem_append.1 ho').elim (qoJ _ hx1) (qd6 _ hx2);rcases harr with ⟨i,e,xs,hob⟩ | ⟨ob,hob,hdb⟩
    · exact hT b (r'.o.frz o i e xs b hob hb)
    · have hd:=List.all_eq_true.1 hdat o ho';have hd:(!stays s σ.objs.length o && !memN o own)=true:=by
        rw[hob] at hd
        cases ob with
        | arr i e xs fz=>cases fz with
          | true=>cases hdb
          | false=>simpa using hd
        | hr i p q j xs hole=>simpa using hd
        | _=>cases hdb
      simp only[Bool.and_eq_true,Bool.not_eq_true'] at hd;obtain⟨hd1,hd2⟩:=hd;have hmo:Mut σ'.objs o:=⟨_,hob,qeR hdb⟩;refine⟨r'.o.lt o b (qj hob) hb,r'.o.up b (r'.o.own o b hmo hb),fun o' hm hor hb'=>?_,r'.o.bo o b hmo hb⟩;have e1:=r'.o.inj o' o b hm hmo hb' hb;subst e1;rcases hor with hor | hor
      · have:memN o' own=true:=memN_spec.2 hor;rw[this] at hd2;cases hd2
      · rw[hor] at hd1;cases hd1
  obtain⟨gsO,p1,p2,p3,p4,p4b,p5⟩:=qbY (n0:=σ.objs.length) r'.o hT s.objs σ.objs hx2 hndo (fun q hq=>(hol' q hq).1) (Nat.le_refl _) (fun o ho'=>hids o (List.mem_append.2 (.inr ho')));obtain⟨gsS,q1,q2,q3,q5⟩:=qkd r' hT s.slots { σ with slots:=keepF σ.slots s.keep,objs:=concO s.objs x2 σ.objs,gs:=0,known:=[] } hx1 (fun o ho'=>hids o (List.mem_append.2 (.inl ho')));have hcl:=qeI s.slots x1 { σ with slots:=keepF σ.slots s.keep,objs:=concO s.objs x2 σ.objs,gs:=0,known:=[] };have hcO:=qax s.objs x2 σ.objs
  show ∃γF,Rel F (concS s.slots x1 { σ with slots:=keepF σ.slots s.keep,objs:=concO s.objs x2 σ.objs,gs:=0,known:=[] }) γF a' w'∧Cl (concS s.slots x1 { σ with slots:=keepF σ.slots s.keep,objs:=concO s.objs x2 σ.objs,gs:=0,known:=[] })∧Step σ γ w (concS s.slots x1 { σ with slots:=keepF σ.slots s.keep,objs:=concO s.objs x2 σ.objs,gs:=0,known:=[] }) γF w';generalize hC:concS s.slots x1 { σ with slots:=keepF σ.slots s.keep,objs:=concO s.objs x2 σ.objs,gs:=0,known:=[] }=C at *;simp only at q1 hcl q5
  have hOlen:C.objs.length=σ.objs.length+(gsO++gsS).length:=by rw[q1,p1,List.length_append,Nat.add_assoc]
  have hflat:(gsO++gsS).flatMap (fun g=>g.2.toList)=blocks γ' (qH (idsO σ'.objs) σ'.objs s.objs++qaL (idsO σ'.objs) σ'.slots s.slots):=by
    rw[List.flatMap_append,p2,q2];simp[blocks]
  have hownm:∀o∈own,Mut σ'.objs o:=fun o ho'=>(List.mem_append.1 ho').elim (q3 o) (p3 o);have hndb:((gsO++gsS).flatMap fun g=>g.2.toList).Nodup:=by
    rw[hflat];refine qa8 r'.o ?_ (fun o ho'=>hownm o (List.mem_append.2 ((List.mem_append.1 ho').symm)));exact(List.perm_append_comm.nodup_iff).1 hownd
  have hlow:∀o,o<σ.objs.length→C.objs[o]?=(concO s.objs x2 σ.objs)[o]?:=fun o ho'=>hcl.2.1 o (by omega)
  let kcF:Nat→Nat→Option Value:=fun o x=>if o<σ.objs.length then γ'.kc o x else γ'.kc ((arOf σ'.objs).getD 0) x
  let γ1:Gh:=γ'.arn γ'.m γ'.B kcF
  have hγlow:∀o,o<σ.objs.length→upd γ1 σ.objs.length (gsO++gsS) o=γ' o:=fun o ho'=>qeY ho';have hA:∀o,o<σ.objs.length→Mut C.objs o→Mut σ'.objs o∧stays s σ.objs.length o=true:=fun o ho' hm=>by
    have hst:qaq o s.objs=false→stays s σ.objs.length o=true:=fun hd=>by
      simp only[stays,hd,Bool.not_false,Bool.and_true];simpa[Nat.blt_eq] using ho'
    obtain⟨ob,h1,h2⟩:=hm;rw[hlow o ho'] at h1;by_cases hl:listed o s.objs=true
    · obtain⟨q,hq,rfl⟩:=List.mem_map.1 (listed_spec.1 hl);obtain⟨h3,h4⟩:=p4 q hq ⟨ob,h1,h2⟩;exact⟨h3,hst h4⟩
    · have hl:=Bool.eq_false_iff.2 hl;rw[qA s.objs x2 σ.objs o ho' hl,←ho o ho' hl] at h1;exact⟨⟨ob,h1,h2⟩,hst (Bool.eq_false_iff.2 fun hd=>by rw[qaC hd] at hl;cases hl)⟩
  have hB:∀o b,σ.objs.length≤o→o<C.objs.length→(upd γ1 σ.objs.length (gsO++gsS) o).2=some b→∃o'∈own,(γ' o').2=some b:=fun o b h1 h2 hb=>by
    have hj:o-σ.objs.length<(gsO++gsS).length:=by omega
    have e1:=qaK (γ:=γ1) (n:=σ.objs.length) (List.getElem?_eq_getElem hj);rw[show σ.objs.length+(o-σ.objs.length)=o by omega] at e1;rw[e1] at hb;have hmem:b∈(gsO++gsS).flatMap (fun g=>g.2.toList):=List.mem_flatMap.2 ⟨_,List.getElem_mem hj,by simp[hb]⟩;rw[hflat] at hmem;obtain⟨o',ho',hb'⟩:=List.mem_flatMap.1 hmem;exact⟨o',List.mem_append.2 ((List.mem_append.1 ho').symm),by simpa using hb'⟩
  have hTI:Sp.le T (Imm C.objs (upd γ1 σ.objs.length (gsO++gsS)) w'):=⟨fun k hk=>by
    refine⟨hk.1,hk.2.1,fun o hm hb=>?_,hk.2.2.2⟩;by_cases ho':o<σ.objs.length
    · obtain⟨h1,h2⟩:=hA o ho' hm;rw[hγlow o ho'] at hb;exact hk.2.2.1 o h1 (.inr h2) hb
    · obtain⟨o',h1,h2⟩:=hB o k (by omega) hm.lt hb
      exact hk.2.2.1 o' (hownm o' h1) (.inl h1) h2,fun _ _ h=>h⟩
  have hgO:∀j g,gsO[j]?=some g→upd γ1 σ.objs.length (gsO++gsS) (σ.objs.length+j)=g:=fun j g hj=>qaK (by rw[List.getElem?_append_left (qj hj)];exact hj);have hgS:∀j g,gsS[j]?=some g→upd γ1 σ.objs.length (gsO++gsS) ((concO s.objs x2 σ.objs).length+j)=g:=fun j g hj=>by
    rw[p1,Nat.add_assoc];exact qaK (by rw[List.getElem?_append_right (by omega)];simpa using hj)
  obtain⟨u1,u2⟩:=p5 C.objs _ (fun o ho'=>hcl.2.1 o ho') hTI ⟨rfl,rfl,fun o x ho'=>if_neg (by omega)⟩ hγlow hgO hcl.1;obtain⟨v1,v2⟩:=q5 _ hTI hgS C.objs rfl;have K1:Keep σ'.objs γ' w' C.objs (upd γ1 σ.objs.length (gsO++gsS)) w' σ.objs.length:=⟨hT.trans hTI,fun _ _=>rfl,by omega,hγlow,Nat.le_refl _,rfl,fun o ho' x v hv=>(if_pos ho').trans hv⟩;have hlen':=K0.len;have hnew:∀o ob,σ.objs.length≤o→C.objs[o]?=some ob→ObR C.objs (upd γ1 σ.objs.length (gsO++gsS)) w' ob (upd γ1 σ.objs.length (gsO++gsS) o)∧(mutOb ob=true∨isAr ob=true)∧(∀t p ow xs lent,ob = .ar t p ow xs lent→ArO C.objs (upd γ1 σ.objs.length (gsO++gsS)) w' o t p ow xs lent):=fun o ob h1 h2=>by
    by_cases h3:o<(concO s.objs x2 σ.objs).length
    · exact u2 o ob h1 h3 h2
    · have h4:=v2 o ob (by omega) h2;exact⟨h4.1,.inl h4.2,fun t p ow xs lent e=>by rw[e] at h4;cases h4.2⟩
  have hor:ORel F C.objs (upd γ1 σ.objs.length (gsO++gsS)) w':=by
    refine⟨fun o ob hob=>?_,fun o o' b hm hm' hb hb'=>?_,fun o b hm hb=>?_,fun o b hlt hb=>?_,r'.o.chg,fun o i e xs b hob hb=>?_,r'.o.up,r'.o.tab.mono (fun k hk=>hTI k (hT k hk)) (fun _ _=>rfl),r'.o.bl,fun o b hm hb=>?_,fun o t p ow xs lent hob=>?_⟩
    · by_cases ho':o<σ.objs.length
      · by_cases hl:listed o s.objs=true
        · obtain⟨q,hq,rfl⟩:=List.mem_map.1 (listed_spec.1 hl);exact u1 q hq ob hob
        · have hl:=Bool.eq_false_iff.2 hl;rw[hlow o ho',qA s.objs x2 σ.objs o ho' hl] at hob;rw[hγlow o ho'];exact ObR.keep' K1 (fun _ _=>rfl) (r.o.rep o ob hob).below (r'.o.rep o ob (by rw[ho o ho' hl];exact hob))
      · exact(hnew o ob (by omega) hob).1
    · by_cases h1:o<σ.objs.length<;>by_cases h2:o'<σ.objs.length
      · rw[hγlow o h1] at hb;rw[hγlow o' h2] at hb';exact r'.o.inj o o' b (hA o h1 hm).1 (hA o' h2 hm').1 hb hb'
      · rw[hγlow o h1] at hb;obtain⟨o2,h3,h4⟩:=hB o' b (by omega) hm'.lt hb';have e1:=r'.o.inj o o2 b (hA o h1 hm).1 (hownm o2 h3) hb h4;subst e1;have:=hownst o h3;rw[(hA o h1 hm).2] at this;cases this
      · rw[hγlow o' h2] at hb';obtain⟨o2,h3,h4⟩:=hB o b (by omega) hm.lt hb;have e1:=r'.o.inj o' o2 b (hA o' h2 hm').1 (hownm o2 h3) hb' h4;subst e1;have:=hownst o' h3;rw[(hA o' h2 hm').2] at this;cases this
      · have l1:=hm.lt;have l2:=hm'.lt
        have hj1:o-σ.objs.length<(gsO++gsS).length:=by omega
        have hj2:o'-σ.objs.length<(gsO++gsS).length:=by omega
        have e1:=qaK (γ:=γ1) (n:=σ.objs.length) (List.getElem?_eq_getElem hj1);have e2:=qaK (γ:=γ1) (n:=σ.objs.length) (List.getElem?_eq_getElem hj2);rw[show σ.objs.length+(o-σ.objs.length)=o by omega] at e1;rw[show σ.objs.length+(o'-σ.objs.length)=o' by omega] at e2;rw[e1] at hb;rw[e2] at hb';have:=qle hndb (List.getElem?_eq_getElem hj1) (List.getElem?_eq_getElem hj2) hb hb';omega
    · by_cases h1:o<σ.objs.length
      · rw[hγlow o h1] at hb;exact r'.o.own o b (hA o h1 hm).1 hb
      · obtain⟨o2,h3,h4⟩:=hB o b (by omega) hm.lt hb;exact r'.o.own o2 b (hownm o2 h3) h4
    · by_cases h1:o<σ.objs.length
      · rw[hγlow o h1] at hb;exact r'.o.lt o b (by omega) hb
      · obtain⟨o2,h3,h4⟩:=hB o b (by omega) hlt hb;exact r'.o.lt o2 b (hownm o2 h3).lt h4
    · by_cases h1:o<σ.objs.length
      · rw[hlow o h1] at hob;rw[hγlow o h1] at hb;by_cases hl:listed o s.objs=true
        · obtain⟨q,hq,rfl⟩:=List.mem_map.1 (listed_spec.1 hl);exact absurd hob ((p4b q hq).1 i e xs)
        · have hl:=Bool.eq_false_iff.2 hl;rw[qA s.objs x2 σ.objs o h1 hl,←ho o h1 hl] at hob;exact hTI b (hT b (r'.o.frz o i e xs b hob hb))
      · rcases(hnew o _ (by omega) hob).2.1 with h | h<;>cases h
    · by_cases h1:o<σ.objs.length
      · rw[hγlow o h1] at hb;exact r'.o.bo o b (hA o h1 hm).1 hb
      · obtain⟨o2,h3,h4⟩:=hB o b (by omega) hm.lt hb;exact r'.o.bo o2 b (hownm o2 h3) h4
    · by_cases h1:o<σ.objs.length
      · rw[hlow o h1] at hob;by_cases hl:listed o s.objs=true
        · obtain⟨q,hq,rfl⟩:=List.mem_map.1 (listed_spec.1 hl);cases (p4b q hq).2 _ hob
        · have hl:=Bool.eq_false_iff.2 hl;rw[qA s.objs x2 σ.objs o h1 hl,←ho o h1 hl] at hob;exact(r'.o.ar o t p ow xs lent hob).keep K1 rfl rfl (fun x=>if_pos h1) (fun _ _=>rfl)
      · exact(hnew o _ (by omega) hob).2.2 _ _ _ _ _ rfl
  have hslots:∀t tg pv,get C.slots t=some (tg,pv)→tg=[]∧∃v,a'.tmps[t]?=some v∧PR C.objs (upd γ1 σ.objs.length (gsO++gsS)) w' pv v:=fun t tg pv ht=>by
    rcases v1 t tg pv ht with h1 | h1
    · obtain⟨h2,h3⟩:=qmR h1;obtain⟨h4,h5,h6⟩:=qf8 h3;simp only at h5 h6;subst h5;refine⟨rfl,?_⟩;obtain⟨v,h7,h8⟩:=r'.slots t [] pv (hk t h2 _ h3) (qf _);obtain⟨v0,_,h9⟩:=r.slots t [] pv h4 (qf _);exact⟨v,h7,PR.keep K1 h9.below (.inl h6) h8⟩
    · exact h1
  refine⟨upd γ1 σ.objs.length (gsO++gsS),⟨?_,r'.defers,fun t tg pv ht _=>(hslots t tg pv ht).2,fun t tg pv ht hnT=>?_,fun t tg pv ht x hx=>?_,fun x hx=>?_,hor⟩,⟨hcl.2.2.2.2.2.1,hcl.2.2.2.2.2.2.1⟩,⟨hcl.2.2.1,hcl.2.2.2.1,hcl.2.2.2.2.1,fun t e ht he=>?_,fun o ho' hp=>?_,K0.trans K1⟩⟩
  · rw[r'.size,hn,hcl.2.2.1]
  · obtain⟨rfl,_⟩:=hslots t tg pv ht;exact absurd (qf _) hnT
  · obtain⟨rfl,_⟩:=hslots t tg pv ht;cases hx
  · rw[hcl.2.2.2.2.2.2.1] at hx;cases hx
  · have htk:t∈s.keep:=by
      have hb:=Nat.eq_of_beq_eq_true hpm;rw[qeX] at ht
      have h2:(Nat.land σ.prS (maskN s.keep)).testBit t=true:=by rw[hb];exact ht
      have h3:(σ.prS &&& maskN s.keep).testBit t=true:=h2;rw[Nat.testBit_and,Bool.and_eq_true] at h3;exact mask_bit.1 (by rw[qeX];exact h3.2)
    have hnh:∀q∈s.slots,q.1≠t:=fun q hq e1=>by
      have:=(hsl q hq).1;rw[e1,memN_spec.2 htk] at this;cases this
    obtain⟨h4,h5,h6⟩:=qf8 he;refine kf_of ?_ h5 h6;rw[hcl.2.2.2.2.2.2.2 t hnh,qiQ htk];exact he
  · have hl:listed o s.objs=false:=Bool.eq_false_iff.2 fun hl=>by
      obtain⟨q,hq,rfl⟩:=List.mem_map.1 (listed_spec.1 hl);rw[(hol' q hq).2] at hp;cases hp
    rw[hlow o ho',qA s.objs x2 σ.objs o ho' hl]
end Go.Den
namespace Go.Den
open Go.Eng
set_option linter.unusedVariables false
set_option linter.unusedSectionVars false
set_option linter.unusedSimpArgs false
variable [CT : Ctx]

section
variable {P : Program} {env : Env} [DqAll P]

theorem qpo {T α:Type} {f:T→Option (T ⊕ α)} {x:T} {r:α} (h:iterW f x=some r):∃n,iterN f n x=some r:=by
  unfold iterW at h;split at h
  · exact⟨_,h⟩
  · cases h
theorem Rel.enter {F:Fr} {σ:AState} {γ:Gh} {a:Act} {w:World} {s:Shape} {n:Nat} (r:Rel F σ γ a w):Rel F (σ.enter s n) γ a w:=⟨r.size,r.defers,r.slots,r.off,r.gs,r.known,r.o⟩
theorem Rel.leave {F:Fr} {σ σ0:AState} {γ:Gh} {a:Act} {w:World} (r:Rel F σ γ a w):Rel F (σ.leave σ0) γ a w:=⟨r.size,r.defers,r.slots,r.off,r.gs,r.known,r.o⟩
theorem Step.leave {σ σ':AState} {γ γ':Gh} {w w':World} {s:Shape} {n:Nat} (h:Step (σ.enter s n) γ w σ' γ' w'):Step σ γ w (σ'.leave σ) γ' w' :=
  ⟨h.n,rfl,rfl,fun t e ht he=>h.slots t e (qdp ht) he,fun o ho hp=>h.objs o ho (qdp hp),h.keep⟩

theorem Post.then {α:Type} {F:Fr} {σ σ':AState} {γ γ':Gh} {w w':World} {K:Kt α} {res:α} {Q:Exit→Act→World→Prop} (hp:Post F σ γ w K res Q) (s:Step σ γ w σ' γ' w'):Post F σ' γ' w' K res Q :=
  ⟨fun σ2 γ2 a2 w2 hk r2 hc s2=>hp.n σ2 γ2 a2 w2 hk r2 hc (s.trans s2),fun i σ2 γ2 a2 w2 hk r2 hc s2=>hp.x i σ2 γ2 a2 w2 hk r2 hc (s.trans s2),fun σ2 γ2 a2 w2 hk r2 hc s2=>hp.r σ2 γ2 a2 w2 hk r2 hc (s.trans s2)⟩
def RdOK {α:Type} (P:Program) (N:Nat) (rc:Ann→Code→AState→Kt α→Option α):Prop :=
  ∀b σ K res,rc .nil (.loop b) σ K=some res→∀F γ a w Q,Rel F σ γ a w→Cl σ→Post F σ γ w K res Q→Code.rounds P b Q N a w
theorem qbj (hE:EnvOK P env) (hm:P.follows .mixedOrders=true) {α:Type} {n:Nat} {rc:Ann→Code→AState→Kt α→Option α} (hrc:RcOK P rc) (hrd:RdOK P n rc) {ann:Ann} {c:Code} {σ:AState} {K:Kt α} {res:α} (h:denP P env rc ann c σ K=some res)
    {F:Fr} {γ:Gh} {a:Act} {w:World} {Q:Exit→Act→World→Prop} (r:Rel F σ γ a w) (hcl:Cl σ) (hp:Post F σ γ w K res Q):c.wp P Q a w:=by
  have fin:∀σ' γ' a' w',K.n σ'.endR=some res→Rel F σ' γ' a' w'→Step σ γ w σ' γ' w'→Q .normal a' w':=fun σ' γ' a' w' hk r' s'=>hp.n σ'.endR γ' a' w' hk r'.endR ⟨rfl,rfl⟩ (s'.trans Step.endR);unfold denP at h;split at h
  · exact wp_skip (hp.n σ γ a w h r hcl (Step.refl _ _ _))
  · exact wp_label (hp.n σ γ a w h r hcl (Step.refl _ _ _))
  · refine wp_seq (hrc _ _ _ _ _ h F γ a w _ r hcl ⟨fun σ' γ' a' w' hk r' hc' s'=>?_,fun i σ' γ' a' w' hk r' hc' s'=>hp.x i σ' γ' a' w' hk r' hc' s',fun σ' γ' a' w' hk r' hc' s'=>hp.r σ' γ' a' w' hk r' hc' s'⟩);exact hrc _ _ _ _ _ hk F γ' a' w' Q r' hc' (hp.then s')
  · simp only[Option.bind_eq_some_iff] at h;obtain⟨v,h1,t,h2,h3⟩:=h;have hev:=ev_bool r (qf σ) h1 h2;cases t
    · exact wp_cond_false hev (hrc _ _ _ _ _ h3 F γ a w Q r hcl hp)
    · exact wp_cond_true hev (hrc _ _ _ _ _ h3 F γ a w Q r hcl hp)
  · refine wp_block (hrc _ _ _ _ _ h F γ a w _ r hcl ⟨fun σ' γ' a' w' hk r' hc' s'=>hp.n σ' γ' a' w' hk r' hc' s',fun i σ' γ' a' w' hk r' hc' s'=>?_,fun σ' γ' a' w' hk r' hc' s'=>hp.r σ' γ' a' w' hk r' hc' s'⟩);simp only[Exit.inBlock];split
    · rename_i e;subst e;simp only[Nat.beq_refl,cond_true] at hk;exact hp.n σ' γ' a' w' hk r' hc' s'
    · rename_i e;have:Nat.beq i _=false:=Bool.eq_false_iff.2 fun hb=>e (Nat.eq_of_beq_eq_true hb);simp only[this,cond_false] at hk;exact hp.x i σ' γ' a' w' hk r' hc' s'
  · refine wp_loop_rounds (n+1) ?_;rw[rounds_succ];refine hrc _ _ _ _ _ h F γ a w _ r hcl ⟨fun σ' γ' a' w' hk r' hc' s'=>?_,fun i σ' γ' a' w' hk r' hc' s'=>hp.x i σ' γ' a' w' hk r' hc' s',fun σ' γ' a' w' hk r' hc' s'=>hp.r σ' γ' a' w' hk r' hc' s'⟩;exact hrd _ _ _ _ hk F γ' a' w' Q r' hc' (hp.then s')
  · exact wp_exit (hp.x _ σ γ a w h r hcl (Step.refl _ _ _))
  · exact wp_ret (hp.r σ γ a w h r hcl (Step.refl _ _ _))
  · exact wp_region_list (qaw hE hrc _ _ r h fin)
  · rename_i id ops;have hdr:Chg [] w { w with drawn:=w.drawn+1 }:=⟨rfl,rfl,rfl,Nat.le_refl _,fun _ _ _=>rfl,fun _=>Nat.le_succ _⟩;split at h
    · rename_i s g ann' _;obtain⟨hsel,h⟩:=chk_some.1 h;refine qnq hm (f:=0) (qmh hE hrc hsel (3*ops.size+20) ops.size (by simp) ?_ (r.ext hdr) h fun σ2 γ2 a2 w2 hk2 r2 s2=>fin σ2 γ2 a2 w2 hk2 r2 ((Step.ext hdr).trans s2));unfold nUn;exact Nat.le_trans List.countP_le_length (by simp)
    split at h
    · obtain⟨hB,h⟩:=chk_some.1 h;refine wp_region_quiet (C:=Chg [] w) hm hB hdr (qcb hE _ r h fun σ' a' r' s' hk w' hc=>?_);exact fin σ' γ a' w' hk (r'.ext hc) (s'.trans (Step.ext hc))
    · obtain⟨hB2,h⟩:=chk_some.1 h;refine qfF (C:=Chg [] w) _ hm hB2 hdr (qcb hE _ r h fun σ' a' r' s' hk w' hc=>?_);exact qaw hE hrc _ _ (r'.ext hc) hk fun σ2 γ2 a2 w2 hk2 r2 s2=>fin σ2 γ2 a2 w2 hk2 r2 (s'.trans ((Step.ext hc).trans s2))
  · cases h
theorem retype {F:Fr} {objs:List OB} {γ:Gh} {w:World} {p:Nat} {ob ob':OB} (r:ORel F objs γ w) (hp:objs[p]?=some ob) (hm:mutOb ob=true)
    (hnf:∀(i:TypeId) (e:Ty) (xs:List (D e)),ob' ≠ .arr i e xs true) (hob:ObR objs γ w ob' (γ p)) (hna:isAr ob'=false:=by rfl):ORel F (objs.set p ob') γ w∧Keep objs γ w (objs.set p ob') γ w objs.length:=by
  have hlt:=qj hp;have hget:∀o',(objs.set p ob')[o']?=if p=o' then some ob' else objs[o']?:=fun o'=>by
    rw[List.getElem?_set];by_cases e1:p=o'
    · subst e1;simp[hlt]
    · simp[e1]
  have hmu:∀o',Mut (objs.set p ob') o'→Mut objs o':=by
    rintro o' ⟨ob2,h1,h2⟩
    rw[hget] at h1;split at h1
    · rename_i e;subst e;exact⟨_,hp,hm⟩
    · exact⟨ob2,h1,h2⟩
  have K:Keep objs γ w (objs.set p ob') γ w objs.length:=⟨⟨fun k hk=>⟨hk.lt,hk.s,fun o' hm'=>hk.own o' (hmu o' hm'),hk.nb⟩,fun _ _ h=>h⟩,fun _ _=>rfl,by simp,fun _ _=>rfl,Nat.le_refl _,rfl,fun _ _ _ _ h=>h⟩;refine⟨⟨fun o' ob2 h1=>?_,fun o1 o2 b' h1 h2=>r.inj o1 o2 b' (hmu o1 h1) (hmu o2 h2),fun o1 b' h1=>r.own o1 b' (hmu o1 h1),fun o1 b' h1 h2=>r.lt o1 b' (by simpa using h1) h2,r.chg,fun o1 i e xs b' h1 h2=>?_,r.up,r.tab.mono K.imm K.heap,r.bl,fun o1 b' h1=>r.bo o1 b' (hmu o1 h1),fun o1 t q ow xs lent h1=>(r.ar o1 t q ow xs lent (SameAr.set objs p hna o1 t q ow xs lent h1)).keep K rfl rfl (fun _=>rfl) (fun _ _=>rfl)⟩,K⟩
  · rw[hget] at h1;split at h1
    · rename_i e;subst e;cases h1;exact ObR.keep K (fun _ _=>rfl) hob
    · exact ObR.keep K (fun _ _=>rfl) (r.rep o' _ h1)
  · rw[hget] at h1;split at h1
    · cases h1;exact absurd rfl (hnf _ _ _)
    · exact K.imm _ (r.frz o1 i e xs b' h1 h2)
theorem RepL.rel {A B:Type} {R:A→List Value→Prop} {R':B→List Value→Prop}:∀ {xs:List A} {ys:List B} {us:List Value},RepL R xs us→xs.length=ys.length→(∀(j:Nat) (x:A) (y:B) (c:List Value),xs[j]?=some x→ys[j]?=some y→R x c→R' y c)→RepL R' ys us
  | [],[],_,h,_,_=>h
  | x::xs,y::ys,us,⟨c,r,e,h1,h2⟩,hl,hh=>⟨c,r,e,hh 0 x y c rfl rfl h1,RepL.rel h2 (by simpa using hl) fun j x' y' c' hx hy=>hh (j+1) x' y' c' hx hy⟩
  | [],_::_,_,_,hl,_=>by simp at hl
  | _::_,[],_,_,hl,_=>by simp at hl
theorem qoe {A:Type} {d:A}:∀ {xs:List A} {k:Nat},k<xs.length→xs[k]?=some (getD' xs k d):=by
  intro xs k h;rw[List.getElem?_eq_getElem h];simp[getD',List.getElem?_eq_getElem h]
theorem beq_ne {a b:Nat} (h:a≠b):Nat.beq a b=false:=by
  cases hb:Nat.beq a b with
  | false=>rfl
  | true=>exact absurd (Nat.eq_of_beq_eq_true hb) h
theorem hop_spec {F:Fr} {σ:AState} {γ:Gh} {a:Act} {w:World} {o t:Nat} {b:Bool} {objs':List OB} (r:Rel F σ γ a w) (h:hopO σ o t=some (b,objs')) (hb:b=true):∃γ',Rel F { σ with objs:=objs' } γ' a w∧Step σ γ w { σ with objs:=objs' } γ' w:=by
  simp only[hopO,Option.bind_eq_some_iff,chk_some] at h;obtain⟨e,h1,h2,q,h3,ob,hob,h⟩:=h;split at h
  · rename_i i pa qb j xs;simp only[chk_some,Bool.not_eq_true',Option.some.injEq,Prod.mk.injEq] at h;obtain⟨hpr,rfl,rfl⟩:=h;simp only[Bool.and_eq_true,decide_eq_true_eq,Nat.blt_eq] at hb;obtain⟨h0,hk,hem⟩:=hb;obtain⟨ho1,K1⟩:=qhr (prO:=σ.prO) (nob := .nilr) (v' := .slice none 0 0) (M':=[]) r.o .no (Chg.refl [] w) (.inl rfl) rfl rfl (fun _=>rfl);have hlt:=qj hob
    have hob1:(σ.objs++[.nilr])[o]?=some (.hr i pa qb j xs none):=by rw[List.getElem?_append_left hlt];exact hob
    have hgn:(upd γ σ.objs.length [(Value.slice none 0 0,(([]:List Nat).head?))] σ.objs.length)=(.slice none 0 0,none):=by
      have:=qaK (γ:=γ) (n:=σ.objs.length) (j:=0) (gs:=[(Value.slice none 0 0,(([]:List Nat).head?))]) rfl;rw[Nat.add_zero] at this;exact this
    have hx:=qoe (d:=dflt (eT pa qb)) hk;obtain⟨us,g1,g2,g3⟩:=ho1.rep o _ hob1
    obtain⟨ho2,K2⟩:=retype (ob' := .hr i pa qb j xs (some (q.2.toNat,σ.objs.length))) ho1 hob1 rfl (fun _ _ _ e=>by cases e) (by
      refine⟨us,g1,g2.rel (by simp[qgm]) fun t y y' c hy hy' hR=>?_,fun k r' e=>?_⟩
      · rw[qdW] at hy hy';obtain⟨z,hz1,rfl⟩:=Option.map_eq_some_iff.1 hy;rw[hz1] at hy';cases hy';obtain⟨c1,v,c2,rfl,r1,r2,r3,r4⟩:=hR;refine⟨c1,v,c2,rfl,r1,r2,r3,?_⟩;simp only[Option.map_some,Option.map_none,hvAt] at r4 ⊢;by_cases htk:q.2.toNat=t
        · subst htk;have ez:=Option.some.inj (hx.symm.trans hz1);subst ez;rw[Nat.beq_refl,cond_true,hgn];rcases r4 with ⟨_,r4⟩ | ⟨_,_,r4,_⟩
          · exact r4
          · exact absurd (List.isEmpty_iff.1 hem) r4
        · rw[beq_ne htk,cond_false];exact r4
      · cases e;refine⟨hk,?_,?_,?_⟩
        · simp
        · rfl
        · rw[hgn];exact⟨_,_,_,rfl⟩)
    have e1:(σ.objs++[OB.nilr]).set o (.hr i pa qb j xs (some (q.2.toNat,σ.objs.length)))=σ.objs.set o (.hr i pa qb j xs (some (q.2.toNat,σ.objs.length)))++[.nilr]:=List.set_append_left _ _ hlt;rw[e1] at ho2 K2;have K:=K1.trans (K2.less (by simp));refine⟨_,r.setObjsN K ho2,⟨rfl,rfl,rfl,fun _ _ _ h=>h,fun o' ho' hp=>?_,K⟩⟩;show(σ.objs.set o _++[.nilr])[o']?=_;rw[List.getElem?_append_left (by simpa using ho'),List.getElem?_set,if_neg];intro e1;subst e1;rw[hpr] at hp;cases hp
  · cases h
theorem hcl_spec {F:Fr} {σ:AState} {γ:Gh} {a:Act} {w:World} {o:Nat} {b:Bool} {objs':List OB} (r:Rel F σ γ a w) (h:hclO σ o=some (b,objs')) (hb:b=true):Rel F { σ with objs:=objs' } γ a w∧Step σ γ w { σ with objs:=objs' } γ w:=by
  simp only[hclO,Option.bind_eq_some_iff,chk_some] at h;obtain⟨ob,hob,h⟩:=h;split at h
  · rename_i i pa qb j xs k p;simp only[Option.bind_eq_some_iff] at h;obtain⟨ob2,hob2,h⟩:=h;split at h
    · rename_i j' x;simp only[chk_some,Bool.not_eq_true',Bool.and_eq_true,Option.some.injEq,Prod.mk.injEq] at h;obtain⟨⟨hpr,hpr2,hjj⟩,rfl,rfl⟩:=h;obtain rfl:=Nat.eq_of_beq_eq_true hjj
      have hne:o≠p:=fun e=>by rw[e,hob2] at hob;cases hob
      obtain⟨us,g1,g2,g3⟩:=r.o.rep o _ hob;obtain⟨hk,hv⟩:=g3 k p rfl;have hpo:=r.o.rep p _ hob2;obtain⟨ho1,K1⟩:=retype (ob' := .dead) r.o hob2 rfl (fun _ _ _ e=>by cases e) trivial
      have hob1:(σ.objs.set p .dead)[o]?=some (.hr i pa qb j' xs (some (k,p))):=by rw[List.getElem?_set,if_neg (Ne.symm hne)];exact hob
      have hx:=qoe (d:=dflt (eT pa qb)) hk;obtain⟨us1,g1',g2',_⟩:=ho1.rep o _ hob1;have hkid:KidI w (Imm (σ.objs.set p .dead) γ w) (x.getD []) (γ p).1:=by
        rcases hpo with ⟨rfl,h1⟩ | ⟨ks,us,rfl,h1,h2⟩
        · rw[h1];exact .inl ⟨rfl,rfl⟩
        · have hks:ks≠[]:=fun e=>by subst e;have h9:false=true:=hb;cases h9
          obtain⟨b',cap,c1,c2,c3,c4⟩:=h1.cells (fun hl=>hks (List.eq_nil_of_length_eq_zero hl));have hgb:(γ p).2=some b':=by
            cases hg:(γ p).2 with
            | none=>rw[hg] at c1;cases c1
            | some z=>rw[hg] at c1;simpa using c1
          have hmp:Mut σ.objs p:=⟨_,hob2,rfl⟩;refine .inr ⟨_,cap,hks,c2,c3,⟨r.o.lt p b' (qj hob2) hgb,r.o.up b' (r.o.own p b' hmp hgb),fun o' hm hb'=>?_,r.o.bo p b' hmp hgb⟩,?_⟩
          · obtain⟨ob3,h3,h4⟩:=hm;rcases qh h3 with ⟨_,_,rfl⟩ | ⟨hn,h3⟩
            · cases h4
            · have:=r.o.inj o' p b' ⟨_,h3,h4⟩ hmp hb' hgb;exact hn this
          · have:=qnm h2;rw[this] at c4;exact c4
      obtain⟨ho2,K2⟩:=retype (ob' := .hr i pa qb j' (xs.set k ((getD' xs k (dflt (eT pa qb))).1,x.getD [],(getD' xs k (dflt (eT pa qb))).2.2)) none) ho1 hob1 rfl (fun _ _ _ e=>by cases e) (by
        refine⟨us1,by rw[List.length_set];exact g1',g2'.rel (by simp[qgm]) fun t y y' c hy hy' hR=>?_,fun k r' e=>by cases e⟩;rw[qdW] at hy hy';obtain⟨z,hz1,rfl⟩:=Option.map_eq_some_iff.1 hy;obtain⟨c1,v,c2,rfl,r1,r2,r3,r4⟩:=hR;by_cases htk:k=t
        · subst htk;have ez:=Option.some.inj (hx.symm.trans hz1);subst ez;rw[List.getElem?_set_self hk] at hy';cases hy';simp only[Option.map_some,hvAt,Nat.beq_refl,cond_true] at r4;refine⟨c1,v,c2,rfl,r1,r2,r3,?_⟩;rw[r4];exact hkid
        · rw[List.getElem?_set_ne htk,hz1] at hy';cases hy';simp only[Option.map_some,hvAt,beq_ne htk,cond_false] at r4
          exact⟨c1,v,c2,rfl,r1,r2,r3,r4⟩)
      have e1:=List.set_comm (a:=OB.hr i pa qb j' (xs.set k ((getD' xs k (dflt (eT pa qb))).1,x.getD [],(getD' xs k (dflt (eT pa qb))).2.2)) none) (b:=OB.dead) (l:=σ.objs) hne;rw[←e1] at ho2 K2;have K:=K1.trans (K2.less (by simp));refine⟨r.setObjsN K ho2,⟨rfl,rfl,rfl,fun _ _ _ h=>h,fun o' ho' hp=>?_,K⟩⟩;show((σ.objs.set o _).set p .dead)[o']?=_;rw[List.getElem?_set_ne (fun e=>by rw[←e,hpr2] at hp;cases hp),List.getElem?_set_ne (fun e=>by rw[←e,hpr] at hp;cases hp)]
    · cases h
  · cases h
theorem qjj (hE:EnvOK P env) (hm:P.follows .mixedOrders=true):∀(n:Nat) (α:Type),RcOK P (den P env n α)∧RdOK P n (den P env n α):=by
  intro n
  induction n with
  | zero=>exact fun α=>⟨fun ann c σ K res h=>by simp[den] at h,fun b σ K res h=>by simp[den] at h⟩
  | succ n ih0 =>
    intro α;have ih:=fun α=>(ih0 α).1;refine⟨?_,fun b σ K res h F γ a w Q r hcl hp=>?_⟩
    case refine_2 =>
      simp only[den,denP] at h;rw[rounds_succ];refine ih α _ _ _ _ _ h F γ a w _ r hcl ⟨fun σ' γ' a' w' hk r' hc' s'=>?_,fun i σ' γ' a' w' hk r' hc' s'=>hp.x i σ' γ' a' w' hk r' hc' s',fun σ' γ' a' w' hk r' hc' s'=>hp.r σ' γ' a' w' hk r' hc' s'⟩;exact(ih0 α).2 _ _ _ _ hk F γ' a' w' Q r' hc' (hp.then s')
    intro ann c σ K res h F γ a w Q r hcl hp
    cases ann with
    | nil=>exact qbj hE hm (ih α) (ih0 α).2 h r hcl hp
    | two x y=>exact qbj hE hm (ih α) (ih0 α).2 h r hcl hp
    | own x=>exact qbj hE hm (ih α) (ih0 α).2 h r hcl hp
    | vw x=>exact qbj hE hm (ih α) (ih0 α).2 h r hcl hp
    | tail m x=>exact qbj hE hm (ih α) (ih0 α).2 h r hcl hp
    | any s g x=>exact qbj hE hm (ih α) (ih0 α).2 h r hcl hp
    | ord i u x y=>exact qbj hE hm (ih α) (ih0 α).2 h r hcl hp
    | alt x y=>exact qbj hE hm (ih α) (ih0 α).2 h r hcl hp
    | spl d x=>exact qbj hE hm (ih α) (ih0 α).2 h r hcl hp
    | sel o i x y =>
      simp only[den] at h;exact ih α _ _ _ _ _ h F γ a w Q r hcl hp
    | mbs o x1 x2 =>
      simp only[den,Option.bind_eq_some_iff] at h;obtain⟨ob,hob,h⟩:=h
      cases ob with
      | mbr i e y =>
        simp only[chk_some,Bool.not_eq_true'] at h;obtain⟨hpr,h⟩:=h;have key:∀ob':OB,(∀(i:TypeId) (e:Ty) (xs:List (D e)),ob' ≠ .arr i e xs true)→isAr ob'=false→ObR σ.objs γ w ob' (γ o)→Rel F { σ with objs:=σ.objs.set o ob' } γ a w∧Step σ γ w { σ with objs:=σ.objs.set o ob' } γ w:=fun ob' hnf hna hob'=>by
          obtain⟨q1,q2⟩:=retype r.o hob rfl hnf hob' hna;have s1:∀o',o'<σ.objs.length→bitB σ.prO o'=true→(σ.objs.set o ob')[o']?=σ.objs[o']?:=fun o' _ hp=>by
            rw[List.getElem?_set,if_neg];intro e1;subst e1;rw[hpr] at hp;cases hp
          exact⟨r.setObjsN q2 q1,⟨rfl,rfl,rfl,fun _ _ _ h=>h,s1,q2⟩⟩
        cases y with
        | none =>
          simp only[Option.elim_none] at h
          obtain⟨r1,s1⟩:=key .nilr (fun _ _ _ e=>by cases e) rfl (by
            rcases r.o.rep o _ hob with ⟨_,h1⟩ | ⟨_,_,h1,_⟩
            · exact h1
            · cases h1)
          exact ih α _ _ _ _ _ h F γ a w Q r1 hcl (hp.then s1)
        | some xs =>
          simp only[Option.elim_some] at h
          obtain⟨r1,s1⟩:=key (.arr i e xs false) (fun _ _ _ e=>by cases e) rfl (by
            rcases r.o.rep o _ hob with ⟨h1,_⟩ | ⟨xs',us,h1,h2,h3⟩
            · cases h1
            · cases h1;exact⟨us,h2,h3⟩)
          exact ih α _ _ _ _ _ h F γ a w Q r1 hcl (hp.then s1)
      | _=>simp at h
    | fra x =>
      simp only[den,Option.bind_eq_some_iff] at h;obtain⟨objs1,h1,h2⟩:=h;obtain⟨γ1,r1,s1⟩:=fra_spec r h1;exact ih α _ _ _ _ _ h2 F γ1 a w Q r1 hcl (hp.then s1)
    | hop o t x =>
      simp only[den,Option.bind_eq_some_iff,req_some] at h;obtain⟨⟨b,objs1⟩,h1,h2,h3⟩:=h;obtain⟨γ1,r1,s1⟩:=hop_spec r h1 h2;exact ih α _ _ _ _ _ h3 F γ1 a w Q r1 hcl (hp.then s1)
    | hcl o x =>
      simp only[den,Option.bind_eq_some_iff,req_some] at h;obtain⟨⟨b,objs1⟩,h1,h2,h3⟩:=h;obtain⟨r1,s1⟩:=hcl_spec r h1 h2;exact ih α _ _ _ _ _ h3 F γ a w Q r1 hcl (hp.then s1)
    | slk t x y =>
      simp only[den] at h;exact ih α _ _ _ _ _ h F γ a w Q r hcl hp
    | frz l x =>
      simp only[den,Option.bind_eq_some_iff] at h;obtain⟨objs1,h1,h2⟩:=h;obtain⟨f1,_⟩:=qU r.o h1;have s1:Step σ γ w { σ with objs:=objs1 } γ w:=⟨rfl,rfl,rfl,fun _ _ _ h=>h,fun o _ hp=>f1.prot o hp,f1.keep⟩;exact ih α _ _ _ _ _ h2 F γ a w Q (r.setObjs f1.keep f1.same f1.o) hcl (hp.then s1)
    | join s x =>
      simp only[den,chk_some,Option.bind_eq_some_iff] at h;obtain⟨hho,y,h1,h2⟩:=h;refine ih s.T _ _ _ _ _ h1 F γ a w Q r.enter hcl ⟨fun σ' γ' a' w' hk r' hc' s'=>?_,fun i σ' γ' a' w' hk=>(by cases hk),fun σ' γ' a' w' hk=>(by cases hk)⟩;obtain⟨γF,rF,cF,sF⟩:=qfn r hho r' s'.n (fun t ht e he=>(qf8 (s'.slots t e (by rw[AState.enter];exact(by rw[qcq,mask_bit.2 ht];simp)) he)).1) (fun o ho hl=>s'.objs o ho (by rw[AState.enter];exact(by rw[qcq,qit ho hl];simp))) s'.keep hk;exact hp.n _ γF a' w' h2 rF cF sF
    | joinE s x =>
      simp only[den,chk_some,Option.bind_eq_some_iff] at h;obtain⟨hho,y,h1,h2⟩:=h
      cases y with
      | inl y =>
        refine ih (s.T ⊕ α) _ _ _ _ _ h1 F γ a w Q r.enter hcl ⟨fun σ' γ' a' w' hk r' hc' s'=>?_,fun i σ' γ' a' w' hk=>?_,fun σ' γ' a' w' hk=>?_⟩
        · simp only[Option.map_eq_some_iff,Sum.inl.injEq,exists_eq_right] at hk;obtain⟨γF,rF,cF,sF⟩:=qfn r hho r' s'.n (fun t ht e he=>(qf8 (s'.slots t e (by rw[AState.enter];exact(by rw[qcq,mask_bit.2 ht];simp)) he)).1) (fun o ho hl=>s'.objs o ho (by rw[AState.enter];exact(by rw[qcq,qit ho hl];simp))) s'.keep hk;exact hp.n _ γF a' w' h2 rF cF sF
        · simp at hk
        · simp at hk
      | inr y =>
        simp only[Sum.elim_inr,Option.some.injEq] at h2;subst h2;refine ih (s.T ⊕ α) _ _ _ _ _ h1 F γ a w Q r.enter hcl ⟨fun σ' γ' a' w' hk r' hc' s'=>?_,fun i σ' γ' a' w' hk r' hc' s'=>?_,fun σ' γ' a' w' hk r' hc' s'=>?_⟩
        · simp at hk
        · simp only[Option.map_eq_some_iff,Sum.inr.injEq,exists_eq_right] at hk;exact hp.x i _ γ' a' w' hk r'.leave hc' s'.leave
        · simp only[Option.map_eq_some_iff,Sum.inr.injEq,exists_eq_right] at hk;exact hp.r _ γ' a' w' hk r'.leave hc' s'.leave
    | loop s x =>
      cases c with
      | loop b =>
        simp only[den,chk_some,Option.bind_eq_some_iff] at h;obtain⟨hho,x0,h1,h2⟩:=h;obtain⟨N,h3⟩:=qpo h2;refine wp_loop_rounds N ?_;obtain⟨γ0,r0,c0,s0⟩:=qfn r hho r rfl (fun t ht e he=>(qf8 he).1) (fun o ho hl=>rfl) (Keep.refl _ _ _) h1;clear h1 h2
        have key:∀(N:Nat) (y:s.T) (γ1:Gh) (a1:Act) (w1:World),iterN (fun x_1=>den P env n (s.T ⊕ α) x b ((conc s σ x_1).enter s σ.objs.length) ⟨fun σ'=>Option.map Sum.inl (absT s σ.objs.length σ'),fun i σ'=>Option.map Sum.inr (K.x i (σ'.leave σ)),fun σ'=>Option.map Sum.inr (K.r (σ'.leave σ))⟩) N y=some res →
            Rel F (conc s σ y) γ1 a1 w1→Cl (conc s σ y)→Step σ γ w (conc s σ y) γ1 w1→Code.rounds P b Q N a1 w1:=by
          intro N
          induction N with
          | zero=>intro y γ1 a1 w1 h;simp[iterN] at h
          | succ N ihN =>
            intro y γ1 a1 w1 h r1 c1 s1;rw[rounds_succ];simp only[iterN] at h;have hkeep:∀t∈s.keep,∀e,kf σ.slots t=some e→kf (conc s σ y).slots t=some e:=fun t ht e he=>by
              have hh:=hho;simp only[qhG,Bool.and_eq_true,List.all_eq_true,Bool.not_eq_true'] at hh;obtain⟨⟨⟨hpm,hsl⟩,hndo,hol⟩,hg0,hkn0⟩:=hh;obtain⟨k1,k2,k3⟩:=qf8 he;refine kf_of ?_ k2 k3;unfold conc
              rw[(qeI s.slots y.1 _).2.2.2.2.2.2.2 t (fun q hq e1=>by
                have:=(hsl q hq).1;rw[e1,memN_spec.2 ht] at this
                cases this)]
              show get (keepF σ.slots s.keep) t=some e;rw[qiQ ht];exact he
            have hobj:∀o,o<σ.objs.length→listed o s.objs=false→(conc s σ y).objs[o]?=σ.objs[o]?:=fun o ho hl=>by
              unfold conc;rw[(qeI s.slots y.1 _).2.1 o (Nat.lt_of_lt_of_le ho (qax s.objs y.2 σ.objs))];exact qA s.objs y.2 σ.objs o ho hl
            have hlen:σ.objs.length≤(conc s σ y).objs.length:=s1.len;split at h
            · cases h
            · rename_i z hz;refine ih (s.T ⊕ α) _ _ _ _ _ hz F γ1 a1 w1 _ r1.enter c1 ⟨fun σ' γ' a' w' hk r' hc' s'=>?_,fun i σ' γ' a' w' hk=>?_,fun σ' γ' a' w' hk=>?_⟩
              · simp only[Option.map_eq_some_iff,Sum.inl.injEq,exists_eq_right] at hk;obtain⟨γF,rF,cF,sF⟩:=qfn r hho r' (s'.n.trans s1.n) (fun t ht e he=>(qf8 (s'.slots t e (by rw[AState.enter];exact(by rw[qcq,mask_bit.2 ht];simp)) (hkeep t ht e he))).1)
                  (fun o ho hl=>(s'.objs o (Nat.lt_of_lt_of_le ho hlen) (by rw[AState.enter];exact(by rw[qcq,qit ho hl];simp))).trans (hobj o ho hl)) (s1.keep.trans (s'.keep.less hlen)) hk
                exact ihN z γF a' w' h rF cF sF
              · simp at hk
              · simp at hk
            · rename_i z hz;cases h;refine ih (s.T ⊕ α) _ _ _ _ _ hz F γ1 a1 w1 _ r1.enter c1 ⟨fun σ' γ' a' w' hk r' hc' s'=>?_,fun i σ' γ' a' w' hk r' hc' s'=>?_,fun σ' γ' a' w' hk r' hc' s'=>?_⟩
              · simp at hk
              · simp only[Option.map_eq_some_iff,Sum.inr.injEq,exists_eq_right] at hk;refine hp.x i _ γ' a' w' hk r'.leave hc' (s1.trans ?_);have s2:=s'.leave;exact⟨s2.n,s1.prS.symm,s1.prO.symm,s2.slots,s2.objs,s2.keep⟩
              · simp only[Option.map_eq_some_iff,Sum.inr.injEq,exists_eq_right] at hk;refine hp.r _ γ' a' w' hk r'.leave hc' (s1.trans ?_);have s2:=s'.leave;exact⟨s2.n,s1.prS.symm,s1.prO.symm,s2.slots,s2.objs,s2.keep⟩
        exact key N x0 γ0 a w h3 r0 c0 s0
      | _=>simp[den] at h
end
end Go.Den
namespace Go.Den
open Go.Eng (qae CellsAt Chg InR adr aggOf)
set_option linter.unusedVariables false
set_option linter.unusedSectionVars false
set_option linter.unusedSimpArgs false
variable [CT : Ctx]

section
variable {P : Program} {env : Env} [DqAll P]

def Ty.nref:Ty→Bool
  | .ref=>false
  | .sl e=>e.nref
  | .osl _ e=>e.nref
  | .obx e=>e.nref
  | .onl _ e=>e.nref
  | .hrl _ p q _ _=>p.nref&&q.nref
  | .st f r=>f.nref&&r.nref
  | _=>true
theorem qa2 {w:World} {p:Nat→Prop} {m m':Nat→Option Nat}:∀(τ:Ty) {x:D τ} {M:List Nat} {cs:List Value},τ.nref=true→Rep w ⟨p,m⟩ τ x M cs→Rep w ⟨p,m'⟩ τ x M cs
  | .int _,_,_,_,_,h=>h
  | .bool,_,_,_,_,h=>h
  | .str,_,_,_,_,h=>h
  | .nil,_,_,_,_,h=>h
  | .ref,_,_,_,hn,_=>by cases hn
  | .sl e,xs,M,cs,hn,h=>by
    obtain⟨hM,ao,cap,us,h1,h2,h3,h4⟩:=h;exact⟨hM,ao,cap,us,h1,h2,h3.mono fun x c hx=>qa2 e hn hx,h4⟩
  | .osl i e,xs,M,cs,hn,h=>by
    obtain⟨v,us,h1,h2,h3⟩:=h;exact⟨v,us,h1,h2,h3.mono fun x c hx=>qa2 e hn hx⟩
  | .obx e,x,M,cs,hn,h=>by
    obtain⟨b,M',T,cells,h1,h2,h3,h4⟩:=h;exact⟨b,M',T,cells,h1,h2,h3,qa2 e hn h4⟩
  | .onl i e,x,M,cs,hn,h=>by
    rcases h with h | ⟨xs,v,us,h0,h1,h2,h3⟩
    · exact .inl h
    · exact .inr ⟨xs,v,us,h0,h1,h2,h3.mono fun x c hx=>qa2 e hn hx⟩
  | .hrl i p q j b,x,M,cs,hn,h=>by
    simp only[Ty.nref,Bool.and_eq_true] at hn;obtain⟨v,us,b1,b2,h,e1,e2,h1,h2,h3⟩:=h;exact⟨v,us,b1,b2,h,e1,e2,h1,h2.mono (ElR.mono (fun x c hx=>qa2 p hn.1 hx) (fun x c hx=>qa2 q hn.2 hx) fun ks v hk=>hk),h3⟩
  | .err,_,_,_,_,h=>h
  | .bld t i,xs,M,cs,_,h=>h
  | .ifc _ _,_,_,_,_,h=>h
  | .omp _ _,_,_,_,_,h=>h
  | .st f r,x,M,cs,hn,h=>by
    simp only[Ty.nref,Bool.and_eq_true] at hn;obtain⟨c1,c2,M1,M2,h1,h2,h3,h4⟩:=h;exact⟨c1,c2,M1,M2,h1,h2,qa2 f hn.1 h3,qa2 r hn.2 h4⟩
theorem qmn {w:World} {p:Nat→Prop} {m m':Nat→Option Nat}:∀ {ps:List Ty} {x:DL ps} {vs:List Value},ps.all Ty.nref=true→ArgsR w ⟨p,m⟩ ps x vs→ArgsR w ⟨p,m'⟩ ps x vs
  | [],_,_,_,h=>h
  | τ::r,x,_,hn,⟨v,q,e,⟨cs,h1,h2⟩,h3⟩=>by
    simp only[List.all_cons,Bool.and_eq_true] at hn;exact⟨v,q,e,⟨cs,qa2 τ hn.1 h1,h2⟩,qmn hn.2 h3⟩
theorem qek {objs:List OB} {γ:Gh} {w:World} {S:Sp} (hS:Sp.le S (Imm objs γ w)):∀ {ps:List Ty} {x:DL ps} {vs:List Value},ArgsR w S ps x vs→PRL objs γ w (qdN ps x) vs
  | [],_,_,h=>h
  | τ::r,x,_,⟨v,q,e,⟨cs,h1,h2⟩,h3⟩=>by
    refine⟨v,q,e,?_,qek hS h3⟩;have:=qG τ (Rep.mono hS (fun _ _=>rfl) τ h1 (by simp));rw[h2];exact qaN (qb8 τ x.1) this
theorem qbK:∀(ps:List Ty) (x:DL ps),(qdN ps x).length=ps.length
  | [],_=>rfl
  | _::r,x=>by simp[qdN,qbK r x.2]
theorem qcF {objs:List OB} {γ:Gh} {w:World} {σ:AState} (hσ:σ.objs=objs):∀ {vs:List PV} {ts:List Ty} {cs:List Cv} {vals:List Value},qcE vs ts=some cs→PRL objs γ w vs vals→∃cells,VRL objs γ w cs cells∧tupV ts cells=vals∧vals.length=ts.length
  | [],[],cs,vals,h,hv=>by
    simp only[qcE,Option.some.injEq] at h;subst h;simp only[PRL] at hv;subst hv;exact⟨[],rfl,rfl,rfl⟩
  | v::vs,τ::ts,cs,vals,h,⟨u,q,e,h1,h2⟩=>by
    simp only[qcE,Option.bind_eq_some_iff,chk_some,Bool.and_eq_true,Option.some.injEq] at h;obtain⟨l,h3,⟨h4,h5⟩,q2,h6,rfl⟩:=h;subst hσ;have hvl:=qaz h3 h1
    have hl:u.cells.toList.length=τ.size:=by rw[hvl.length];exact Nat.eq_of_beq_eq_true h4
    obtain⟨cells,h7,h8,h9⟩:=qcF rfl h6 h2;refine⟨u.cells.toList++cells,hvl.append h7,?_,by simp[e,h9]⟩;simp only[tupV];rw[←hl,List.take_left,List.drop_left,h8,e,←qi1 h3 h5 h1]
  | [],_::_,_,_,h,_=>by simp[qcE] at h
  | _::_,[],_,_,h,_=>by simp[qcE] at h
theorem qjK:∀(b:Bool) (ps:List Ty) (x:DL ps),(qla b ps x).length≤ps.length
  | false,ps,x=>Nat.le_of_eq (qbK ps x)
  | true,[],_=>Nat.le_refl _
  | true,_::r,x=>by simp[qla,qbK r x.2]
theorem ql0 {objs:List OB} {γ:Gh} {w:World} {S:Sp} (hS:Sp.le S (Imm objs γ w)) {b:Bool} {ps:List Ty} {x:DL ps} {vs:List Value} (h:ArgsB w S b ps x vs):PRL objs γ w (qla b ps x) vs:=by
  cases b with
  | false=>exact qek hS h
  | true =>
    cases ps with
    | nil=>exact h.elim
    | cons τ r =>
      obtain⟨a,us,q,e,h1,h2,h3,h4,h5⟩:=h;exact⟨_,q,e,⟨a,us,rfl,h1,fun hne=>hS _ (h2 hne),h3,qG τ (Rep.mono hS (fun _ _=>rfl) τ h4 (by simp))⟩,qek hS h5⟩
theorem qnV (hE:EnvOK P env) (hm:P.follows .mixedOrders=true) {f:FuncId} {fn:Func} (hf:P.funcs[f]?=some fn) {body:Code} (hb:fn.body=some body) (c:Con) (ann:Ann) (hone:(c.one || !Nat.beq c.res.length 1)=true) (hnr:c.ρ.nref=true)
    {w:World} {S:Sp} {args:Array Value} {r:D c.ρ} {objs0:List OB} {pvs:List PV} {γ:Gh} (hγS:γ.S=fun k=>S k∨w.heap.size≤k) (hor:ORel ⟨w,[]⟩ objs0 γ w) (hv:PRL objs0 γ w pvs args.toList) (hn:pvs.length≤fn.ntmps)
    (hr:den P env 10000 (D c.ρ) ann body ⟨fn.ntmps,qaG 0 pvs,objs0,0,0,0,[]⟩ ⟨retK P fn c.one c.res c.ρ,fun _ _=>none,retK P fn c.one c.res c.ρ⟩=some r) :
    Calls P f args w (fun e w'=>∃v,e = .returned v∧Chg [] w w'∧ResR w w' S c r v):=by
  have r00:Rel ⟨w,[]⟩ ⟨0,[],objs0,0,0,0,[]⟩ γ { tmps:=#[],defers:=[] } w:=⟨rfl,fun d hd=>(by cases hd),fun t tg pv h=>by simp[get] at h,fun t tg pv h=>by simp[get] at h,fun t tg pv h=>by simp[get] at h,fun x hx=>(by cases hx),hor⟩;have r0:=qg7 (n:=fn.ntmps) r00 hv hn
  have hlast:∀σ' γ' a' w',retK P fn c.one c.res c.ρ σ'=some r→Rel ⟨w,[]⟩ σ' γ' a' w'→Step ⟨fn.ntmps,qaG 0 pvs,objs0,0,0,0,[]⟩ γ w σ' γ' w' →
      ∃v,(results fn a'.tmps).run P w' = .ok v w'∧∃v2,Ending.returned v = .returned v2∧Chg [] w w'∧ResR w w' S c r v2:=by
    intro σ' γ' a' w' hk r' s';simp only[retK,Option.bind_eq_some_iff] at hk;obtain⟨vs,h1,cs,h2,h3⟩:=hk;obtain⟨vals,h4,h5,h6⟩:=qcI (P:=P) r' h1;refine⟨_,qed h5 h6,_,rfl,r'.o.chg,?_⟩;obtain⟨cells,h7,h8,h9⟩:=qcF rfl h2 h4;simp only[retD,chk_some,Bool.and_eq_true,List.all_eq_true,Bool.not_eq_true'] at h3;obtain⟨⟨hnd,hdis⟩,h10⟩:=h3;have hmut:=(qS (S:=⟨fun _=>True,γ'.m⟩) r'.o ⟨fun _ _=>trivial,fun _ _ h=>h⟩ c.ρ h10 h7 (fun _ _ _ _=>trivial)).2;have hSeq:γ'.S=fun k=>S k∨w.heap.size≤k:=s'.keep.s.trans hγS;have hMmem:∀b∈blocks γ' (idsO σ'.objs c.ρ cs),∃o∈idsO σ'.objs c.ρ cs,(γ' o).2=some b:=fun b hb=>by
      obtain⟨o,ho,hb'⟩:=List.mem_flatMap.1 hb;exact⟨o,ho,by simpa using hb'⟩
    have hrep:=(qS (S:=⟨fun k=>k<w'.heap.size∧(S k∨w.heap.size≤k)∧k∉blocks γ' (idsO σ'.objs c.ρ cs),γ'.m⟩) r'.o ⟨fun k hk=>⟨hk.lt,by have:=hk.s;rw[hSeq] at this;exact this,fun hm=>by
      obtain⟨o,ho,hb⟩:=hMmem k hm
      exact hk.own o (hmut o ho) hb⟩,fun _ _ h=>h⟩ c.ρ h10 h7 (fun o ho b hb=>by
      have hdo:=qd4 c.ρ h10 ho
      have hlto:o<σ'.objs.length:=by rcases hdo with ⟨_,_,_,h⟩ | ⟨_,h,_⟩<;>exact qj h
      have hnm:b∉blocks γ' (idsO σ'.objs c.ρ cs):=fun hm=>by
        obtain⟨o',ho',hb'⟩:=hMmem b hm;rcases hdo with ⟨i,e,xs,hob⟩ | ⟨ob,hob,hdb⟩
        · exact(r'.o.frz o i e xs b hob hb).own o' (hmut o' ho') hb'
        · have e1:=r'.o.inj o o' b ⟨_,hob,qeR hdb⟩ (hmut o' ho') hb hb';subst e1;have:=hdis o ho;rw[memN_spec.2 ho'] at this;cases this
      refine⟨r'.o.lt o b hlto hb,?_,hnm⟩;rcases hdo with ⟨i,e,xs,hob⟩ | ⟨ob,hob,hdb⟩
      · have:=(r'.o.frz o i e xs b hob hb).s;rw[hSeq] at this;exact this
      · rcases r'.o.own o b ⟨_,hob,qeR hdb⟩ hb with h11 | h11
        · exact .inr h11
        · cases h11)).1
    refine⟨_,cells,qa8 r'.o (qa6 hnd) hmut,fun b hb=>?_,qa2 c.ρ hnr hrep,?_⟩
    · obtain⟨o,ho,hb'⟩:=hMmem b hb;rcases r'.o.own o b (hmut o ho) hb' with h11 | h11
      · exact h11
      · cases h11
    · unfold resV
      cases hc1:c.one with
      | true =>
        rw[hc1] at h8 h9;simp only[qgT,cond_true,tupV] at h8;rw[←h8]
        have hl:cells.length=c.ρ.size:=by rw[Rep.length c.ρ hrep]
        rw[←hl,List.take_length];rfl
      | false =>
        rw[hc1] at h8 h9 hone;simp only[qgT,cond_false] at h8 h9;simp only[Bool.false_or,Bool.not_eq_true'] at hone;rw[h8]
        have hne:vals.length≠1:=fun e=>by rw[←h9,e] at hone;cases hone
        match vals,hne with
        | [],_=>rfl
        | [_],hne=>exact absurd rfl hne
        | _::_::_,_=>rfl
  have:=(qjj hE hm 10000 (D c.ρ)).1 ann body _ _ r hr ⟨w,[]⟩ γ _ w (bodyPostD P fn fun e w'=>∃v,e = .returned v∧Chg [] w w'∧ResR w w' S c r v) r0 ⟨rfl,rfl⟩
    ⟨fun σ' γ' a' w' hk r' _ s'=>qbw r'.defers fun w'' hch=>hlast σ' γ' a' w'' hk (r'.ext hch) (s'.trans (Step.ext hch)),fun i σ' γ' a' w' hk=>(by cases hk),fun σ' γ' a' w' hk r' _ s'=>qbw r'.defers fun w'' hch=>hlast σ' γ' a' w'' hk (r'.ext hch) (s'.trans (Step.ext hch))⟩
  have hcalls:=calls_of_wp_defers (args:=args) hf hb (by simpa using this);exact hcalls
theorem qi7 (hE:EnvOK P env) (hm:P.follows .mixedOrders=true) {f:FuncId} {fn:Func} (hf:P.funcs[f]?=some fn) (b:Bool) (c:Con) (ann:Ann)
    (hok:(fn.body.isSome&&(Nat.ble c.ps.length fn.ntmps&&(c.ps.all Ty.pure&&((c.one || !Nat.beq c.res.length 1)&&c.ρ.nref))))=true) (hwf:c.one=false→c.ρ=stOf c.res) (htt:∀g,c.tot=some g→∀x,c.φ x=some (g x))
    (h:∀x,c.φ x=denB P env ann fn b c.ps c.one c.res c.ρ x):ConB P f b c:=by
  simp only[Bool.and_eq_true] at hok;obtain⟨hbody,hn,hpure,hone,hnr⟩:=hok;have hn:=Nat.le_of_ble_eq_true hn;refine⟨hpure,hwf,htt,fun w S args x r hS hTab hargs hr=>?_⟩;obtain⟨body,hb⟩:=Option.isSome_iff_exists.1 hbody
  have hbo:Eng.bodyOf fn=body:=by simp[Eng.bodyOf,hb]
  rw[h x] at hr;unfold denB at hr;rw[hbo] at hr
  let γ:Gh:=⟨fun _=>(undef,none),fun k=>S k∨w.heap.size≤k,S.m,[],fun _ _=>none⟩
  have hSI:Sp.le S (Imm [] γ w):=⟨fun k hk=>⟨hS k hk,.inl hk,fun o hm=>by obtain⟨ob,h1,_⟩:=hm;simp at h1,fun h=>(nomatch h)⟩,fun _ _ h=>h⟩
  have hor:ORel ⟨w,[]⟩ [] γ w:=⟨fun o ob ho=>by simp at ho,fun o o' b hm=>by obtain⟨ob,h1,_⟩:=hm;simp at h1,fun o b hm=>by obtain⟨ob,h1,_⟩:=hm;simp at h1,fun o b ho=>by simp at ho,Chg.refl _ _,fun o i e xs b ho=>by simp at ho,
    fun k hk => .inr (hk.elim id (fun h=>nomatch h)),hTab.mono hSI (fun _ _=>rfl),fun k h=>(nomatch h),fun o b hm=>by obtain⟨ob,h1,_⟩:=hm;simp at h1,fun o t p ow xs lent ho=>by simp at ho⟩
  exact qnV hE hm hf hb c ann (by simpa using hone) hnr (γ:=γ) rfl hor (ql0 hSI hargs) (Nat.le_trans (qjK b c.ps x) hn) hr
theorem qjk (hE:EnvOK P env) (hm:P.follows .mixedOrders=true) {f:FuncId} {fn:Func} (hf:P.funcs[f]?=some fn) (c:Con) (nd:TypeId×Ty×Option TypeId) (ann:Ann)
    (hok:(fn.body.isSome&&(Nat.ble c.ps.length fn.ntmps&&(c.ps.all Ty.pure&&((c.one || !Nat.beq c.res.length 1)&&(c.ρ.nref&&c.ps.all Ty.nref)))))=true) (hwf:c.one=false→c.ρ=stOf c.res) (htt:∀g,c.tot=some g→∀x,c.φ x=some (g x))
    (h:∀x,c.φ x=denA P env ann fn nd c.ps c.one c.res c.ρ x):ConOK P f c:=by
  simp only[Bool.and_eq_true] at hok;obtain⟨hbody,hn,hpure,hone,hnr,hnp⟩:=hok;have hn:=Nat.le_of_ble_eq_true hn;refine⟨hpure,hwf,htt,fun w S args x r hS hTab hargs hr=>?_⟩;obtain⟨body,hb⟩:=Option.isSome_iff_exists.1 hbody
  have hbo:Eng.bodyOf fn=body:=by simp[Eng.bodyOf,hb]
  rw[h x] at hr;unfold denA at hr;rw[hbo] at hr
  let γ:Gh:=⟨fun _=>(undef,none),fun k=>S k∨w.heap.size≤k,fun _=>none,[],fun _ _=>none⟩
  have hnm:∀o,¬Mut [OB.ar nd.1 nd.2.1 nd.2.2 [] none] o:=fun o hm=>by
    obtain⟨ob,h1,h2⟩:=hm
    match o,h1 with
    | 0,h1=>cases h1;cases h2
    | n+1,h1=>simp at h1
  have hSI:Sp.le ⟨S.p,fun _=>none⟩ (Imm [OB.ar nd.1 nd.2.1 nd.2.2 [] none] γ w):=⟨fun k hk=>⟨hS k hk,.inl hk,fun o hm=>absurd hm (hnm o),fun h=>(nomatch h)⟩,fun _ _ h=>h⟩;have hget:∀(o:Nat) (ob:OB),([OB.ar nd.1 nd.2.1 nd.2.2 [] none]:List OB)[o]?=some ob→ob=OB.ar nd.1 nd.2.1 nd.2.2 [] none:=fun o ob ho=>by
    cases o with
    | zero=>simpa using ho.symm
    | succ n=>simp at ho
  have hor:ORel ⟨w,[]⟩ [OB.ar nd.1 nd.2.1 nd.2.2 [] none] γ w:=⟨fun o ob ho=>by rw[hget o ob ho];rfl,fun o o' b hm=>absurd hm (hnm o),fun o b hm=>absurd hm (hnm o),fun o b _ hb=>(by cases hb),Chg.refl _ _,fun o i e xs b ho=>(by cases hget o _ ho),
    fun k hk => .inr (hk.elim id (fun h=>nomatch h)),hTab.mono hSI (fun _ _=>rfl),fun k h=>(nomatch h),fun o b hm=>absurd hm (hnm o),fun o t p ow xs lent ho=>by
      cases hget o _ ho
      exact⟨[],[],ArW.mk rfl rfl rfl (fun _=>rfl) List.nodup_nil (fun i q x h h1=>by simp at h1),fun k h=>(nomatch h),fun i v h=>by simp at h,fun _ _=>rfl⟩⟩
  exact qnV hE hm hf hb c ann (by simpa using hone) hnr (γ:=γ) rfl hor (qek hSI (qmn (m:=S.m) hnp hargs)) (Nat.le_trans (Nat.le_of_eq (qbK c.ps x)) hn) hr
theorem qi (hE:EnvOK P env) (hm:P.follows .mixedOrders=true) {f:FuncId} {fn:Func} (hf:P.funcs[f]?=some fn) (c:Con) (ann:Ann)
    (hok:(fn.body.isSome&&(Nat.ble c.ps.length fn.ntmps&&(c.ps.all Ty.pure&&((c.one || !Nat.beq c.res.length 1)&&c.ρ.nref))))=true) (hwf:c.one=false→c.ρ=stOf c.res) (htt:∀g,c.tot=some g→∀x,c.φ x=some (g x))
    (h:∀x,c.φ x=denF P env ann fn c.ps c.one c.res c.ρ x):ConOK P f c:=(qi7 hE hm hf false c ann hok hwf htt h).ok
theorem rd_of_den (hE:EnvOK P env) (hm:P.follows .mixedOrders=true) {f:FuncId} {fn:Func} (hf:P.funcs[f]?=some fn) (c:Con) (ann:Ann)
    (hok:(fn.body.isSome&&(Nat.ble c.ps.length fn.ntmps&&(c.ps.all Ty.pure&&((c.one || !Nat.beq c.res.length 1)&&c.ρ.nref))))=true) (hwf:c.one=false→c.ρ=stOf c.res) (htt:∀g,c.tot=some g→∀x,c.φ x=some (g x))
    (h:∀x,c.φ x=denB P env ann fn true c.ps c.one c.res c.ρ x):qiY P f c:=qi7 hE hm hf true c ann hok hwf htt h

theorem ql4 {T α:Type} {G:(T→Option α)→T→Option α} {x:T} {r:α} (h:fixW G x=some r):∃n,fixN G n x=some r:=by
  unfold fixW at h;split at h
  · exact⟨_,h⟩
  · cases h
theorem rd_fix {f:FuncId} {ps:List Ty} {one:Bool} {rs:List Ty} {ρ:Ty} {G:(DL ps→Option (D ρ))→DL ps→Option (D ρ)} (hpure:ps.all Ty.pure=true) (hwf:one=false→ρ=stOf rs)
    (h:∀φ,qiY P f ⟨ps,one,rs,ρ,φ,none⟩→qiY P f ⟨ps,one,rs,ρ,G φ,none⟩):qiY P f ⟨ps,one,rs,ρ,fixW G,none⟩:=by
  have key:∀n,qiY P f ⟨ps,one,rs,ρ,fixN G n,none⟩:=by
    intro n
    induction n with
    | zero=>exact⟨hpure,hwf,fun g hg=>(by cases hg),fun w S args x r _ _ _ hr=>by simp[fixN] at hr⟩
    | succ n ih=>exact h _ ih
  exact⟨hpure,hwf,fun g hg=>(by cases hg),fun w S args x r hS hTab ha hr=>by
    obtain⟨n,hn⟩:=ql4 hr
    exact(key n).calls w S args x r hS hTab ha hn⟩
end

def tyE:Eng.Ty→Ty
  | .int k => .int k
  | .bool => .bool
  | .str => .str
  | .sl e => .sl (tyE e)
  | .nil => .nil
  | .st f r => .st (tyE f) (tyE r)
def dE:(τ:Eng.Ty)→Eng.D τ→D (tyE τ)
  | .int _,n=>n
  | .bool,b=>b
  | .str,s=>s
  | .sl e,(_,_,xs)=>xs.map (dE e)
  | .nil,_=>()
  | .st f r,(x,y)=>(dE f x,dE r y)
def RngL {A:Type} (m:Nat) (R:A→Prop) (xs:List A):Prop:=xs.length≤m∧∀x∈xs,R x
def Rng:(τ:Ty)→D τ→Prop
  | .int k,n=>InR k n
  | .bool,_=>True
  | .str,s=>s.size≤maxLen
  | .sl e,xs=>RngL maxLen (Rng e) xs
  | .osl _ e,xs=>RngL maxLen (Rng e) xs
  | .obx e,x=>Rng e x
  | .onl _ _,_=>True
  | .hrl _ _ _ _ _,_=>True
  | .err,_=>True
  | .bld _ _,_=>True
  | .nil,_=>True
  | .ref,_=>True
  | .ifc _ _,_=>True
  | .omp _ _,_=>True
  | .st f r,x=>Rng f x.1∧Rng r x.2
def posE:Eng.Ty→Bool
  | .sl e=>!Nat.beq e.size 0&&posE e
  | .st f r=>posE f&&posE r
  | _=>true
theorem rng_of:∀(τ:Eng.Ty) {y:Eng.D τ} {w:World},Eng.Ok w τ y→Rng (tyE τ) (dE τ y)
  | .int _,_,_,h=>h
  | .bool,_,_,_=>trivial
  | .str,_,_,h=>h
  | .nil,_,_,_=>trivial
  | .sl e,(ao,cap,xs),w,h=>by
    obtain⟨h1,h2,h3⟩:=h;refine⟨by simp only[dE,List.length_map];omega,fun x hx=>?_⟩;obtain⟨y,hy,rfl⟩:=List.mem_map.1 hx;obtain⟨i,hi,rfl⟩:=List.mem_iff_getElem.1 hy;exact rng_of e (h3 i hi).2.2
  | .st f r,(x,y),w,h=>⟨rng_of f h.1,rng_of r h.2⟩
theorem qoa:∀(τ:Eng.Ty) {y:Eng.D τ} {w:World},posE τ=true→Eng.Ok w τ y→Rep w ⟨fun k=>k<w.heap.size,fun _=>none⟩ (tyE τ) (dE τ y) [] (Eng.enc τ y)
  | .int _,_,_,_,h=>⟨rfl,rfl⟩
  | .bool,_,_,_,_=>⟨rfl,rfl⟩
  | .str,_,_,_,h=>⟨rfl,rfl⟩
  | .nil,_,_,_,_=>⟨rfl,rfl⟩
  | .sl e,(ao,cap,xs),w,hp,h=>by
    simp only[posE,Bool.and_eq_true,Bool.not_eq_true'] at hp;obtain⟨h1,h2,h3⟩:=h;have hpos:0<e.size:=by
      rcases Nat.eq_zero_or_pos e.size with h0 | h0
      · rw[h0] at hp;cases hp.1
      · exact h0
    refine⟨rfl,ao,cap,(xs.map (Eng.enc e)).flatten,by simp[dE,Eng.enc],by simpa[dE] using h1,?_,fun hne=>?_⟩
    · clear h1 h2;have:∀(l:List (Eng.D e)),(∀x∈l,Eng.Ok w e x)→RepL (fun x c=>Rep w ⟨fun k=>k<w.heap.size,fun _=>none⟩ (tyE e) x [] c) (l.map (dE e)) (l.map (Eng.enc e)).flatten:=by
        intro l
        induction l with
        | nil=>intro _;rfl
        | cons x l ih=>intro hl;exact⟨_,_,rfl,qoa e hp.2 (hl x List.mem_cons_self),ih fun y hy=>hl y (List.mem_cons_of_mem _ hy)⟩
      exact this xs fun x hx=>by
        obtain⟨i,hi,rfl⟩:=List.mem_iff_getElem.1 hx;exact(h3 i hi).2.2
    · have hx:xs≠[]:=fun e=>hne (by subst e;rfl);have hl0:0<xs.length:=List.length_pos_iff.2 hx;have hs:=(h3 0 hl0).1;obtain⟨ad,rfl⟩:=Option.isSome_iff_exists.1 hs;have hcells:CellsAt w ad (xs.map (Eng.enc e)).flatten:=by
        intro j v hv;have key:∀(l:List (Eng.D e)) (j:Nat) (v:Value),((l.map (Eng.enc e)).flatten)[j]?=some v→∃i,∃hi:i<l.length,∃m,j=i*e.size+m∧(Eng.enc e l[i])[m]?=some v:=by
          intro l
          induction l with
          | nil=>intro j v h;simp at h
          | cons x l ih =>
            intro j v h;simp only[List.map_cons,List.flatten_cons] at h;by_cases hj:j<(Eng.enc e x).length
            · rw[List.getElem?_append_left hj] at h;exact⟨0,by simp,j,by simp,h⟩
            · rw[List.getElem?_append_right (by omega)] at h;obtain⟨i,hi,m,h4,h5⟩:=ih _ v h;rw[Eng.enc_length] at h4 hj;refine⟨i+1,by simpa using hi,m,?_,by simpa using h5⟩;rw[Nat.add_mul];omega
        obtain⟨i,hi,m,rfl,h5⟩:=key xs j v hv;have:=(h3 i hi).2.1 m v h5;rw[←qnx];exact this
      refine⟨ad,rfl,?_,hcells⟩;obtain⟨v,hv⟩:∃v,(Eng.enc e xs[0])[0]?=some v:=⟨_,List.getElem?_eq_getElem (Nat.lt_of_lt_of_le hpos (Nat.le_of_eq (Eng.enc_length e xs[0]).symm))⟩;have:=(h3 0 hl0).2.1 0 v hv;have hb:=World.block_lt_of_cell? w _ this;rw[Eng.add_block,Eng.add_block] at hb;exact hb
  | .st f r,(x,y),w,hp,h=>by
    simp only[posE,Bool.and_eq_true] at hp;exact⟨_,_,[],[],rfl,rfl,qoa f hp.1 h.1,qoa r hp.2 h.2⟩
theorem arg_of (τ:Eng.Ty) {y:Eng.D τ} {w:World} (hp:posE τ=true) (h:Eng.Ok w τ y):ArgR w ⟨fun k=>k<w.heap.size,fun _=>none⟩ (tyE τ) (dE τ y) (Eng.handV τ y):=by
  refine⟨_,qoa τ hp h,?_⟩
  cases τ with
  | sl e=>obtain⟨ao,cap,xs⟩:=y;rfl
  | _=>rfl
theorem law_call {P:Program} {f:FuncId} {ps:List Ty} {φ:DL ps→Option Bool} {t:Option (DL ps→Bool)} (hc:ConOK P f ⟨ps,true,[],.bool,φ,t⟩) {w:World} {args:Array Value} {x:DL ps} (hT:TabR (fun k=>k<w.heap.size) w) (ha:ArgsR w ⟨fun k=>k<w.heap.size,fun _=>none⟩ ps x args.toList) (ht:φ x=some true) :
    Calls P f args w fun e w'=>e = .returned (.bool true)∧RowKit.Below w.heap.size w w':=by
  refine(hc.calls w _ args x true (fun _ h=>h) hT ha ht).mono fun e w' hh=>?_;obtain⟨v,rfl,hch,M,cs,_,_,hrep,hv⟩:=hh;refine⟨?_,hch.toBelow⟩;obtain⟨_,rfl⟩:M=[]∧cs=[.bool true]:=hrep;rw[hv];rfl
end Go.Den
namespace Go.Den
open Go.Eng (qae CellsAt Chg InR adr aggOf)
set_option linter.unusedVariables false
set_option linter.unusedSectionVars false
set_option linter.unusedSimpArgs false
variable [CT : Ctx]

section
variable {P : Program} {env : Env} [DqAll P]
theorem qfa {objs:List OB} {γ:Gh} {w:World} {S:Sp} (hS:Sp.le S (Imm objs γ w)):∀ {ps:List Ty} {x:DL ps} {vs:List Value},ArgsR w S ps x vs→PRL objs γ w (qdN ps x) vs
  | [],_,_,h=>h
  | τ::r,x,_,⟨v,q,e,⟨cs,h1,h2⟩,h3⟩=>by
    refine⟨v,q,e,?_,qfa hS h3⟩;have:=qG τ (Rep.mono hS (fun _ _=>rfl) τ h1 (by simp));rw[h2];exact qaN (qb8 τ x.1) this
theorem qpa (hE:EnvOK P env) (hm:P.follows .mixedOrders=true) {f:FuncId} {fn:Func} (hf:P.funcs[f]?=some fn) (c:Ioc) (ann:Ann)
    (hok:(fn.body.isSome&&(Nat.ble (c.ps.length+1) fn.ntmps&&(c.ps.all Ty.pure&&((c.one || !Nat.beq c.res.length 1)&&(c.bx.nref&&c.ρ.nref)))))=true) (hwf:c.one=false→c.ρ=stOf c.res)
    (h:∀x,c.φ x=denIO P env ann fn c.bx c.ps c.one c.res c.ρ x):IocOK P f c:=by
  simp only[Bool.and_eq_true] at hok;obtain⟨hbody,hn,hpure,hone,hnb,hnr⟩:=hok
  have hone:(c.one || !Nat.beq c.res.length 1)=true:=by simpa using hone
  have hn:=Nat.le_of_ble_eq_true hn;refine⟨hpure,hwf,fun w S b T cs M args x r hS hTab hheap hMnd hbM hrep hargs hr=>?_⟩;obtain⟨body,hb⟩:=Option.isSome_iff_exists.1 hbody
  have hbo:Eng.bodyOf fn=body:=by simp[Eng.bodyOf,hb]
  rw[h x] at hr;unfold denIO at hr;rw[hbo] at hr;have hblt:b<w.heap.size:=(Array.getElem?_eq_some_iff.1 hheap).1;have hMlt:=qoh c.bx hrep;obtain⟨gs,hgl,hgM,hgp⟩:=qbU c.bx hrep 1;obtain⟨q,hq⟩:∃q,cc c.bx x.1 1=q:=⟨_,rfl⟩;rw[hq] at hgl hgp hr
  let γ:Gh:=⟨fun o=>match o with
    | 0=>(.pointer (some ⟨b,0,none⟩),some b)
    | j+1=>(gs[j]?).getD (undef,none),fun k=>S k∨w.heap.size≤k∨k∈b::M,S.m,[],fun _ _=>none⟩
  have hγ:∀j g,gs[j]?=some g→γ (1+j)=g:=fun j g hj=>by
    rw[Nat.add_comm];show(gs[j]?).getD (undef,none)=g;rw[hj];rfl
  have hblocks:∀o k,o<(OB.box q.1::q.2).length→(γ o).2=some k→k∈b::M:=fun o k ho hk=>by
    cases o with
    | zero=>simp[γ] at hk;simp[hk]
    | succ j =>
      have hj:j<gs.length:=by rw[hgl];simpa using ho
      have:=hγ j _ (List.getElem?_eq_getElem hj);rw[Nat.add_comm] at this;rw[this] at hk;refine List.mem_cons_of_mem _ ?_;rw[hgM];exact List.mem_flatMap.2 ⟨_,List.getElem_mem hj,by simp[hk]⟩
  have hSI:Sp.le S (Imm (OB.box q.1::q.2) γ w):=⟨fun k hk=>⟨(hS k hk).1,.inl hk,fun o hm hb'=>by
    obtain⟨ob,h1,_⟩:=hm;rcases List.mem_cons.1 (hblocks o k (qj h1) hb') with e | e
    · exact(hS k hk).2.1 e
    · exact(hS k hk).2.2 e,fun h=>(nomatch h)⟩,fun _ _ h=>h⟩
  obtain⟨hv1,hv2⟩:=hgp (OB.box q.1::q.2) γ hSI hγ (by simp[hgl];omega);have hor:ORel ⟨w,b::M⟩ (OB.box q.1::q.2) γ w:=by
    refine⟨fun o ob ho=>?_,fun o o' k h1 h2 hb1 hb2=>?_,fun o k hm hk => .inr ?_,fun o k ho hk=>?_,Chg.refl _ _,fun o i e xs k ho hk=>?_,fun k hk=>?_,hTab.mono hSI (fun _ _=>rfl),fun k h=>(nomatch h),fun o k _ _ h=>(nomatch h),fun o t p ow xs lent ho=>by
      cases o with
      | zero=>simp at ho
      | succ j =>
        simp only[List.getElem?_cons_succ] at ho
        have hj:j<gs.length:=by rw[hgl];exact qj ho
        cases (hv2 j _ _ ho (List.getElem?_eq_getElem hj)).2⟩
    · cases o with
      | zero=>simp at ho;subst ho;exact⟨b,T,cs,rfl,hheap,hv1⟩
      | succ j =>
        simp only[List.getElem?_cons_succ] at ho
        have hj:j<gs.length:=by rw[hgl];exact qj ho
        have:=(hv2 j ob _ ho (List.getElem?_eq_getElem hj)).1;have e:=hγ j _ (List.getElem?_eq_getElem hj);rw[Nat.add_comm] at e;rw[e];exact this
    · have key:∀o k,o<(OB.box q.1::q.2).length→(γ o).2=some k→(o=0∧k=b)∨∃j g,o=j+1∧gs[j]?=some g∧g.2=some k∧k∈M:=fun o k ho hk=>by
        cases o with
        | zero=>simp[γ] at hk;exact .inl ⟨rfl,hk.symm⟩
        | succ j =>
          have hj:j<gs.length:=by rw[hgl];simpa using ho
          have e:=hγ j _ (List.getElem?_eq_getElem hj);rw[Nat.add_comm] at e;rw[e] at hk;exact .inr ⟨j,_,rfl,List.getElem?_eq_getElem hj,hk,by rw[hgM];exact List.mem_flatMap.2 ⟨_,List.getElem_mem hj,by simp[hk]⟩⟩
      rcases key o k h1.lt hb1 with ⟨rfl,e1⟩ | ⟨j1,g1,rfl,hg1,hk1,m1⟩<;>rcases key o' k h2.lt hb2 with ⟨rfl,e2⟩ | ⟨j2,g2,rfl,hg2,hk2,m2⟩
      · rfl
      · exact absurd (e1▸m2) hbM
      · exact absurd (e2▸m1) hbM
      · rw[qle (hgM▸hMnd) hg1 hg2 hk1 hk2]
    · obtain⟨ob,h1,_⟩:=hm;exact hblocks o k (qj h1) hk
    · rcases List.mem_cons.1 (hblocks o k ho hk) with e | e
      · rw[e];exact hblt
      · exact hMlt k e
    · cases o with
      | zero=>simp at ho
      | succ j =>
        simp only[List.getElem?_cons_succ] at ho
        have hj:j<gs.length:=by rw[hgl];exact qj ho
        cases (hv2 j _ _ ho (List.getElem?_eq_getElem hj)).2
    · rcases hk with hk | hk
      · exact .inr (.inl hk)
      · exact .inr (.inr hk)
  have hv:PRL (OB.box q.1::q.2) γ w (.c (.ptr 0 0)::qdN c.ps x.2) (.pointer (some ⟨b,0,none⟩)::args):=⟨_,_,rfl,⟨by simp,b,rfl,rfl⟩,qfa hSI hargs⟩;have r00:Rel ⟨w,b::M⟩ ⟨0,[],OB.box q.1::q.2,0,0,0,[]⟩ γ { tmps:=#[],defers:=[] } w:=⟨rfl,fun d hd=>(by cases hd),fun t tg pv h=>by simp[get] at h,fun t tg pv h=>by simp[get] at h,fun t tg pv h=>by simp[get] at h,fun x hx=>(by cases hx),hor⟩;have r0:=qg7 (n:=fn.ntmps) r00 hv (by rw[List.length_cons,qbK];exact hn)
  have hlast:∀σ' γ' a' w',retIO P fn c.bx c.one c.res c.ρ σ'=some r→Rel ⟨w,b::M⟩ σ' γ' a' w'→Step ⟨fn.ntmps,qaG 0 (.c (.ptr 0 0)::qdN c.ps x.2),OB.box q.1::q.2,0,0,0,[]⟩ γ w σ' γ' w' →
      ∃v,(results fn a'.tmps).run P w' = .ok v w'∧∃v2,Ending.returned v = .returned v2∧Chg (b::M) w w'∧IoR w w' S b M c r v2:=by
    intro σ' γ' a' w' hk r' s';simp only[retIO,Option.bind_eq_some_iff] at hk;obtain⟨vs,h1,cs1,h2,ob,hob,h3⟩:=hk
    cases ob with
    | box bs =>
      simp only[chk_some,Bool.and_eq_true,Bool.not_eq_true'] at h3;obtain⟨⟨hbl,hm00⟩,h3⟩:=h3;have hbl:=Nat.eq_of_beq_eq_true hbl;obtain⟨vals,h4,h5,h6⟩:=qcI (P:=P) r' h1;refine⟨_,qed h5 h6,_,rfl,r'.o.chg,?_⟩;obtain⟨cells,h7,h8,h9⟩:=qcF rfl h2 h4;obtain⟨b',T',cs',hg',hheap',hvb⟩:=r'.o.rep 0 _ hob;have hγ0:γ' 0=γ 0:=s'.keep.gh 0 (by simp)
      have hbb:b'=b:=by rw[hγ0] at hg';simp[γ] at hg';exact hg'.symm
      subst hbb;have hm0:Mut σ'.objs 0:=⟨_,hob,rfl⟩
      have hg0:(γ' 0).2=some b':=by rw[hg']
      have hva:=hvb.append h7;simp only[retD,chk_some,Bool.and_eq_true,List.all_eq_true,Bool.not_eq_true'] at h3;obtain⟨⟨hnd,hdis⟩,h10⟩:=h3;have hmut:=(qS (S:=⟨fun _=>True,γ'.m⟩) r'.o ⟨fun _ _=>trivial,fun _ _ h=>h⟩ (.st c.bx c.ρ) h10 hva (fun _ _ _ _=>trivial)).2;have hSeq:γ'.S=γ.S:=s'.keep.s;have hMmem:∀k∈blocks γ' (idsO σ'.objs (.st c.bx c.ρ) (bs++cs1)),∃o∈idsO σ'.objs (.st c.bx c.ρ) (bs++cs1),(γ' o).2=some k:=fun k hk=>by
        obtain⟨o,ho,hb'⟩:=List.mem_flatMap.1 hk;exact⟨o,ho,by simpa using hb'⟩
      have hne0:∀o k,Mut σ'.objs o→o≠0→(γ' o).2=some k→k≠b':=fun o k m1 m2 m3 e=>m2 (r'.o.inj o 0 b' m1 hm0 (e▸m3) hg0);have hids0:∀o∈idsO σ'.objs (.st c.bx c.ρ) (bs++cs1),o≠0:=fun o ho e=>by
        rw[e] at ho;rw[memN_spec.2 ho] at hm00;cases hm00
      have hsplit:∀k,γ.S k→k≠b'→S k∨w.heap.size≤k∨k∈M:=fun k hk hne=>by
        rcases hk with hk | hk | hk
        · exact .inl hk
        · exact .inr (.inl hk)
        · rcases List.mem_cons.1 hk with e | e
          · exact absurd e hne
          · exact .inr (.inr e)
      have himm:∀k,Imm σ'.objs γ' w' k→k<w'.heap.size∧(S k∨w.heap.size≤k∨k∈M)∧k∉blocks γ' (idsO σ'.objs (.st c.bx c.ρ) (bs++cs1))∧k≠b':=fun k hk=>by
        have hne:k≠b':=fun e=>hk.own 0 hm0 (by rw[e];exact hg0);refine⟨hk.lt,hsplit k (by have:=hk.s;rw[hSeq] at this;exact this) hne,fun hm=>?_,hne⟩;obtain⟨o,ho,hb2⟩:=hMmem k hm;exact hk.own o (hmut o ho) hb2
      have hrep':=(qS (S:=⟨fun k=>k<w'.heap.size∧(S k∨w.heap.size≤k∨k∈M)∧k∉blocks γ' (idsO σ'.objs (.st c.bx c.ρ) (bs++cs1))∧k≠b',γ'.m⟩) r'.o ⟨himm,fun _ _ h=>h⟩ (.st c.bx c.ρ) h10 hva (fun o ho k hk=>by
        rcases qd4 (.st c.bx c.ρ) h10 ho with ⟨i,e,xs,hobd⟩ | ⟨obd,hobd,hdb⟩
        · exact himm k (r'.o.frz o i e xs k hobd hk)
        · have hmo:Mut σ'.objs o:=⟨_,hobd,qeR hdb⟩
          have ho0:o≠0:=fun e0=>by rw[e0,hob] at hobd;cases hobd;cases hdb
          have hne:=hne0 o k hmo ho0 hk;refine⟨r'.o.lt o k (qj hobd) hk,?_,fun hm=>?_,hne⟩
          · rcases r'.o.own o k hmo hk with h11 | h11
            · exact .inr (.inl h11)
            · rcases List.mem_cons.1 h11 with e1 | e1
              · exact absurd e1 hne
              · exact .inr (.inr e1)
          · obtain⟨o',ho',hb2⟩:=hMmem k hm;have e1:=r'.o.inj o o' k hmo (hmut o' ho') hk hb2;subst e1;have:=hdis o ho;rw[memN_spec.2 ho'] at this
            cases this)).1
      obtain⟨c1,c2,M1,M2,e1,e2,hR1,hR2⟩:=hrep';have hl1:c1.length=c.bx.size:=Rep.length c.bx hR1
      have hl2:cs'.toList.length=c.bx.size:=by rw[hvb.length];exact hbl
      obtain⟨e3,e4⟩:=List.append_inj e1 (by rw[hl1,hl2]);subst e3;subst e4;rw[e2] at hR1 hR2;have hbn:(M1++M2).Nodup:=e2▸qa8 r'.o (qa6 hnd) hmut;refine⟨T',cs',M1,M2,cells,hheap',hbn,fun k hk=>?_,qa2 c.bx hnb hR1,qa2 c.ρ hnr hR2,?_⟩
      · obtain⟨o,ho,hb2⟩:=hMmem k (e2▸hk);have hne:=hne0 o k (hmut o ho) (hids0 o ho) hb2;refine⟨?_,hne⟩;rcases r'.o.own o k (hmut o ho) hb2 with h11 | h11
        · exact .inr h11
        · rcases List.mem_cons.1 h11 with e5 | e5
          · exact absurd e5 hne
          · exact .inl e5
      · unfold resV
        cases hc1:c.one with
        | true =>
          rw[hc1] at h8 h9;simp only[qgT,cond_true,tupV] at h8;rw[←h8]
          have hl:cells.length=c.ρ.size:=by rw[Rep.length c.ρ hR2]
          rw[←hl,List.take_length];rfl
        | false =>
          rw[hc1] at h8 h9 hone;simp only[qgT,cond_false] at h8 h9;simp only[Bool.false_or,Bool.not_eq_true'] at hone;rw[h8]
          have hne:vals.length≠1:=fun e=>by rw[←h9,e] at hone;cases hone
          match vals,hne with
          | [],_=>rfl
          | [_],hne=>exact absurd rfl hne
          | _::_::_,_=>rfl
    | _=>simp at h3
  have:=(qjj hE hm 10000 (D (.st c.bx c.ρ))).1 ann body _ _ r hr ⟨w,b::M⟩ γ _ w (bodyPostD P fn fun e w'=>∃v,e = .returned v∧Chg (b::M) w w'∧IoR w w' S b M c r v) r0 ⟨rfl,rfl⟩
    ⟨fun σ' γ' a' w' hk r' _ s'=>qbw r'.defers fun w'' hch=>hlast σ' γ' a' w'' hk (r'.ext hch) (s'.trans (Step.ext hch)),fun i σ' γ' a' w' hk=>(by cases hk),fun σ' γ' a' w' hk r' _ s'=>qbw r'.defers fun w'' hch=>hlast σ' γ' a' w'' hk (r'.ext hch) (s'.trans (Step.ext hch))⟩
  have hcalls:=calls_of_wp_defers (args:=(.pointer (some ⟨b,0,none⟩)::args).toArray) hf hb (by simpa using this);exact hcalls
theorem qi6 {objs:List OB} {γ:Gh} {w:World}:∀ {l:List Cv} {vs:List Value},VRL objs γ w l vs→PRL objs γ w (cPVs l) vs
  | [],_,h=>h
  | _::_,_,⟨v,r,e,h1,h2⟩=>⟨v,r,e,h1,qi6 h2⟩
theorem qpz {objs:List OB} {γ:Gh} {w:World}:∀ {sg:List Nat} {la lb lc us:List PV} {va vb vc all:List Value},weave (fun g=>PV.c (.fn g [])) sg la lb lc=some us→weave (fun g=>Value.func (.func g) #[] #[]) sg va vb vc=some all →
    PRL objs γ w la va→PRL objs γ w lb vb→PRL objs γ w lc vc→PRL objs γ w us all:=by
  intro sg
  induction sg with
  | nil =>
    intro la lb lc us va vb vc all h1 h2 p1 p2 p3
    cases la<;>cases lb<;>cases lc<;>simp[weave] at h1
    subst h1;simp only[PRL] at p1 p2 p3;subst p1;subst p2;subst p3;simp[weave] at h2;subst h2;rfl
  | cons n sg ih =>
    intro la lb lc us va vb vc all h1 h2 p1 p2 p3
    match n,h1,h2 with
    | 0,h1,h2 =>
      cases la with
      | nil=>simp[weave] at h1
      | cons x la =>
        obtain⟨v,va',rfl,q1,q2⟩:=p1;simp only[weave,Option.bind_eq_some_iff,Option.some.injEq] at h1 h2;obtain⟨l1,k1,rfl⟩:=h1;obtain⟨l2,k2,rfl⟩:=h2;exact⟨v,l2,rfl,q1,ih k1 k2 q2 p2 p3⟩
    | 1,h1,h2 =>
      cases lb with
      | nil=>simp[weave] at h1
      | cons x lb =>
        obtain⟨v,va',rfl,q1,q2⟩:=p2;simp only[weave,Option.bind_eq_some_iff,Option.some.injEq] at h1 h2;obtain⟨l1,k1,rfl⟩:=h1;obtain⟨l2,k2,rfl⟩:=h2;exact⟨v,l2,rfl,q1,ih k1 k2 p1 q2 p3⟩
    | 2,h1,h2 =>
      cases lc with
      | nil=>simp[weave] at h1
      | cons x lc =>
        obtain⟨v,va',rfl,q1,q2⟩:=p3;simp only[weave,Option.bind_eq_some_iff,Option.some.injEq] at h1 h2;obtain⟨l1,k1,rfl⟩:=h1;obtain⟨l2,k2,rfl⟩:=h2;exact⟨v,l2,rfl,q1,ih k1 k2 p1 p2 q2⟩
    | n+3,h1,h2 =>
      simp only[weave,Option.bind_eq_some_iff,Option.some.injEq] at h1 h2;obtain⟨l1,k1,rfl⟩:=h1;obtain⟨l2,k2,rfl⟩:=h2;exact⟨_,l2,rfl,⟨trivial,[],rfl,rfl⟩,ih k1 k2 p1 p2 p3⟩
theorem weave_len {α:Type} {f:Nat→α}:∀ {sg:List Nat} {la lb lc us:List α},weave f sg la lb lc=some us→us.length=sg.length:=by
  intro sg
  induction sg with
  | nil =>
    intro la lb lc us h1
    cases la<;>cases lb<;>cases lc<;>simp[weave] at h1
    subst h1;rfl
  | cons n sg ih =>
    intro la lb lc us h1
    match n,h1 with
    | 0,h1 =>
      cases la with
      | nil=>simp[weave] at h1
      | cons x la =>
        simp only[weave,Option.bind_eq_some_iff,Option.some.injEq] at h1;obtain⟨l1,k1,rfl⟩:=h1;simp[ih k1]
    | 1,h1 =>
      cases lb with
      | nil=>simp[weave] at h1
      | cons x la =>
        simp only[weave,Option.bind_eq_some_iff,Option.some.injEq] at h1;obtain⟨l1,k1,rfl⟩:=h1;simp[ih k1]
    | 2,h1 =>
      cases lc with
      | nil=>simp[weave] at h1
      | cons x la =>
        simp only[weave,Option.bind_eq_some_iff,Option.some.injEq] at h1;obtain⟨l1,k1,rfl⟩:=h1;simp[ih k1]
    | n+3,h1 =>
      simp only[weave,Option.bind_eq_some_iff,Option.some.injEq] at h1;obtain⟨l1,k1,rfl⟩:=h1;simp[ih k1]
theorem cc_spec2 {w:World} {S:Sp} {f r:Ty} {x1:D f} {x2:D r} {M1 M2:List Nat} {c1 c2:List Value} (h3:Rep w S f x1 M1 c1) (h4:Rep w S r x2 M2 c2) (n:Nat) :
    ∃g1 g2:List (Value×Option Nat),g1.length=(cc f x1 n).2.length∧M1=g1.flatMap (fun g=>g.2.toList)∧(g1++g2).length=(cc (.st f r) (x1,x2) n).2.length∧M1++M2=(g1++g2).flatMap (fun g=>g.2.toList) ∧
    ∀(objs:List OB) (γ:Gh),Sp.le S (Imm objs γ w)→(∀j g,(g1++g2)[j]?=some g→γ (n+j)=g)→n+(g1++g2).length≤objs.length →
      VRL objs γ w (cc (.st f r) (x1,x2) n).1 (c1++c2)∧(∀(j:Nat) ob g,(cc (.st f r) (x1,x2) n).2[j]?=some ob→(g1++g2)[j]?=some g→ObR objs γ w ob g∧mutOb ob=true):=by
  obtain⟨g1,l1,m1,p1⟩:=qbU f h3 n;obtain⟨g2,l2,m2,p2⟩:=qbU r h4 (n+(cc f x1 n).2.length);refine⟨g1,g2,l1,m1,by simp[cc,l1,l2],by simp[m1,m2],fun objs γ hS hg hn=>?_⟩;rw[List.length_append] at hn
  obtain⟨a1,b1⟩:=p1 objs γ hS (fun j g hj=>hg j g (by
    rw[List.getElem?_append_left (List.getElem?_eq_some_iff.1 hj).1];exact hj)) (by omega)
  obtain⟨a2,b2⟩:=p2 objs γ hS (fun j g hj=>by
    have:=hg (g1.length+j) g (by rw[List.getElem?_append_right (by omega)];simpa using hj);rw[←l1,Nat.add_assoc]
    exact this) (by omega)
  refine⟨a1.append a2,fun j ob g ho hj=>?_⟩;simp only[cc] at ho;by_cases hlt:j<g1.length
  · rw[List.getElem?_append_left (by omega)] at ho;rw[List.getElem?_append_left hlt] at hj;exact b1 j ob g ho hj
  · rw[List.getElem?_append_right (by omega)] at ho;rw[List.getElem?_append_right (by omega)] at hj;exact b2 (j-g1.length) ob g (by rw[l1];exact ho) hj
theorem ArG.mono {w:World} {S S':Sp} (hS:Sp.le S S') (hm:S'.m=S.m):∀ {a:Option (TypeId×Ty×Option TypeId)} {x:D (arT a)} {M:List Nat},ArG w S a x M→ArG w S' a x M
  | none,_,_,h=>h
  | some (_,_,_),_,_,⟨ls,hs,e,h⟩=>⟨ls,hs,e,h.mono hS hm (fun _ _=>rfl) (fun _ _=>rfl)⟩
theorem ArG.ofNone {w:World} {S:Sp} {a:Option (TypeId×Ty×Option TypeId)} (ha:a=none) {x:D (arT a)} {M:List Nat} (h:M=[]):ArG w S a x M:=by subst ha;exact h
theorem qnr {mv:Ty}:∀(tp:Ty),isObx tp=true→∀x:D (.st tp mv),∃l,(cc (.st tp mv) x 0).1 = .ptr 0 0::l
  | .obx _,_,_=>⟨_,rfl⟩
theorem qoY {F:Fr} {objs:List OB} {γ:Gh} {w:World} (r:ORel F objs γ w):∀ {a:Option (TypeId×Ty×Option TypeId)} {x:D (arT a)},arEnd objs a=some x→∃M,ArG w (Imm objs γ w) a x M∧∀k∈M,k∈γ.B
  | none,x,_=>⟨[],rfl,fun k hk=>(nomatch hk)⟩
  | some (t,p,ow),x,h=>by
    simp only[arEnd,Option.bind_eq_some_iff] at h;obtain⟨o,ho,ob,hob,h⟩:=h
    cases ob with
    | ar t' p' ow' xs lent =>
      obtain⟨h0,h5⟩:=chk_some.1 h;simp only[Bool.and_eq_true] at h0;obtain⟨h1,h2,h3⟩:=h0;have h1:=Nat.eq_of_beq_eq_true h1;subst h1;have h2:ow=ow':=by
        cases ow<;>cases ow'<;>first | rfl | cases h2 | skip
        rw[Nat.eq_of_beq_eq_true h2]
      subst h2
      cases lent with
      | some _=>cases h3
      | none =>
      unfold castE at h5;split at h5
      · rename_i e;subst e;cases h5;obtain⟨ls,hs,hA,hB,_⟩:=r.ar o _ _ _ _ _ hob;exact⟨flatB ls,⟨ls,hs,rfl,hA⟩,hB⟩
      · cases h5
    | _=>simp at h
theorem go_of_den (hE:EnvOK P env) (hm:P.follows .mixedOrders=true) {f:FuncId} {fn:Func} (hf:P.funcs[f]?=some fn) (c:Goc) (ann:Ann)
    (hok:(fn.body.isSome&&(Nat.ble c.sg.length fn.ntmps&&(c.ps.all Ty.pure&&(topTy c.tp&&((c.one || !Nat.beq c.res.length 1)&&((c.ar.isSome||(c.tp.nref&&c.ρ.nref))&&(c.cl.isNone||isObx c.tp)))))))=true) (hwf:c.one=false→c.ρ=stOf c.res)
    (h:∀x,c.φ x=denGO P env ann fn c.tp c.mv c.ps c.sg c.ar c.cl c.one c.res c.ρ x):GocOK P f c:=by
  simp only[Bool.and_eq_true] at hok;obtain⟨hbody,hn,hpure,htop,hone,hnr,hclo⟩:=hok
  have hone:(c.one || !Nat.beq c.res.length 1)=true:=by simpa using hone
  have hnr:c.ar=none→c.tp.nref=true∧c.ρ.nref=true:=fun e=>by rw[e] at hnr;simpa using hnr
  have hclo:∀g,c.cl=some g→isObx c.tp=true:=fun g e=>by rw[e] at hclo;simpa using hclo
  have hn:=Nat.le_of_ble_eq_true hn;refine⟨hpure,htop,hwf,fun w S Mt Mm Ma va vcl vb args all x r hS hTab hMnd hrept hrepm hAr hcl hargs hwv hr=>?_⟩;obtain⟨body,hb⟩:=Option.isSome_iff_exists.1 hbody
  have hbo:Eng.bodyOf fn=body:=by simp[Eng.bodyOf,hb]
  rw[h x] at hr;unfold denGO at hr;rw[hbo] at hr;obtain⟨us,hus,hr⟩:=Option.bind_eq_some_iff.1 hr;have hrep:Rep w S (.st c.tp c.mv) (x.1,x.2.1) (Mt++Mm) (va++vb):=⟨_,_,_,_,rfl,rfl,hrept,hrepm⟩;have hMlt:=qoh _ hrep;obtain⟨gs1,gs2,hg1l,hg1M,hgl,hgM,hgp⟩:=cc_spec2 hrept hrepm 0;obtain⟨gs,hgse⟩:∃gs,gs1++gs2=gs:=⟨_,rfl⟩;rw[hgse] at hgl hgM hgp;obtain⟨M,hM⟩:∃M,Mt++Mm=M:=⟨_,rfl⟩;obtain⟨q,hq⟩:∃q,cc (.st c.tp c.mv) (x.1,x.2.1) 0=q:=⟨_,rfl⟩;rw[hq] at hgl hgp hr hus;rw[hM] at hS hMnd hMlt hgM;obtain⟨aq,haq⟩:∃aq,arRes c.ar x.2.2.1=aq:=⟨_,rfl⟩;obtain⟨kc0,hkc0⟩:=arG_res hAr;obtain⟨haq1,haq2⟩:=qkm haq;rw[haq] at hr hkc0;obtain⟨xo,hxo⟩:∃xo,clOB c.cl q.2.length=xo:=⟨_,rfl⟩;rw[hxo] at hr
  obtain⟨gc,hgc0,hgc1⟩:∃gc:Value×Option Nat,(c.cl=none→gc=(undef,none))∧∀g,c.cl=some g→∃b p T,gc=(.pointer (some ⟨b,0,none⟩),some b)∧va=[p]∧vcl=[.pointer (some ⟨b,0,none⟩)]∧S b∧w.heap[b]?=some (.cells #[.func (.func g) #[] #[p,.pointer (some ⟨b,0,none⟩)]] T (0,0)):=by
    cases hcc:c.cl with
    | none=>exact⟨(undef,none),fun _=>rfl,fun g e=>(by cases e)⟩
    | some g =>
      rw[hcc] at hcl;obtain⟨b,p,T,h1,h2,h3,h4⟩:=hcl;exact⟨(.pointer (some ⟨b,0,none⟩),some b),fun e=>(by cases e),fun g' e=>by cases e;exact⟨b,p,T,rfl,h1,h2,h3,h4⟩⟩
  have hxl:xo.length≤1∧(c.cl=none→xo=[]):=by
    rw[←hxo]
    cases c.cl with
    | none=>exact⟨Nat.zero_le _,fun _=>rfl⟩
    | some g=>exact⟨Nat.le_refl _,fun e=>(by cases e)⟩
  have hxg:∀ob∈xo,∃g,c.cl=some g∧ob = .fbx [.fn g [(0,0),(q.2.length,0)]]:=fun ob hb=>by
    rw[←hxo] at hb
    cases hcc:c.cl with
    | none=>rw[hcc] at hb;cases hb
    | some g =>
      rw[hcc] at hb;simp only[clOB,List.mem_singleton] at hb;exact⟨g,rfl,hb⟩
  let γ:Gh:=⟨fun o=>((gs++[gc])[o]?).getD (undef,none),fun k=>S k∨w.heap.size≤k∨k∈M++Ma,S.m,Ma,fun _ x=>kc0 x⟩
  have hγc:γ q.2.length=gc:=by
    show((gs++[gc])[q.2.length]?).getD (undef,none)=_;rw[←hgl,List.getElem?_append_right (Nat.le_refl _),Nat.sub_self];rfl
  have hnA:∀j,q.2.length+xo.length≤j→γ j=(undef,none):=fun j hj=>by
    by_cases e:j=q.2.length
    · subst e;rw[hγc];refine hgc0 ?_
      cases hcc:c.cl with
      | none=>rfl
      | some g =>
        have:xo.length=1:=by rw[←hxo,hcc];rfl
        omega
    · show((gs++[gc])[j]?).getD (undef,none)=_;rw[List.getElem?_eq_none (by rw[List.length_append,hgl,List.length_singleton];omega)];rfl
  have hgetA:∀(o:Nat) ob,(q.2++(xo++aq))[o]?=some ob→(o<q.2.length∧q.2[o]?=some ob)∨(q.2.length+xo.length≤o∧isAr ob=true∧aq=[ob])∨(o=q.2.length∧∃g,c.cl=some g∧ob = .fbx [.fn g [(0,0),(q.2.length,0)]]):=fun o ob ho=>by
    by_cases h:o<q.2.length
    · rw[List.getElem?_append_left h] at ho;exact .inl ⟨h,ho⟩
    · rw[List.getElem?_append_right (by omega)] at ho;by_cases h':o-q.2.length<xo.length
      · rw[List.getElem?_append_left h'] at ho;exact .inr (.inr ⟨by have:=hxl.1;omega,hxg ob (List.mem_of_getElem? ho)⟩)
      rw[List.getElem?_append_right (by omega)] at ho;refine .inr (.inl ⟨by omega,haq1 ob (List.mem_of_getElem? ho),?_⟩);have h8:aq.length≤1:=ql9 haq
      match aq,h8,ho with
      | [],_,ho=>simp at ho
      | [y],_,ho =>
        match o-q.2.length-xo.length,ho with
        | 0,ho=>simp at ho;rw[ho]
        | n+1,ho=>simp at ho
      | y::z::l,h8,_=>simp at h8
  have hmutA:∀o,Mut (q.2++(xo++aq)) o→o<q.2.length:=by
    rintro o ⟨ob,h1,h2⟩
    rcases hgetA o ob h1 with ⟨h3,_⟩ | ⟨_,h3,_⟩ | ⟨_,g,_,rfl⟩
    rotate_left 2
    · cases h2
    · exact h3
    · cases ob<;>first | cases h2;done | cases h3
  have hMa:∀k∈M,k∉Ma:=fun k h1 h2=>(List.nodup_append.1 hMnd).2.2 k h1 k h2 rfl;have hMnd:=(List.nodup_append.1 hMnd).1;have hS1:∀k,S k→k<w.heap.size∧k∉M∧k∉Ma:=fun k hk=>⟨(hS k hk).1,fun h=>(hS k hk).2 (List.mem_append_left _ h),fun h=>(hS k hk).2 (List.mem_append_right _ h)⟩;have hγ:∀j g,gs[j]?=some g→γ (0+j)=g:=fun j g hj=>by
    rw[Nat.zero_add];show((gs++[gc])[j]?).getD (undef,none)=g;rw[List.getElem?_append_left (qj hj),hj];rfl
  have hγ':∀j g,gs[j]?=some g→γ j=g:=fun j g hj=>by have:=hγ j g hj;rwa [Nat.zero_add] at this
  have hblocks:∀o k,o<q.2.length→(γ o).2=some k→k∈M:=fun o k ho hk=>by
    have hj:o<gs.length:=by rw[hgl];exact ho
    rw[hγ' o _ (List.getElem?_eq_getElem hj)] at hk;rw[hgM];exact List.mem_flatMap.2 ⟨_,List.getElem_mem hj,by simp[hk]⟩
  have hSI:Sp.le S (Imm (q.2++(xo++aq)) γ w):=⟨fun k hk=>⟨(hS1 k hk).1,.inl hk,fun o hm hb'=>(hS1 k hk).2.1 (hblocks o k (hmutA o hm) hb'),(hS1 k hk).2.2⟩,fun _ _ h=>h⟩;obtain⟨hv1,hv2⟩:=hgp (q.2++(xo++aq)) γ hSI hγ (by simp[hgl]);have hor:ORel ⟨w,M++Ma⟩ (q.2++(xo++aq)) γ w:=by
    refine⟨fun o ob ho=>?_,fun o o' k h1 h2 hb1 hb2=>?_,fun o k hm hk => .inr (List.mem_append_left _ (hblocks o k (hmutA o hm) hk)),fun o k _ hk=>?_,Chg.refl _ _,fun o i e xs k ho hk=>?_,fun k hk=>?_,hTab.mono hSI (fun _ _=>rfl),fun k hk=>⟨ArG.lt hAr k hk,.inr (List.mem_append_right _ hk)⟩,fun o k hm hk=>hMa k (hblocks o k (hmutA o hm) hk),fun o t p ow xs lent ho=>?_⟩
    · rcases hgetA o ob ho with ⟨hlt,ho⟩ | ⟨hge,hia,_⟩ | ⟨rfl,g,hg,rfl⟩
      rotate_left 2
      · obtain⟨b,p,T,e1,e2,e3,e4,e5⟩:=hgc1 g hg;obtain⟨b0,hb0,e6⟩:∃b0,(γ 0).2=some b0∧p = .pointer (some ⟨b0,0,none⟩):=by
          have hq0:∃l,q.1 = .ptr 0 0::l:=by
            rw[←hq];exact qnr _ (hclo g hg) _
          obtain⟨l,hl⟩:=hq0;rw[hl,e2] at hv1;obtain⟨v1,q1,h9,⟨_,b1,h10,h11⟩,_⟩:=hv1;cases h9;exact⟨b1,h10,h11⟩
        refine⟨b,T,_,by rw[hγc];exact e1,e5,⟨_,[],rfl,⟨⟨?_,qj ho,trivial⟩,_,rfl,b0,_,by rw[e6],hb0,b,[],rfl,?_,rfl⟩,rfl⟩,hSI.p b e4⟩
        · exact Nat.lt_of_le_of_lt (Nat.zero_le _) (qj ho)
        · rw[hγc,e1]
      · have hj:o<gs.length:=by rw[hgl];exact qj ho
        have:=(hv2 o ob _ ho (List.getElem?_eq_getElem hj)).1;rw[hγ' o _ (List.getElem?_eq_getElem hj)];exact this
      · rw[hnA o hge]
        cases ob<;>first | exact rfl | cases hia
    · have hj1:o<gs.length:=by rw[hgl];exact hmutA o h1
      have hj2:o'<gs.length:=by rw[hgl];exact hmutA o' h2
      have e1:=List.getElem?_eq_getElem hj1;have e2:=List.getElem?_eq_getElem hj2;rw[hγ' _ _ e1] at hb1;rw[hγ' _ _ e2] at hb2;exact qle (hgM▸hMnd) e1 e2 hb1 hb2
    · by_cases hlt:o<q.2.length
      · exact hMlt k (hblocks o k hlt hk)
      · by_cases e:o=q.2.length
        · subst e;rw[hγc] at hk
          cases hcc:c.cl with
          | none=>rw[hgc0 hcc] at hk;cases hk
          | some g =>
            obtain⟨b,p,T,e1,_,_,e4,_⟩:=hgc1 g hcc;rw[e1] at hk;have e9:b=k:=Option.some.inj hk;rw[←e9];exact(hS b e4).1
        · have:=hxl.1;rw[hnA o (by omega)] at hk;cases hk
    · rcases hgetA o _ ho with ⟨hlt,ho⟩ | ⟨_,hia,_⟩ | ⟨_,_,_,e⟩
      rotate_left 2
      · cases e
      · have hj:o<gs.length:=by rw[hgl];exact qj ho
        cases (hv2 o _ _ ho (List.getElem?_eq_getElem hj)).2
      · cases hia
    · rcases hk with hk | hk
      · exact .inr (.inl hk)
      · exact .inr (.inr hk)
    · rcases hgetA o _ ho with ⟨hlt,ho⟩ | ⟨_,_,hone'⟩ | ⟨_,_,_,e⟩
      rotate_left 2
      · cases e
      · have hj:o<gs.length:=by rw[hgl];exact qj ho
        cases (hv2 o _ _ ho (List.getElem?_eq_getElem hj)).2
      · exact hkc0 _ _ o hSI rfl (fun k hk=>hk) (fun _=>rfl) t p ow xs lent hone'
  have hla:va.length=c.tp.size:=Rep.length c.tp hrept;have hv1a:=hv1.take c.tp.size;rw[List.take_left' hla] at hv1a;have hv1b:=hv1.drop c.tp.size;rw[List.drop_left' hla] at hv1b;have hclP:PRL (q.2++(xo++aq)) γ w (clPV c.cl q.2.length) vcl:=by
    cases hcc:c.cl with
    | none=>rw[hcc] at hcl;exact hcl
    | some g =>
      obtain⟨b,p,T,e1,_,e3,_,_⟩:=hgc1 g hcc;refine⟨_,[],e3,⟨?_,b,by rw[hγc,e1],rfl⟩,rfl⟩
      have:xo.length=1:=by rw[←hxo,hcc];rfl
      simp only[List.length_append];omega
  have hv:PRL (q.2++(xo++aq)) γ w us all:=qpz hus hwv (qhM (qi6 hv1a) hclP) (qi6 hv1b) (qfa hSI hargs);have r00:Rel ⟨w,M++Ma⟩ ⟨0,[],q.2++(xo++aq),0,0,0,[]⟩ γ { tmps:=#[],defers:=[] } w:=⟨rfl,fun d hd=>(by cases hd),fun t tg pv h=>by simp[get] at h,fun t tg pv h=>by simp[get] at h,fun t tg pv h=>by simp[get] at h,fun x hx=>(by cases hx),hor⟩;have r0:=qg7 (n:=fn.ntmps) r00 hv (by rw[weave_len hus];exact hn);obtain⟨la,hla2⟩:∃la,q.1.take c.tp.size=la:=⟨_,rfl⟩;rw[hla2] at hr hv1a
  have hlal:la.length=c.tp.size:=by rw[←hv1a.length];exact hla
  have hlast:∀σ' γ' a' w',retGO P fn c.tp la c.ar c.one c.res c.ρ σ'=some r→Rel ⟨w,M++Ma⟩ σ' γ' a' w'→Step ⟨fn.ntmps,qaG 0 us,q.2++(xo++aq),0,0,0,[]⟩ γ w σ' γ' w' →
      ∃v,(results fn a'.tmps).run P w' = .ok v w'∧∃v2,Ending.returned v = .returned v2∧Chg (M++Ma) w w'∧GoR w w' S Mt (M++Ma) va c r v2:=by
    intro σ' γ' a' w' hk r' s';simp only[retGO,Option.bind_eq_some_iff] at hk;obtain⟨vs,h1,cs1,h2,ar',har',d,h3,hre⟩:=hk;have hre:(d.1,ar',d.2)=r:=Option.some.inj hre;subst hre;obtain⟨M3,hAr3,hM3B⟩:=qoY r'.o har';obtain⟨vals,h4,h5,h6⟩:=qcI (P:=P) r' h1;refine⟨_,qed h5 h6,_,rfl,r'.o.chg,?_⟩;obtain⟨cells,h7,h8,h9⟩:=qcF rfl h2 h4;have hva':VRL σ'.objs γ' w' la va:=VRL.keep s'.keep hv1a.below hv1a;simp only[retD,chk_some,Bool.and_eq_true,List.all_eq_true,Bool.not_eq_true'] at h3;obtain⟨⟨hnd,hdis⟩,h10⟩:=h3;simp only[toD,Option.bind_eq_some_iff] at h10;obtain⟨r1,ht1,r2,ht2,hrr⟩:=h10;have hrr:(r1,r2)=d:=Option.some.inj hrr;subst hrr;rw[List.take_left' hlal] at ht1;rw[List.drop_left' hlal] at ht2
    simp only[idsO,idsD,List.take_left' hlal,List.drop_left' hlal] at hnd hdis;have hmut1:=(qS (S:=⟨fun _=>True,γ'.m⟩) r'.o ⟨fun _ _=>trivial,fun _ _ h=>h⟩ c.tp ht1 hva' (fun _ _ _ _=>trivial)).2;have hmut2:=(qS (S:=⟨fun _=>True,γ'.m⟩) r'.o ⟨fun _ _=>trivial,fun _ _ h=>h⟩ c.ρ ht2 h7 (fun _ _ _ _=>trivial)).2;obtain⟨ids,hids⟩:∃ids,idsO σ'.objs c.tp la++idsO σ'.objs c.ρ cs1=ids:=⟨_,rfl⟩;rw[hids] at hnd hdis;have hmut:∀o∈ids,Mut σ'.objs o:=fun o ho=>by
      rw[←hids] at ho;exact(List.mem_append.1 ho).elim (hmut1 o) (hmut2 o)
    have hbeq:blocks γ' (idsO σ'.objs c.tp la)++blocks γ' (idsO σ'.objs c.ρ cs1)=blocks γ' ids:=by rw[←hids];simp[blocks]
    have hSeq:γ'.S=γ.S:=s'.keep.s;have hMmem:∀k∈blocks γ' ids,∃o∈ids,(γ' o).2=some k:=fun k hk=>by
      obtain⟨o,ho,hb'⟩:=List.mem_flatMap.1 hk;exact⟨o,ho,by simpa using hb'⟩
    have himm:∀k,Imm σ'.objs γ' w' k→k<w'.heap.size∧(S k∨w.heap.size≤k∨k∈M++Ma)∧k∉blocks γ' ids++M3:=fun k hk=>by
      refine⟨hk.lt,by have:=hk.s;rw[hSeq] at this;exact this,fun hm=>?_⟩;rcases List.mem_append.1 hm with hm | hm
      rotate_left
      · exact hk.nb (hM3B k hm)
      obtain⟨o,ho,hb2⟩:=hMmem k hm;exact hk.own o (hmut o ho) hb2
    have hdd:∀(τ:Ty) (l:List Cv) (y:D τ),toD σ'.objs τ l=some y→(∀o∈idsD σ'.objs τ l,memN o ids=false)→∀o∈idsD σ'.objs τ l,∀k,(γ' o).2=some k→k<w'.heap.size∧(S k∨w.heap.size≤k∨k∈M++Ma)∧k∉blocks γ' ids++M3:=fun τ l y hy hdj o ho k hk=>by
      rcases qd4 τ hy ho with ⟨i,e,xs,hobd⟩ | ⟨obd,hobd,hdb⟩
      · exact himm k (r'.o.frz o i e xs k hobd hk)
      · have hmo:Mut σ'.objs o:=⟨_,hobd,qeR hdb⟩;refine⟨r'.o.lt o k (qj hobd) hk,?_,fun hm=>?_⟩
        · rcases r'.o.own o k hmo hk with h11 | h11
          · exact .inr (.inl h11)
          · exact .inr (.inr h11)
        · rcases List.mem_append.1 hm with hm | hm
          rotate_left
          · exact r'.o.bo o k hmo hk (hM3B k hm)
          obtain⟨o',ho',hb2⟩:=hMmem k hm;have e1:=r'.o.inj o o' k hmo (hmut o' ho') hk hb2;subst e1;have:=hdj o ho;rw[memN_spec.2 ho'] at this;cases this
    have hrep1:=(qS (S:=⟨fun k=>k<w'.heap.size∧(S k∨w.heap.size≤k∨k∈M++Ma)∧k∉blocks γ' ids++M3,γ'.m⟩) r'.o ⟨himm,fun _ _ h=>h⟩ c.tp ht1 hva' (hdd c.tp la r1 ht1 fun o ho=>hdis o (List.mem_append_left _ ho))).1;have hrep2:=(qS (S:=⟨fun k=>k<w'.heap.size∧(S k∨w.heap.size≤k∨k∈M++Ma)∧k∉blocks γ' ids++M3,γ'.m⟩) r'.o ⟨himm,fun _ _ h=>h⟩ c.ρ ht2 h7 (hdd c.ρ cs1 r2 ht2 fun o ho=>hdis o (List.mem_append_right _ ho))).1;have hAr4:ArG w' ⟨fun k=>k<w'.heap.size∧(S k∨w.heap.size≤k∨k∈M++Ma)∧k∉blocks γ' ids++M3,γ'.m⟩ c.ar ar' M3:=ArG.mono (show Sp.le (Imm σ'.objs γ' w') ⟨fun k=>k<w'.heap.size∧(S k∨w.heap.size≤k∨k∈M++Ma)∧k∉blocks γ' ids++M3,γ'.m⟩ from⟨himm,fun _ _ h=>h⟩) rfl hAr3
    obtain⟨m,hme,hmn,hq1,hq2,hq3⟩:∃m:Nat→Option Nat,(∀x b,S.m x=some b→m x=some b)∧(c.ar=none→m=S.m)∧Rep w' ⟨fun k=>k<w'.heap.size∧(S k∨w.heap.size≤k∨k∈M++Ma)∧k∉blocks γ' ids++M3,m⟩ c.tp r1 (blocks γ' (idsO σ'.objs c.tp la)) va∧Rep w' ⟨fun k=>k<w'.heap.size∧(S k∨w.heap.size≤k∨k∈M++Ma)∧k∉blocks γ' ids++M3,m⟩ c.ρ r2 (blocks γ' (idsO σ'.objs c.ρ cs1)) cells∧ArG w' ⟨fun k=>k<w'.heap.size∧(S k∨w.heap.size≤k∨k∈M++Ma)∧k∉blocks γ' ids++M3,m⟩ c.ar ar' M3:=by
      by_cases hn:c.ar=none
      · exact⟨S.m,fun _ _ h=>h,fun _=>rfl,qa2 c.tp (hnr hn).1 hrep1,qa2 c.ρ (hnr hn).2 hrep2,ArG.ofNone hn (ArG.non hn hAr4)⟩
      · exact⟨γ'.m,s'.keep.imm.m,fun h=>absurd h hn,hrep1,hrep2,hAr4⟩
    rw[←hbeq] at hq1 hq2 hq3;refine⟨m,_,_,M3,cells,?_,fun k hk=>?_,fun i e he=>?_,hme,hmn,hq1,hq2,hq3,?_⟩
    · rw[hbeq];refine List.nodup_append.2 ⟨qa8 r'.o (qa6 hnd) hmut,ArG.nodup hAr3,fun k hk k' hk' e=>?_⟩;subst e;obtain⟨o,ho,hb2⟩:=hMmem k hk;exact r'.o.bo o k (hmut o ho) hb2 (hM3B k hk')
    · rw[hbeq] at hk;rcases List.mem_append.1 hk with hk | hk
      rotate_left
      · rcases(r'.o.bl k (hM3B k hk)).2 with h11 | h11
        · exact .inr h11
        · exact .inl h11
      obtain⟨o,ho,hb2⟩:=hMmem k hk;rcases r'.o.own o k (hmut o ho) hb2 with h11 | h11
      · exact .inr h11
      · exact .inl h11
    · have hl0:la=[.os 0]∧∃g,gs[0]?=some g∧g.2.toList=Mt:=by
        rw[←hla2,←hq];obtain⟨tp,mv,ps,sg,ar,cl,one,res,ρ,φ⟩:=c;simp only at he;subst he;refine⟨rfl,?_⟩;obtain⟨g,rfl⟩:∃g,gs1=[g]:=List.length_eq_one_iff.1 hg1l;refine⟨g,by rw[←hgse];rfl,?_⟩;rw[hg1M];simp
      obtain⟨e1,g,hg0,hg1⟩:=hl0;rw[e1,he];simp only[idsO,cv1,Option.elim_some,osId,blocks,List.flatMap_cons,List.flatMap_nil,List.append_nil];rw[s'.keep.gh 0 (by rw[List.length_append,←hgl];exact Nat.lt_of_lt_of_le (qj hg0) (Nat.le_add_right _ _)),hγ' 0 g hg0];exact hg1
    · unfold resV
      cases hc1:c.one with
      | true =>
        rw[hc1] at h8 h9;simp only[qgT,cond_true,tupV] at h8;rw[←h8]
        have hl:cells.length=c.ρ.size:=by rw[Rep.length c.ρ hrep2]
        rw[←hl,List.take_length];rfl
      | false =>
        rw[hc1] at h8 h9 hone;simp only[qgT,cond_false] at h8 h9;simp only[Bool.false_or,Bool.not_eq_true'] at hone;rw[h8]
        have hne:vals.length≠1:=fun e=>by rw[←h9,e] at hone;cases hone
        match vals,hne with
        | [],_=>rfl
        | [_],hne=>exact absurd rfl hne
        | _::_::_,_=>rfl
  rw[hM];have:=(qjj hE hm 10000 (D (.st c.tp (.st (arT c.ar) c.ρ)))).1 ann body _ _ r hr ⟨w,M++Ma⟩ γ _ w (bodyPostD P fn fun e w'=>∃v,e = .returned v∧Chg (M++Ma) w w'∧GoR w w' S Mt (M++Ma) va c r v) r0 ⟨rfl,rfl⟩
    ⟨fun σ' γ' a' w' hk r' _ s'=>qbw r'.defers fun w'' hch=>hlast σ' γ' a' w'' hk (r'.ext hch) (s'.trans (Step.ext hch)),fun i σ' γ' a' w' hk=>(by cases hk),fun σ' γ' a' w' hk r' _ s'=>qbw r'.defers fun w'' hch=>hlast σ' γ' a' w'' hk (r'.ext hch) (s'.trans (Step.ext hch))⟩
  have hcalls:=calls_of_wp_defers (args:=all.toArray) hf hb (by simpa using this);exact hcalls
theorem go_fix {f:FuncId} {tp mv:Ty} {ps:List Ty} {sg:List Nat} {ar:Option (TypeId×Ty×Option TypeId)} {cl:Option FuncId} {one:Bool} {rs:List Ty} {ρ:Ty} {G:(DL (tp::mv::arT ar::ps)→Option (D (.st tp (.st (arT ar) ρ))))→DL (tp::mv::arT ar::ps)→Option (D (.st tp (.st (arT ar) ρ)))} (hpure:ps.all Ty.pure=true) (htop:topTy tp=true) (hwf:one=false→ρ=stOf rs)
    (h:∀φ,GocOK P f ⟨tp,mv,ps,sg,ar,cl,one,rs,ρ,φ⟩→GocOK P f ⟨tp,mv,ps,sg,ar,cl,one,rs,ρ,G φ⟩):GocOK P f ⟨tp,mv,ps,sg,ar,cl,one,rs,ρ,fixW G⟩:=by
  have key:∀n,GocOK P f ⟨tp,mv,ps,sg,ar,cl,one,rs,ρ,fixN G n⟩:=by
    intro n
    induction n with
    | zero=>exact⟨hpure,htop,hwf,fun w S Mt Mm Ma va vcl vb args all x r _ _ _ _ _ _ _ _ _ hr=>by simp[fixN] at hr⟩
    | succ n ih=>exact h _ ih
  exact⟨hpure,htop,hwf,fun w S Mt Mm Ma va vcl vb args all x r h1 h2 h3 h4 h5 h6 h7 h8 h9 hr=>by
    obtain⟨n,hn⟩:=ql4 hr
    exact(key n).calls w S Mt Mm Ma va vcl vb args all x r h1 h2 h3 h4 h5 h6 h7 h8 h9 hn⟩
end
end Go.Den
namespace Go.Den
instance ctx0:Ctx:=⟨[],[],false,[],some 173,none⟩
abbrev ctxUp:Ctx:=⟨[],[],true,[],none,none⟩
end Go.Den
namespace Go.Proofs.Ytcifaoaepbidoaa
open Go.Den
set_option linter.unusedVariables false
set_option maxRecDepth 100000
noncomputable section
def qdI (x:Int):Option (Bool) :=
  some (x !=x)
def qaj (x:Int):Bool :=
  (x !=x)
theorem qi5 (x:Int):qdI x=some (qaj x):=by
  unfold qdI qaj
  first | rfl | simp only[qam]
def qcv (x:Int) (y:Int):Option (Int) :=
  bif (qaj x) then(bif (qaj y) then some (0:Int)
  else some (-1:Int))
  else bif (qaj y) then some (1:Int)
  else bif (decide (x<y)) then some (-1:Int)
  else bif (decide (x>y)) then some (1:Int)
  else some (0:Int)
def qal (x:Int) (y:Int):Int :=
  bif (qaj x) then(bif (qaj y) then(0:Int)
  else(-1:Int))
  else bif (qaj y) then(1:Int)
  else bif (decide (x<y)) then(-1:Int)
  else bif (decide (x>y)) then(1:Int)
  else(0:Int)
theorem qhN (x:Int) (y:Int):qcv x y=some (qal x y):=by
  unfold qcv qal
  first | rfl | simp only[qam]
def qaQ (vals:List Int) (x1:Zv42×(Unit)):Option (Zv38 ⊕ (Zv41 ⊕ Int)) :=
  bif (decide (x1.1.1<((vals.length:Nat):Int))) then(Option.bind (at? vals x1.1.1) fun d2 =>
  bif (d2 !=0) then some (Sum.inr (Sum.inr d2))
  else some (Sum.inl (((w64 (x1.1.1+1)),()),())))
  else some (Sum.inr (Sum.inl ((),())))
def qgt (vals:List Int):Option (Int) :=
  Option.bind (α:=Zv41 ⊕ Int) (iterW (qaQ vals) (((0:Int),()),())) (Sum.elim (fun x3 =>
  some (0:Int)) some)
def qk4 (a:Int×Int×Int×Unit) (b:Int×Int×Int×Unit):Option (Int) :=
  Option.bind (qgt ([(qal a.1 b.1),(qal a.2.1 b.2.1),(qal a.2.2.1 b.2.2.1)])) fun r2 =>
  some r2
abbrev Mv:=Int×Int×Int×Unit
def mvLt (x y:Mv):Bool:=decide (x.1<y.1)||(x.1==y.1&&(decide (x.2.1<y.2.1)||(x.2.1==y.2.1&&decide (x.2.2.1<y.2.2.1))))
def qba (xs:List Mv):List Mv:=xs.mergeSort fun x y=>!mvLt y x
end
noncomputable section
def qcN (count:Int) (r:ByteArray×Int×Int×Zv15×Zv43×Bool×Bool×Zv27×Int×Int×Int×Unit) (p:Zv43×Zv31×Int×Int×Unit) (player:Int) (x2:Zv42×(Unit)) (x3:Zv36×(Unit)):Option (Zv29 ⊕ Zv38) :=
  Option.bind (bif (decide (x3.1.2.2.1<count)) then(bif ((((decide (x3.1.1<0))||(decide (x3.1.1≥r.2.1)))||(decide (x3.1.2.1<0)))||(decide (x3.1.2.1≥r.2.2.1))) then some ((false,()),())
  else Option.bind (at? p.1 (w64 ((w64 (x3.1.2.1*r.2.1))+x3.1.1))) fun d4 =>
  req (imp (decide (d4>0)) true) (some ((((decide (d4>0))&&(((w64 (d4-1)).tmod 2)==player)),()),())))
  else some ((false,()),())) fun x5 =>
  bif x5.1.1 then some (Sum.inl (((w64 (x3.1.1+(getD' [(1:Int),(0:Int),(1:Int),(1:Int)] (x2.1.1).toNat 0))),(w64 (x3.1.2.1+(getD' [(0:Int),(1:Int),(1:Int),(-1:Int)] (x2.1.1).toNat 0))),(w64 (x3.1.2.2.1+1)),()),()))
  else some (Sum.inr ((x3.1.2.2.1,()),()))
def qem (r:ByteArray×Int×Int×Zv15×Zv43×Bool×Bool×Zv27×Int×Int×Int×Unit) (count:Int) (p:Zv43×Zv31×Int×Int×Unit) (player:Int) (x1:Zv42×(Unit)) (x2:Zv42×(Unit)):Option (Zv38 ⊕ (Zv41 ⊕ (Zv41 ⊕ (Zv38 ⊕ (Zv41 ⊕ Bool))))) :=
  bif (decide (x2.1.1<4)) then(Option.bind (α:=Zv41 ⊕ (Zv38 ⊕ (Zv41 ⊕ (Zv41 ⊕ (Zv38 ⊕ (Zv41 ⊕ Bool)))))) (req (inb x2.1.1 4) (req (r.2.1 !=0) (req (r.2.1 !=0) (Option.bind (iterW (qcN count r p player x2) (((x1.1.1.tmod r.2.1),(w64 (x1.1.1.tdiv r.2.1)),(0:Int),()),())) fun x6 =>
  bif (x6.1.1==count) then some (Sum.inr (Sum.inr (Sum.inr (Sum.inr (Sum.inr (Sum.inr true))))))
  else some (Sum.inl ((),())))))) (Sum.elim (fun x7 =>
  some (Sum.inl (((w64 (x2.1.1+1)),()),()))) some))
  else some (Sum.inr (Sum.inl ((),())))
def qd7 (p:Zv43×Zv31×Int×Int×Unit) (r:ByteArray×Int×Int×Zv15×Zv43×Bool×Bool×Zv27×Int×Int×Int×Unit) (count:Int) (player:Int) (x1:Zv42×(Unit)):Option (Zv38 ⊕ (Zv41 ⊕ Bool)) :=
  bif (decide (x1.1.1<((p.1.length:Nat):Int))) then(Option.bind (α:=Zv41 ⊕ (Zv38 ⊕ (Zv41 ⊕ Bool))) (Option.bind (α:=Zv41 ⊕ (Zv41 ⊕ (Zv38 ⊕ (Zv41 ⊕ Bool)))) (iterW (qem r count p player x1) (((0:Int),()),())) (Sum.elim (fun x8 =>
  some (Sum.inl ((),()))) some)) (Sum.elim (fun x9 =>
  some (Sum.inl (((w64 (x1.1.1+1)),()),()))) some))
  else some (Sum.inr (Sum.inl ((),())))
def qiv (r:ByteArray×Int×Int×Zv15×Zv43×Bool×Bool×Zv27×Int×Int×Int×Unit) (p:Zv43×Zv31×Int×Int×Unit) (player:Int) (count:Int):Option (Bool) :=
  Option.bind (α:=Zv41 ⊕ Bool) (iterW (qd7 p r count player) (((0:Int),()),())) (Sum.elim (fun x10 =>
  some false) some)
def qcS (r:ByteArray×Int×Int×Zv15×Zv43×Bool×Bool×Zv27×Int×Int×Int×Unit) (player:Int) (square:Int):Option (Bool) :=
  bif (player==0) then req (r.2.1 !=0) (some ((w64 (square.tdiv r.2.1))==(w64 (r.2.2.1-1))))
  else req (r.2.1 !=0) (some ((w64 (square.tdiv r.2.1))==0))
def qdB (p:Zv43×Zv31×Int×Int×Unit) (x:Int×Int×Int×Bool×Unit) (mover:Int) (r:ByteArray×Int×Int×Zv15×Zv43×Bool×Bool×Zv27×Int×Int×Int×Unit) (x2:Zv42×(Unit)):Option (Zv38 ⊕ (Zv41 ⊕ (Zv41 ⊕ Bool))) :=
  bif (decide (x2.1.1<((p.1.length:Nat):Int))) then(Option.bind (at? p.1 x2.1.1) fun d3 =>
  Option.bind (gopt (d3==(w64 ((w64 ((w64 ((2:Int)*x.2.1))+mover))+1))) false (qcS r mover x2.1.1)) fun r4 =>
  bif ((d3==(w64 ((w64 ((w64 ((2:Int)*x.2.1))+mover))+1)))&&r4) then some (Sum.inr (Sum.inr (Sum.inr true)))
  else some (Sum.inl (((w64 (x2.1.1+1)),()),())))
  else some (Sum.inr (Sum.inl ((),())))
def qdr (p:Zv43×Zv31×Int×Int×Unit) (x:Int×Int×Int×Bool×Unit) (mover:Int) (x7:Zv40×(Unit)):Option (Zv35 ⊕ Zv38) :=
  bif (decide (x7.1.2.1<((p.1.length:Nat):Int))) then(Option.bind (at? p.1 x7.1.2.1) fun d8 =>
  Option.bind (bif (d8==(w64 ((w64 ((w64 ((w64 ((2:Int)*x.2.1))+1))-mover))+1))) then some (((w64 (x7.1.1+1)),()),())
  else some ((x7.1.1,()),())) fun x9 =>
  some (Sum.inl ((x9.1.1,(w64 (x7.1.2.1+1)),()),())))
  else some (Sum.inr ((x7.1.1,()),()))
def qgZ (r:ByteArray×Int×Int×Zv15×Zv43×Bool×Bool×Zv27×Int×Int×Int×Unit) (p:Zv43×Zv31×Int×Int×Unit) (x:Int×Int×Int×Bool×Unit) (mover:Int):Option (Bool) :=
  Option.bind (α:=Zv41 ⊕ Bool) (bif (x.1==0) then(Option.bind (qiv r p mover x.2.2.1) fun r1 =>
  some (Sum.inr r1))
  else bif (x.1==1) then(Option.bind (α:=Zv41 ⊕ (Zv41 ⊕ Bool)) (iterW (qdB p x mover r) (((0:Int),()),())) (Sum.elim (fun x5 =>
  some (Sum.inr false)) some))
  else some (Sum.inl ((),()))) (Sum.elim (fun x6 =>
  Option.bind (iterW (qdr p x mover) (((0:Int),(0:Int),()),())) fun x10 =>
  some (decide (x10.1.1<x.2.2.1))) some)
def qhJ (player:Int):Option (Int) :=
  some (w64 ((1:Int)+player))
def qbx (player:Int):Int :=
  (w64 ((1:Int)+player))
theorem qnd (player:Int):qhJ player=some (qbx player):=by
  unfold qhJ qbx
  first | rfl | simp only[qam]
def qbn (p:Zv43×Zv31×Int×Int×Unit) (r:ByteArray×Int×Int×Zv15×Zv43×Bool×Bool×Zv27×Int×Int×Int×Unit) (x1:Zv42×(Unit)):Option (Zv38 ⊕ (Zv41 ⊕ Bool)) :=
  bif (decide (x1.1.1≥0)) then(Option.bind (at? p.1 x1.1.1) fun d2 =>
  bif (d2==0) then some (Sum.inr (Sum.inr false))
  else some (Sum.inl (((w64 (x1.1.1-r.2.1)),()),())))
  else some (Sum.inr (Sum.inl ((),())))
def qd9 (r:ByteArray×Int×Int×Zv15×Zv43×Bool×Bool×Zv27×Int×Int×Int×Unit) (p:Zv43×Zv31×Int×Int×Unit) (s:Int):Option (Bool) :=
  Option.bind (α:=Zv41 ⊕ Bool) (iterW (qbn p r) (((w64 (s-r.2.1)),()),())) (Sum.elim (fun x3 =>
  some true) some)
def qds (p:Zv43×Zv31×Int×Int×Unit) (x1:Zv23×(Unit)) (x4:Zv23×(Unit)):Option (Zv19 ⊕ Zv21) :=
  bif (decide (x4.1.2.1<(((getD' [p.2.1.1,p.2.1.2.1] (p.2.2.1).toNat []).length:Nat):Int))) then(Option.bind (at? (getD' [p.2.1.1,p.2.1.2.1] (p.2.2.1).toNat []) x4.1.2.1) fun d5 =>
  Option.bind (bif (decide (d5>0)) then req (room (x4.1.1.length+([((-1:Int),(x1.1.2.1,(x4.1.2.1,())))]).length) 24) (some (((x4.1.1++[((-1:Int),(x1.1.2.1,(x4.1.2.1,())))]),()),()))
  else some ((x4.1.1,()),())) fun x6 =>
  some (Sum.inl ((x6.1.1,(w64 (x4.1.2.1+1)),()),())))
  else some (Sum.inr ((x4.1.1,()),()))
def qdj (p:Zv43×Zv31×Int×Int×Unit) (r:ByteArray×Int×Int×Zv15×Zv43×Bool×Bool×Zv27×Int×Int×Int×Unit) (x1:Zv23×(Unit)):Option (Zv19 ⊕ Zv21) :=
  bif (decide (x1.1.2.1<((p.1.length:Nat):Int))) then(Option.bind (Option.bind (at? p.1 x1.1.2.1) fun d2 =>
  Option.bind (gopt ((r.2.2.2.2.2.1&&(decide (x1.1.2.1≥r.2.1)))&&(!(d2 !=0))) false (qd9 r p x1.1.2.1)) fun r3 =>
  bif ((d2 !=0)||((r.2.2.2.2.2.1&&(decide (x1.1.2.1≥r.2.1)))&&(!r3))) then some ((x1.1.1,()),())
  else req (inb p.2.2.1 2) (Option.bind (iterW (qds p x1) ((x1.1.1,(0:Int),()),())) fun x7 =>
  some ((x7.1.1,()),()))) fun x8 =>
  some (Sum.inl ((x8.1.1,(w64 (x1.1.2.1+1)),()),())))
  else some (Sum.inr ((x1.1.1,()),()))
def qhg (r:ByteArray×Int×Int×Zv15×Zv43×Bool×Bool×Zv27×Int×Int×Int×Unit) (p:Zv43×Zv31×Int×Int×Unit):Option Zv32 :=
  Option.bind (iterW (qdj p r) ((([]:List Zv36),(0:Int),()),())) fun x9 =>
  some x9.1.1
def qbW (w:Int×Int×Int×Int×Unit) (r:ByteArray×Int×Int×Zv15×Zv43×Bool×Bool×Zv27×Int×Int×Int×Unit) (x1:Zv42×(Unit)) (p:Zv43×Zv31×Int×Int×Unit) (x2:(Zv43×Int×Int×Int×Unit)×(Unit)):Option (((Zv43×Int×Int×Int×Unit)×(Unit)) ⊕ ((Zv43×Unit)×(Unit))) :=
  bif (decide (x2.1.2.2.2.1<w.2.2.1)) then(bif ((((decide ((w64 (x2.1.2.1+w.1))<0))||(decide ((w64 (x2.1.2.1+w.1))≥r.2.1)))||(decide ((w64 (x2.1.2.2.1+x1.1.1))<0)))||(decide ((w64 (x2.1.2.2.1+x1.1.1))≥r.2.2.1))) then some (Sum.inr ((x2.1.1,()),()))
  else Option.bind (at? p.1 (w64 ((w64 ((w64 (x2.1.2.2.1+x1.1.1))*r.2.1))+(w64 (x2.1.2.1+w.1))))) fun d3 =>
  req (imp (decide (d3>0)) true) (Option.bind (bif ((((w.2.2.2.1==0)&&(d3==0))||((w.2.2.2.1==1)&&((d3==0)||((decide (d3>0))&&(((w64 (d3-1)).tmod 2)!=p.2.2.1)))))||((w.2.2.2.1==2)&&((decide (d3>0))&&(((w64 (d3-1)).tmod 2)!=p.2.2.1)))) then req (room (x2.1.1.length+([(w64 ((w64 ((w64 (x2.1.2.2.1+x1.1.1))*r.2.1))+(w64 (x2.1.2.1+w.1))))]).length) 8) (some (((x2.1.1++[(w64 ((w64 ((w64 (x2.1.2.2.1+x1.1.1))*r.2.1))+(w64 (x2.1.2.1+w.1))))]),()),()))
  else some ((x2.1.1,()),())) fun x4 =>
  bif (d3 !=0) then some (Sum.inr ((x4.1.1,()),()))
  else some (Sum.inl ((x4.1.1,(w64 (x2.1.2.1+w.1)),(w64 (x2.1.2.2.1+x1.1.1)),(w64 (x2.1.2.2.2.1+1)),()),()))))
  else some (Sum.inr ((x2.1.1,()),()))
def qis (r:ByteArray×Int×Int×Zv15×Zv43×Bool×Bool×Zv27×Int×Int×Int×Unit) (p:Zv43×Zv31×Int×Int×Unit) (s:Int) (w:Int×Int×Int×Int×Unit):Option Zv43 :=
  Option.bind (bif (p.2.2.1==1) then some (((w64 (0-w.2.1)),()),())
  else some ((w.2.1,()),())) fun x1 =>
  req (r.2.1 !=0) (req (r.2.1 !=0) (Option.bind (iterW (qbW w r x1 p) ((([]:List Int),(s.tmod r.2.1),(w64 (s.tdiv r.2.1)),(0:Int),()),())) fun x5 =>
  some x5.1.1))
def qdg (r8:List Int) (r:ByteArray×Int×Int×Zv15×Zv43×Bool×Bool×Zv27×Int×Int×Int×Unit) (d4:Int) (p:Zv43×Zv31×Int×Int×Unit) (x3:Zv23×(Unit)) (x9:Zv23×(Unit)):Option (Zv19 ⊕ Zv21) :=
  bif (decide (x9.1.2.1<((r8.length:Nat):Int))) then(req (inb x9.1.2.1 r8.length) (Option.bind (at? r.2.2.2.1 (w64 ((w64 (d4-1)).tdiv 2))) fun d10 =>
  Option.bind (gopt (decide (d10.2.2.1>0)) false (qcS r p.2.2.1 (getD' r8 ((x9.1.2.1).toNat) (0:Int)))) fun r11 =>
  Option.bind (bif ((decide (d10.2.2.1>0))&&r11) then some ((),((x3.1.2.1,((getD' r8 ((x9.1.2.1).toNat) (0:Int)),((w64 (d10.2.2.1-1)),()))),()))
  else some ((),((x3.1.2.1,((getD' r8 ((x9.1.2.1).toNat) (0:Int)),((w64 ((w64 (d4-1)).tdiv 2)),()))),()))) fun x12 =>
  req (room (x9.1.1.length+([x12.2.1]).length) 24) (some (Sum.inl (((x9.1.1++[x12.2.1]),(w64 (x9.1.2.1+1)),()),())))))
  else some (Sum.inr ((x9.1.1,()),()))
def qdc (d5:Int×Int×Int×Zv28×Unit) (r:ByteArray×Int×Int×Zv15×Zv43×Bool×Bool×Zv27×Int×Int×Int×Unit) (p:Zv43×Zv31×Int×Int×Unit) (x3:Zv23×(Unit)) (d4:Int) (x6:Zv23×(Unit)):Option (Zv19 ⊕ Zv21) :=
  bif (decide (x6.1.2.1<((d5.2.2.2.1.length:Nat):Int))) then(Option.bind (Option.bind (at? d5.2.2.2.1 x6.1.2.1) fun d7 =>
  Option.bind (qis r p x3.1.2.1 d7) fun r8 =>
  Option.bind (iterW (qdg r8 r d4 p x3) ((x6.1.1,(0:Int),()),())) fun x13 =>
  some ((x13.1.1,()),())) fun x14 =>
  some (Sum.inl ((x14.1.1,(w64 (x6.1.2.1+1)),()),())))
  else some (Sum.inr ((x6.1.1,()),()))
def qcr (p:Zv43×Zv31×Int×Int×Unit) (r:ByteArray×Int×Int×Zv15×Zv43×Bool×Bool×Zv27×Int×Int×Int×Unit) (x3:Zv23×(Unit)):Option (Zv19 ⊕ Zv21) :=
  bif (decide (x3.1.2.1<((p.1.length:Nat):Int))) then(Option.bind (Option.bind (at? p.1 x3.1.2.1) fun d4 =>
  req (imp (!(d4==0)) true) (bif ((d4==0)||(((w64 (d4-1)).tmod 2)!=p.2.2.1)) then some ((x3.1.1,()),())
  else Option.bind (at? r.2.2.2.1 (w64 ((w64 (d4-1)).tdiv 2))) fun d5 =>
  Option.bind (iterW (qdc d5 r p x3 d4) ((x3.1.1,(0:Int),()),())) fun x15 =>
  some ((x15.1.1,()),()))) fun x16 =>
  some (Sum.inl ((x16.1.1,(w64 (x3.1.2.1+1)),()),())))
  else some (Sum.inr ((x3.1.1,()),()))
def qfi (x18:Zv42×Zv25) (x19:Zv40×Zv25):Option ((Zv40×Zv25) ⊕ Zv20) :=
  bif (decide (x19.1.2.1<((((((x18.2.1.length:Nat):Int)).toNat-(x18.1.1).toNat):Nat):Int))) then(req (inb x19.1.2.1 ((((x18.2.1.length:Nat):Int)).toNat-(x18.1.1).toNat)) (req (inb (w64 (x19.1.2.1-1)) ((((x18.2.1.length:Nat):Int)).toNat-(x18.1.1).toNat)) (Option.bind (bif (!(((getD' x19.2.1 ((x18.1.1).toNat+(x19.1.2.1).toNat) ((0:Int),((0:Int),((0:Int),())))).1==(getD' x19.2.1 ((x18.1.1).toNat+((w64 (x19.1.2.1-1))).toNat) ((0:Int),((0:Int),((0:Int),())))).1)&&((((getD' x19.2.1 ((x18.1.1).toNat+(x19.1.2.1).toNat) ((0:Int),((0:Int),((0:Int),())))).2).1==((getD' x19.2.1 ((x18.1.1).toNat+((w64 (x19.1.2.1-1))).toNat) ((0:Int),((0:Int),((0:Int),())))).2).1)&&(((((getD' x19.2.1 ((x18.1.1).toNat+(x19.1.2.1).toNat) ((0:Int),((0:Int),((0:Int),())))).2).2).1==(((getD' x19.2.1 ((x18.1.1).toNat+((w64 (x19.1.2.1-1))).toNat) ((0:Int),((0:Int),((0:Int),())))).2).2).1)&&true)))) then req (inb x19.1.2.1 ((((x18.2.1.length:Nat):Int)).toNat-(x18.1.1).toNat)) (req (inb x19.1.1 x19.2.1.length) (some (((w64 (x19.1.1+1)),()),((x19.2.1.set ((x19.1.1).toNat) (getD' x19.2.1 ((x18.1.1).toNat+(x19.1.2.1).toNat) ((0:Int),((0:Int),((0:Int),()))))),()))))
  else some ((x19.1.1,()),(x19.2.1,()))) fun x20 =>
  some (Sum.inl ((x20.1.1,(w64 (x19.1.2.1+1)),()),(x20.2.1,()))))))
  else some (Sum.inr ((x19.1.1,()),(x19.2.1,())))
def qdh (x18:Zv42×Zv25):Option (Zv20 ⊕ (Zv22 ⊕ Zv21)) :=
  bif (decide (x18.1.1<((x18.2.1.length:Nat):Int))) then(Option.bind (α:=Zv20 ⊕ (Zv20 ⊕ (Zv22 ⊕ Zv21))) (req (inb x18.1.1 x18.2.1.length) (req (inb (w64 (x18.1.1-1)) x18.2.1.length) (bif (((getD' x18.2.1 ((x18.1.1).toNat) ((0:Int),((0:Int),((0:Int),())))).1==(getD' x18.2.1 (((w64 (x18.1.1-1))).toNat) ((0:Int),((0:Int),((0:Int),())))).1)&&((((getD' x18.2.1 ((x18.1.1).toNat) ((0:Int),((0:Int),((0:Int),())))).2).1==((getD' x18.2.1 (((w64 (x18.1.1-1))).toNat) ((0:Int),((0:Int),((0:Int),())))).2).1)&&(((((getD' x18.2.1 ((x18.1.1).toNat) ((0:Int),((0:Int),((0:Int),())))).2).2).1==(((getD' x18.2.1 (((w64 (x18.1.1-1))).toNat) ((0:Int),((0:Int),((0:Int),())))).2).2).1)&&true))) then(req (qY x18.1.1 ((x18.2.1.length:Nat):Int) x18.2.1.length) (Option.bind (iterW (qfi x18) ((x18.1.1,(1:Int),()),(x18.2.1,()))) fun x21 =>
  req (qY x21.1.1 ((x21.2.1.length:Nat):Int) x21.2.1.length) (req (qY 0 x21.1.1 (x21.2.1.take (x21.1.1).toNat++(List.replicate ((((x21.2.1.length:Nat):Int)).toNat-(x21.1.1).toNat) ((0:Int),((0:Int),((0:Int),())))++x21.2.1.drop ((x21.1.1).toNat+((((x21.2.1.length:Nat):Int)).toNat-(x21.1.1).toNat)))).length) (some (Sum.inr (Sum.inr (Sum.inr ((((x21.2.1.take (x21.1.1).toNat++(List.replicate ((((x21.2.1.length:Nat):Int)).toNat-(x21.1.1).toNat) ((0:Int),((0:Int),((0:Int),())))++x21.2.1.drop ((x21.1.1).toNat+((((x21.2.1.length:Nat):Int)).toNat-(x21.1.1).toNat)))).take (x21.1.1).toNat),()),()))))))))
  else some (Sum.inl ((x18.1.1,()),(x18.2.1,())))))) (Sum.elim (fun x22 =>
  some (Sum.inl (((w64 (x22.1.1+1)),()),(x22.2.1,())))) some))
  else some (Sum.inr (Sum.inl ((),(x18.2.1,()))))
def qbo (r:ByteArray×Int×Int×Zv15×Zv43×Bool×Bool×Zv27×Int×Int×Int×Unit) (p:Zv43×Zv31×Int×Int×Unit):Option Zv32 :=
  Option.bind (qhg r p) fun r2 =>
  Option.bind (iterW (qcr p r) ((r2,(0:Int),()),())) fun x17 =>
  req (Nat.blt x17.1.1.length 4611686018427387904) (Option.bind (bif (decide ((((qba x17.1.1).length:Nat):Int)<2)) then some (((qba x17.1.1),()),())
  else Option.bind (α:=Zv22 ⊕ Zv21) (iterW (qdh) (((1:Int),()),((qba x17.1.1),()))) (Sum.elim (fun x23 =>
  some ((x23.2.1,()),())) some)) fun x24 =>
  some x24.1.1)
def qcD (r:ByteArray×Int×Int×Zv15×Zv43×Bool×Bool×Zv27×Int×Int×Int×Unit) (p:Zv43×Zv31×Int×Int×Unit) (x2:Zv42×(Unit)):Option (Zv38 ⊕ (Zv41 ⊕ Int)) :=
  bif (decide (x2.1.1<((r.2.2.2.2.2.2.2.1.length:Nat):Int))) then(Option.bind (at? r.2.2.2.2.2.2.2.1 x2.1.1) fun d3 =>
  Option.bind (qgZ r p d3 (w64 ((1:Int)-p.2.2.1))) fun r4 =>
  bif r4 then(Option.map Sum.inr (Option.map Sum.inr (bif (decide (x2.1.1≥0)) then(Option.bind (at? r.2.2.2.2.2.2.2.1 x2.1.1) fun d5 =>
  bif d5.2.2.2.1 then some (qbx p.2.2.1)
  else some (qbx (w64 ((1:Int)-p.2.2.1))))
  else bif ((r.2.2.2.2.2.2.2.2.2.1 !=0)&&(decide (p.2.2.2.1≥r.2.2.2.2.2.2.2.2.2.1))) then some (3:Int)
  else Option.bind (qbo r p) fun r6 =>
  bif (decide (((r6.length:Nat):Int)>0)) then some (0:Int)
  else bif (r.2.2.2.2.2.2.2.2.1==0) then some (qbx (w64 ((1:Int)-p.2.2.1)))
  else bif (r.2.2.2.2.2.2.2.2.1==1) then some (qbx p.2.2.1)
  else some (3:Int))))
  else some (Sum.inl (((w64 (x2.1.1+1)),()),())))
  else some (Sum.inr (Sum.inl ((),())))
def qav (r:ByteArray×Int×Int×Zv15×Zv43×Bool×Bool×Zv27×Int×Int×Int×Unit) (p:Zv43×Zv31×Int×Int×Unit):Option (Int) :=
  Option.bind (α:=Zv41 ⊕ Int) (iterW (qcD r p) (((0:Int),()),())) (Sum.elim (fun x7 =>
  bif ((r.2.2.2.2.2.2.2.2.2.1 !=0)&&(decide (p.2.2.2.1≥r.2.2.2.2.2.2.2.2.2.1))) then some (3:Int)
  else Option.bind (qbo r p) fun r8 =>
  bif (decide (((r8.length:Nat):Int)>0)) then some (0:Int)
  else bif (r.2.2.2.2.2.2.2.2.1==0) then some (qbx (w64 ((1:Int)-p.2.2.1)))
  else bif (r.2.2.2.2.2.2.2.2.1==1) then some (qbx p.2.2.1)
  else some (3:Int)) some)
def zobMix (n:Int):Int :=
  (ixor .u64 (wu64 ((ixor .u64 (wu64 ((ixor .u64 (wu64 ((wu64 ((wu64 n)+1))*(11400714819323198485:Int))) (shK .shr .u64 (wu64 ((wu64 ((wu64 n)+1))*(11400714819323198485:Int))) (30:Int)))*(13787848793156543929:Int))) (shK .shr .u64 (wu64 ((ixor .u64 (wu64 ((wu64 ((wu64 n)+1))*(11400714819323198485:Int))) (shK .shr .u64 (wu64 ((wu64 ((wu64 n)+1))*(11400714819323198485:Int))) (30:Int)))*(13787848793156543929:Int))) (27:Int)))*(10723151780598845931:Int))) (shK .shr .u64 (wu64 ((ixor .u64 (wu64 ((ixor .u64 (wu64 ((wu64 ((wu64 n)+1))*(11400714819323198485:Int))) (shK .shr .u64 (wu64 ((wu64 ((wu64 n)+1))*(11400714819323198485:Int))) (30:Int)))*(13787848793156543929:Int))) (shK .shr .u64 (wu64 ((ixor .u64 (wu64 ((wu64 ((wu64 n)+1))*(11400714819323198485:Int))) (shK .shr .u64 (wu64 ((wu64 ((wu64 n)+1))*(11400714819323198485:Int))) (30:Int)))*(13787848793156543929:Int))) (27:Int)))*(10723151780598845931:Int))) (31:Int)))
def qc8 (s:ByteArray) (x1:Zv42×(Unit)):Option (Zv38 ⊕ (Zv41 ⊕ Bool)) :=
  bif (decide (x1.1.1<((s.size:Nat):Int))) then(Option.bind (strAt s x1.1.1) fun c2 =>
  Option.bind (gopt (decide (((c2.toNat:Nat):Int)≥65)) 0 (strAt s x1.1.1)) fun c3 =>
  Option.bind (gopt ((!(x1.1.1==0))&&(!((decide (((c2.toNat:Nat):Int)≥65))&&(decide (((c3.toNat:Nat):Int)≤90))))) 0 (strAt s x1.1.1)) fun c4 =>
  Option.bind (gopt ((!((x1.1.1==0)||(decide (((c4.toNat:Nat):Int)<48))))&&(!((decide (((c2.toNat:Nat):Int)≥65))&&(decide (((c3.toNat:Nat):Int)≤90))))) 0 (strAt s x1.1.1)) fun c5 =>
  bif ((!((decide (((c2.toNat:Nat):Int)≥65))&&(decide (((c3.toNat:Nat):Int)≤90))))&&(((x1.1.1==0)||(decide (((c4.toNat:Nat):Int)<48)))||(decide (((c5.toNat:Nat):Int)>57)))) then some (Sum.inr (Sum.inr false))
  else some (Sum.inl (((w64 (x1.1.1+1)),()),())))
  else some (Sum.inr (Sum.inl ((),())))
def qgW (s:ByteArray):Option (Bool) :=
  Option.bind (α:=Zv41 ⊕ Bool) (iterW (qc8 s) (((0:Int),()),())) (Sum.elim (fun x6 =>
  some ((!(s.toList==(ByteArray.mk #[]).toList))&&(decide (((s.size:Nat):Int)≤8)))) some)
def qd2 (n:Int) (low:Int) (high:Int):Option (Bool) :=
  some ((decide (n≥low))&&(decide (n≤high)))
def qa (n:Int) (low:Int) (high:Int):Bool :=
  ((decide (n≥low))&&(decide (n≤high)))
theorem qjS (n:Int) (low:Int) (high:Int):qd2 n low high=some (qa n low high):=by
  unfold qd2 qa
  first | rfl | simp only[qam]
def qjQ (d2:Int×Int×Int×Zv28×Unit) (x5:Zv42×(Unit)):Option (Zv38 ⊕ (Zv41 ⊕ (Zv41 ⊕ (Zv38 ⊕ (Zv41 ⊕ Int))))) :=
  bif (decide (x5.1.1<((d2.2.2.2.1.length:Nat):Int))) then(Option.bind (at? d2.2.2.2.1 x5.1.1) fun d6 =>
  bif (((((!(qa d6.1 (-7:Int) (7:Int)))||(!(qa d6.2.1 (-7:Int) (7:Int))))||((d6.1==0)&&(d6.2.1==0)))||(!(qa d6.2.2.1 (1:Int) (7:Int))))||(!(qa d6.2.2.2.1 (0:Int) (2:Int)))) then some (Sum.inr (Sum.inr (Sum.inr (Sum.inr (Sum.inr (4:Int))))))
  else some (Sum.inl (((w64 (x5.1.1+1)),()),())))
  else some (Sum.inr (Sum.inl ((),())))
def qb7 (r:ByteArray×Int×Int×Zv15×Zv43×Bool×Bool×Zv27×Int×Int×Int×Unit) (x1:Zv42×(Unit)) (d2:Int×Int×Int×Zv28×Unit) (x3:Zv42×(Unit)):Option (Zv38 ⊕ (Zv41 ⊕ (Zv41 ⊕ (Zv38 ⊕ (Zv41 ⊕ Int))))) :=
  bif (decide (x3.1.1<((((r.2.2.2.1.take (x1.1.1).toNat).drop 0).length:Nat):Int))) then(Option.bind (at? ((r.2.2.2.1.take (x1.1.1).toNat).drop 0) x3.1.1) fun d4 =>
  bif (d4.1==d2.1) then(Option.map Sum.inr (Option.map Sum.inr (bif (decide (x3.1.1≥0)) then some (Sum.inr (Sum.inr (Sum.inr (7:Int))))
  else bif ((!(qa d2.2.1 (0:Int) (64:Int)))||(!(qa d2.2.2.1 (0:Int) ((r.2.2.2.1.length:Nat):Int)))) then some (Sum.inr (Sum.inr (Sum.inr (4:Int))))
  else bif (decide (((d2.2.2.2.1.length:Nat):Int)>16)) then some (Sum.inr (Sum.inr (Sum.inr (2:Int))))
  else Option.bind (α:=Zv41 ⊕ (Zv41 ⊕ (Zv38 ⊕ (Zv41 ⊕ Int)))) (iterW (qjQ d2) (((0:Int),()),())) (Sum.elim (fun x7 =>
  some (Sum.inl ((),()))) some))))
  else some (Sum.inl (((w64 (x3.1.1+1)),()),())))
  else some (Sum.inr (Sum.inl ((),())))
def qb9 (d2:Int×Int×Int×Zv28×Unit) (x9:Zv42×(Unit)):Option (Zv38 ⊕ (Zv41 ⊕ (Zv41 ⊕ (Zv38 ⊕ (Zv41 ⊕ Int))))) :=
  bif (decide (x9.1.1<((d2.2.2.2.1.length:Nat):Int))) then(Option.bind (at? d2.2.2.2.1 x9.1.1) fun d10 =>
  bif (((((!(qa d10.1 (-7:Int) (7:Int)))||(!(qa d10.2.1 (-7:Int) (7:Int))))||((d10.1==0)&&(d10.2.1==0)))||(!(qa d10.2.2.1 (1:Int) (7:Int))))||(!(qa d10.2.2.2.1 (0:Int) (2:Int)))) then some (Sum.inr (Sum.inr (Sum.inr (Sum.inr (Sum.inr (4:Int))))))
  else some (Sum.inl (((w64 (x9.1.1+1)),()),())))
  else some (Sum.inr (Sum.inl ((),())))
def qcf (r:ByteArray×Int×Int×Zv15×Zv43×Bool×Bool×Zv27×Int×Int×Int×Unit) (x1:Zv42×(Unit)):Option (Zv38 ⊕ (Zv41 ⊕ Int)) :=
  bif (decide (x1.1.1<((r.2.2.2.1.length:Nat):Int))) then(Option.bind (α:=Zv41 ⊕ (Zv38 ⊕ (Zv41 ⊕ Int))) (Option.bind (at? r.2.2.2.1 x1.1.1) fun d2 =>
  bif ((decide (d2.1<65))||(decide (d2.1>90))) then some (Sum.inr (Sum.inr (Sum.inr (6:Int))))
  else req (qY (0:Int) x1.1.1 r.2.2.2.1.length) (Option.bind (α:=Zv41 ⊕ (Zv41 ⊕ (Zv38 ⊕ (Zv41 ⊕ Int)))) (iterW (qb7 r x1 d2) (((0:Int),()),())) (Sum.elim (fun x8 =>
  bif ((!(qa d2.2.1 (0:Int) (64:Int)))||(!(qa d2.2.2.1 (0:Int) ((r.2.2.2.1.length:Nat):Int)))) then some (Sum.inr (Sum.inr (Sum.inr (4:Int))))
  else bif (decide (((d2.2.2.2.1.length:Nat):Int)>16)) then some (Sum.inr (Sum.inr (Sum.inr (2:Int))))
  else Option.bind (α:=Zv41 ⊕ (Zv41 ⊕ (Zv38 ⊕ (Zv41 ⊕ Int)))) (iterW (qb9 d2) (((0:Int),()),())) (Sum.elim (fun x11 =>
  some (Sum.inl ((),()))) some)) some))) (Sum.elim (fun x12 =>
  some (Sum.inl (((w64 (x1.1.1+1)),()),()))) some))
  else some (Sum.inr (Sum.inl ((),())))
def qeq (r:ByteArray×Int×Int×Zv15×Zv43×Bool×Bool×Zv27×Int×Int×Int×Unit):Option (Int) :=
  bif (((r.2.2.2.1.length:Nat):Int)==0) then some (8:Int)
  else bif (decide (((r.2.2.2.1.length:Nat):Int)>6)) then some (2:Int)
  else Option.bind (α:=Zv41 ⊕ Int) (iterW (qcf r) (((0:Int),()),())) (Sum.elim (fun x13 =>
  some (0:Int)) some)
def qa3 (r:ByteArray×Int×Int×Zv15×Zv43×Bool×Bool×Zv27×Int×Int×Int×Unit) (x1:Zv42×(Unit)):Option (Zv38 ⊕ (Zv41 ⊕ Int)) :=
  bif (decide (x1.1.1<((r.2.2.2.2.2.2.2.1.length:Nat):Int))) then(Option.bind (at? r.2.2.2.2.2.2.2.1 x1.1.1) fun d2 =>
  Option.bind (α:=((Bool×Bool×Unit)×(Unit)) ⊕ (Zv38 ⊕ (Zv41 ⊕ Int))) (bif (d2.1==0) then some (Sum.inl (((qa d2.2.2.1 (1:Int) (64:Int)),(d2.2.1==0),()),()))
  else Option.bind (α:=Zv37 ⊕ (((Bool×Bool×Unit)×(Unit)) ⊕ (Zv38 ⊕ (Zv41 ⊕ Int)))) (bif (d2.1==1) then some (Sum.inl (((d2.2.2.1==0),()),()))
  else bif (d2.1==2) then some (Sum.inl (((qa d2.2.2.1 (1:Int) (64:Int)),()),()))
  else some (Sum.inr (Sum.inr (Sum.inr (Sum.inr (1:Int)))))) (Sum.elim (fun x3 =>
  some (Sum.inl ((x3.1.1,(qa d2.2.1 (0:Int) (w64 (((r.2.2.2.1.length:Nat):Int)-1))),()),()))) some)) (Sum.elim (fun x4 =>
  bif ((!x4.1.1)||(!x4.1.2.1)) then some (Sum.inr (Sum.inr (4:Int)))
  else some (Sum.inl (((w64 (x1.1.1+1)),()),()))) some))
  else some (Sum.inr (Sum.inl ((),())))
def qa7 (r:ByteArray×Int×Int×Zv15×Zv43×Bool×Bool×Zv27×Int×Int×Int×Unit):Option (Int) :=
  bif (decide (((r.2.2.2.2.2.2.2.1.length:Nat):Int)>6)) then some (2:Int)
  else Option.bind (α:=Zv41 ⊕ Int) (iterW (qa3 r) (((0:Int),()),())) (Sum.elim (fun x5 =>
  some (0:Int)) some)
def qcG (r:ByteArray×Int×Int×Zv15×Zv43×Bool×Bool×Zv27×Int×Int×Int×Unit) (x6:Zv42×(Unit)):Option (Zv38 ⊕ (Zv41 ⊕ Int)) :=
  bif (decide (x6.1.1<((r.2.2.2.2.1.length:Nat):Int))) then(Option.bind (at? r.2.2.2.2.1 x6.1.1) fun d7 =>
  bif (!(qa d7 (0:Int) (w64 ((2:Int)*((r.2.2.2.1.length:Nat):Int))))) then(Option.map Sum.inr (Option.map Sum.inr (bif (decide (x6.1.1≥0)) then some (4:Int)
  else Option.bind (qa7 r) fun r8 =>
  bif (r8 !=0) then some r8
  else bif (((!(qa r.2.2.2.2.2.2.2.2.1 (0:Int) (2:Int)))||(!(qa r.2.2.2.2.2.2.2.2.2.1 (0:Int) (200:Int))))||((r.2.2.2.2.2.2.2.2.2.2.1 !=0)&&(!(qa r.2.2.2.2.2.2.2.2.2.2.1 (2:Int) (5:Int))))) then some (4:Int)
  else some (0:Int))))
  else some (Sum.inl (((w64 (x6.1.1+1)),()),())))
  else some (Sum.inr (Sum.inl ((),())))
def qfx (r:ByteArray×Int×Int×Zv15×Zv43×Bool×Bool×Zv27×Int×Int×Int×Unit):Option (Int) :=
  Option.bind (qgW r.1) fun r4 =>
  bif (!r4) then some (6:Int)
  else bif ((!(qa r.2.1 (1:Int) (8:Int)))||(!(qa r.2.2.1 (1:Int) (8:Int)))) then some (4:Int)
  else Option.bind (qeq r) fun r5 =>
  bif (r5 !=0) then some r5
  else bif (((r.2.2.2.2.1.length:Nat):Int)!=(w64 (r.2.1*r.2.2.1))) then some (3:Int)
  else Option.bind (α:=Zv41 ⊕ Int) (iterW (qcG r) (((0:Int),()),())) (Sum.elim (fun x9 =>
  Option.bind (qa7 r) fun r10 =>
  bif (r10 !=0) then some r10
  else bif (((!(qa r.2.2.2.2.2.2.2.2.1 (0:Int) (2:Int)))||(!(qa r.2.2.2.2.2.2.2.2.2.1 (0:Int) (200:Int))))||((r.2.2.2.2.2.2.2.2.2.2.1 !=0)&&(!(qa r.2.2.2.2.2.2.2.2.2.2.1 (2:Int) (5:Int))))) then some (4:Int)
  else some (0:Int)) some)
def qJ (slices:List Zv43) (x1:Zv40×(Unit)):Option (Zv35 ⊕ Zv38) :=
  bif (decide (x1.1.2.1<((slices.length:Nat):Int))) then(Option.bind (at? slices x1.1.2.1) fun d2 =>
  bif (decide ((w64 (x1.1.1+((d2.length:Nat):Int)))<0)) then none
  else some (Sum.inl (((w64 (x1.1.1+((d2.length:Nat):Int))),(w64 (x1.1.2.1+1)),()),())))
  else some (Sum.inr ((x1.1.1,()),()))
def qM (slices:List Zv43) (x5:(Zv43×Int×Unit)×(Unit)):Option (((Zv43×Int×Unit)×(Unit)) ⊕ ((Zv43×Unit)×(Unit))) :=
  bif (decide (x5.1.2.1<((slices.length:Nat):Int))) then(Option.bind (at? slices x5.1.2.1) fun d6 =>
  req (room (x5.1.1.length+d6.length) 8) (some (Sum.inl (((x5.1.1++d6),(w64 (x5.1.2.1+1)),()),()))))
  else some (Sum.inr ((x5.1.1,()),()))
def qbq (slices:List Zv43):Option Zv43 :=
  Option.bind (iterW (qJ slices) (((0:Int),(0:Int),()),())) fun x3 =>
  bif (decide (x3.1.1<0)) then none
  else Option.bind (bif (decide ((w64 (x3.1.1-0))>0)) then req (decide (0<(w64 (x3.1.1-0)))&&room ((w64 (x3.1.1-0))).toNat 8) (req (qY 0 (0:Int) (List.replicate ((w64 (x3.1.1-0))).toNat (0:Int)).length) (some ((((List.replicate ((w64 (x3.1.1-0))).toNat (0:Int)).take 0),()),())))
  else some ((([]:List Int),()),())) fun x4 =>
  Option.bind (iterW (qM slices) ((x4.1.1,(0:Int),()),())) fun x7 =>
  some x7.1.1
def qkZ (r2:List Int) (p:Zv43×Zv31×Int×Int×Unit) (x5:Zv42×(Unit)):Option (Zv38 ⊕ (Zv41 ⊕ Zv37)) :=
  bif (decide (x5.1.1<((r2.length:Nat):Int))) then(req (inb x5.1.1 r2.length) (bif ((decide ((getD' r2 ((x5.1.1).toNat) (0:Int))<0))||(decide ((getD' r2 ((x5.1.1).toNat) (0:Int))>1000))) then some (Sum.inr (Sum.inr ((((((decide (x5.1.1≥0))||((p.2.2.1 !=0)&&(p.2.2.1 !=1)))||(decide (p.2.2.2.1<0)))||(decide (p.2.2.2.1>200))),()),())))
  else some (Sum.inl (((w64 (x5.1.1+1)),()),()))))
  else some (Sum.inr (Sum.inl ((),())))
def qbE (p:Zv43×Zv31×Int×Int×Unit) (r:ByteArray×Int×Int×Zv15×Zv43×Bool×Bool×Zv27×Int×Int×Int×Unit) (r2:List Int) (x3:Zv42×(Unit)):Option (Zv38 ⊕ (Zv41 ⊕ Zv37)) :=
  bif (decide (x3.1.1<((p.1.length:Nat):Int))) then(Option.bind (at? p.1 x3.1.1) fun d4 =>
  bif ((decide (d4<0))||(decide (d4>(w64 ((2:Int)*((r.2.2.2.1.length:Nat):Int)))))) then(Option.map Sum.inr (Option.map Sum.inr (bif (decide (x3.1.1≥0)) then some ((true,()),())
  else Option.bind (α:=Zv41 ⊕ Zv37) (iterW (qkZ r2 p) (((0:Int),()),())) (Sum.elim (fun x6 =>
  some ((((((p.2.2.1 !=0)&&(p.2.2.1 !=1))||(decide (p.2.2.2.1<0)))||(decide (p.2.2.2.1>200))),()),())) some))))
  else some (Sum.inl (((w64 (x3.1.1+1)),()),())))
  else some (Sum.inr (Sum.inl ((),())))
def qbC (r2:List Int) (p:Zv43×Zv31×Int×Int×Unit) (x8:Zv42×(Unit)):Option (Zv38 ⊕ (Zv41 ⊕ Zv37)) :=
  bif (decide (x8.1.1<((r2.length:Nat):Int))) then(req (inb x8.1.1 r2.length) (bif ((decide ((getD' r2 ((x8.1.1).toNat) (0:Int))<0))||(decide ((getD' r2 ((x8.1.1).toNat) (0:Int))>1000))) then some (Sum.inr (Sum.inr ((((((decide (x8.1.1≥0))||((p.2.2.1 !=0)&&(p.2.2.1 !=1)))||(decide (p.2.2.2.1<0)))||(decide (p.2.2.2.1>200))),()),())))
  else some (Sum.inl (((w64 (x8.1.1+1)),()),()))))
  else some (Sum.inr (Sum.inl ((),())))
def qlA (r2:List Int) (p:Zv43×Zv31×Int×Int×Unit) (x12:Zv42×(Unit)):Option (Zv38 ⊕ (Zv41 ⊕ Zv37)) :=
  bif (decide (x12.1.1<((r2.length:Nat):Int))) then(req (inb x12.1.1 r2.length) (bif ((decide ((getD' r2 ((x12.1.1).toNat) (0:Int))<0))||(decide ((getD' r2 ((x12.1.1).toNat) (0:Int))>1000))) then some (Sum.inr (Sum.inr ((((((decide (x12.1.1≥0))||((p.2.2.1 !=0)&&(p.2.2.1 !=1)))||(decide (p.2.2.2.1<0)))||(decide (p.2.2.2.1>200))),()),())))
  else some (Sum.inl (((w64 (x12.1.1+1)),()),()))))
  else some (Sum.inr (Sum.inl ((),())))
def qgs (p:Zv43×Zv31×Int×Int×Unit) (r:ByteArray×Int×Int×Zv15×Zv43×Bool×Bool×Zv27×Int×Int×Int×Unit) (r2:List Int) (x10:Zv42×(Unit)):Option (Zv38 ⊕ (Zv41 ⊕ Zv37)) :=
  bif (decide (x10.1.1<((p.1.length:Nat):Int))) then(Option.bind (at? p.1 x10.1.1) fun d11 =>
  bif ((decide (d11<0))||(decide (d11>(w64 ((2:Int)*((r.2.2.2.1.length:Nat):Int)))))) then(Option.map Sum.inr (Option.map Sum.inr (bif (decide (x10.1.1≥0)) then some ((true,()),())
  else Option.bind (α:=Zv41 ⊕ Zv37) (iterW (qlA r2 p) (((0:Int),()),())) (Sum.elim (fun x13 =>
  some ((((((p.2.2.1 !=0)&&(p.2.2.1 !=1))||(decide (p.2.2.2.1<0)))||(decide (p.2.2.2.1>200))),()),())) some))))
  else some (Sum.inl (((w64 (x10.1.1+1)),()),())))
  else some (Sum.inr (Sum.inl ((),())))
def qgj (r2:List Int) (p:Zv43×Zv31×Int×Int×Unit) (x15:Zv42×(Unit)):Option (Zv38 ⊕ (Zv41 ⊕ Zv37)) :=
  bif (decide (x15.1.1<((r2.length:Nat):Int))) then(req (inb x15.1.1 r2.length) (bif ((decide ((getD' r2 ((x15.1.1).toNat) (0:Int))<0))||(decide ((getD' r2 ((x15.1.1).toNat) (0:Int))>1000))) then some (Sum.inr (Sum.inr ((((((decide (x15.1.1≥0))||((p.2.2.1 !=0)&&(p.2.2.1 !=1)))||(decide (p.2.2.2.1<0)))||(decide (p.2.2.2.1>200))),()),())))
  else some (Sum.inl (((w64 (x15.1.1+1)),()),()))))
  else some (Sum.inr (Sum.inl ((),())))
def qfr (r:ByteArray×Int×Int×Zv15×Zv43×Bool×Bool×Zv27×Int×Int×Int×Unit) (p:Zv43×Zv31×Int×Int×Unit):Option (Int) :=
  bif (((((p.1.length:Nat):Int)!=(w64 (r.2.1*r.2.2.1)))||(((p.2.1.1.length:Nat):Int)!=((r.2.2.2.1.length:Nat):Int)))||(((p.2.1.2.1.length:Nat):Int)!=((r.2.2.2.1.length:Nat):Int))) then some (3:Int)
  else Option.bind (qbq ([p.2.1.1,p.2.1.2.1])) fun r2 =>
  Option.bind (agree (Option.bind (α:=Zv41 ⊕ Zv37) (iterW (qbE p r r2) (((0:Int),()),())) (Sum.elim (fun x7 =>
  Option.bind (α:=Zv41 ⊕ Zv37) (iterW (qbC r2 p) (((0:Int),()),())) (Sum.elim (fun x9 =>
  some ((((((p.2.2.1 !=0)&&(p.2.2.1 !=1))||(decide (p.2.2.2.1<0)))||(decide (p.2.2.2.1>200))),()),())) some)) some)) (Option.bind (α:=Zv41 ⊕ Zv37) (iterW (qgs p r r2) (((0:Int),()),())) (Sum.elim (fun x14 =>
  Option.bind (α:=Zv41 ⊕ Zv37) (iterW (qgj r2 p) (((0:Int),()),())) (Sum.elim (fun x16 =>
  some ((((((p.2.2.1 !=0)&&(p.2.2.1 !=1))||(decide (p.2.2.2.1<0)))||(decide (p.2.2.2.1>200))),()),())) some)) some))) fun x17 =>
  bif x17.1.1 then some (4:Int)
  else some (0:Int)
def qbV (r:ByteArray×Int×Int×Zv15×Zv43×Bool×Bool×Zv27×Int×Int×Int×Unit) (p:Zv43×Zv31×Int×Int×Unit):Option (Int) :=
  Option.bind (qfx r) fun r3 =>
  bif (r3 !=0) then some r3
  else Option.bind (qfr r p) fun r4 =>
  some r4
def qk1 (n:Int) (low:Int) (high:Int):Option (Bool) :=
  some ((decide (n≥low))&&(decide (n≤high)))
def qu (n:Int) (low:Int) (high:Int):Bool :=
  ((decide (n≥low))&&(decide (n≤high)))
theorem ref1In_eq (n:Int) (low:Int) (high:Int):qk1 n low high=some (qu n low high):=by
  unfold qk1 qu
  first | rfl | simp only[qam]
def qc9 (s:ByteArray) (x1:Zv42×(Unit)):Option (Zv38 ⊕ (Zv41 ⊕ Bool)) :=
  bif (decide (x1.1.1<((s.size:Nat):Int))) then(Option.bind (strAt s x1.1.1) fun c2 =>
  Option.bind (gopt (!(qu (w64 ((c2.toNat:Nat):Int)) (48:Int) (57:Int))) 0 (strAt s x1.1.1)) fun c3 =>
  bif (((!(qu (w64 ((c2.toNat:Nat):Int)) (48:Int) (57:Int)))&&(!(qu (w64 ((c3.toNat:Nat):Int)) (65:Int) (90:Int))))||((qu (w64 ((c2.toNat:Nat):Int)) (48:Int) (57:Int))&&(x1.1.1==0))) then some (Sum.inr (Sum.inr false))
  else some (Sum.inl (((w64 (x1.1.1+1)),()),())))
  else some (Sum.inr (Sum.inl ((),())))
def qgw (s:ByteArray):Option (Bool) :=
  Option.bind (α:=Zv41 ⊕ Bool) (iterW (qc9 s) (((0:Int),()),())) (Sum.elim (fun x4 =>
  some (qu ((s.size:Nat):Int) (1:Int) (8:Int))) some)
def qbg (i:Int) (l:List Zv18) (d2:Int×Int×Int×Zv28×Unit) (x3:Zv42×(Unit)):Option (Zv38 ⊕ (Zv41 ⊕ Int)) :=
  bif (decide (x3.1.1<i)) then(Option.bind (at? l x3.1.1) fun d4 =>
  bif (d4.1==d2.1) then some (Sum.inr (Sum.inr (7:Int)))
  else some (Sum.inl (((w64 (x3.1.1+1)),()),())))
  else some (Sum.inr (Sum.inl ((),())))
def qbh (d2:Int×Int×Int×Zv28×Unit) (x6:Zv42×(Unit)):Option (Zv38 ⊕ (Zv41 ⊕ Int)) :=
  bif (decide (x6.1.1<((d2.2.2.2.1.length:Nat):Int))) then(Option.bind (at? d2.2.2.2.1 x6.1.1) fun d7 =>
  bif (((((!(qu d7.1 (-7:Int) (7:Int)))||(!(qu d7.2.1 (-7:Int) (7:Int))))||((d7.1==0)&&(d7.2.1==0)))||(!(qu d7.2.2.1 (1:Int) (7:Int))))||(!(qu d7.2.2.2.1 (0:Int) (2:Int)))) then some (Sum.inr (Sum.inr (4:Int)))
  else some (Sum.inl (((w64 (x6.1.1+1)),()),())))
  else some (Sum.inr (Sum.inl ((),())))
def qca (l:List Zv18) (i:Int):Option (Int) :=
  Option.bind (at? l i) fun d2 =>
  bif (!(qu (w64 d2.1) (65:Int) (90:Int))) then some (6:Int)
  else Option.bind (α:=Zv41 ⊕ Int) (iterW (qbg i l d2) (((0:Int),()),())) (Sum.elim (fun x5 =>
  bif ((!(qu d2.2.1 (0:Int) (64:Int)))||(!(qu d2.2.2.1 (0:Int) ((l.length:Nat):Int)))) then some (4:Int)
  else bif (decide (((d2.2.2.2.1.length:Nat):Int)>16)) then some (2:Int)
  else Option.bind (α:=Zv41 ⊕ Int) (iterW (qbh d2) (((0:Int),()),())) (Sum.elim (fun x8 =>
  some (0:Int)) some)) some)
def qbl (r:ByteArray×Int×Int×Zv15×Zv43×Bool×Bool×Zv27×Int×Int×Int×Unit) (x3:Zv42×(Unit)):Option (Zv38 ⊕ (Zv41 ⊕ Int)) :=
  bif (decide (x3.1.1<((r.2.2.2.1.length:Nat):Int))) then(Option.bind (qca r.2.2.2.1 x3.1.1) fun r4 =>
  bif (r4 !=0) then some (Sum.inr (Sum.inr r4))
  else some (Sum.inl (((w64 (x3.1.1+1)),()),())))
  else some (Sum.inr (Sum.inl ((),())))
def qbf (r:ByteArray×Int×Int×Zv15×Zv43×Bool×Bool×Zv27×Int×Int×Int×Unit) (x6:Zv42×(Unit)):Option (Zv38 ⊕ (Zv41 ⊕ Int)) :=
  bif (decide (x6.1.1<((r.2.2.2.2.1.length:Nat):Int))) then(Option.bind (at? r.2.2.2.2.1 x6.1.1) fun d7 =>
  bif (!(qu d7 (0:Int) (w64 ((2:Int)*((r.2.2.2.1.length:Nat):Int))))) then some (Sum.inr (Sum.inr (4:Int)))
  else some (Sum.inl (((w64 (x6.1.1+1)),()),())))
  else some (Sum.inr (Sum.inl ((),())))
def qbm (r:ByteArray×Int×Int×Zv15×Zv43×Bool×Bool×Zv27×Int×Int×Int×Unit) (x9:Zv42×(Unit)):Option (Zv38 ⊕ (Zv41 ⊕ Int)) :=
  bif (decide (x9.1.1<((r.2.2.2.2.2.2.2.1.length:Nat):Int))) then(Option.bind (at? r.2.2.2.2.2.2.2.1 x9.1.1) fun d10 =>
  bif (!(qu d10.1 (0:Int) (2:Int))) then some (Sum.inr (Sum.inr (1:Int)))
  else Option.bind (bif (d10.1==1) then some (((d10.2.2.1==0),()),())
  else some (((qu d10.2.2.1 (1:Int) (64:Int)),()),())) fun x11 =>
  Option.bind (bif (d10.1==0) then some (((d10.2.1==0),()),())
  else some (((qu d10.2.1 (0:Int) (w64 (((r.2.2.2.1.length:Nat):Int)-1))),()),())) fun x12 =>
  bif ((!x11.1.1)||(!x12.1.1)) then some (Sum.inr (Sum.inr (4:Int)))
  else some (Sum.inl (((w64 (x9.1.1+1)),()),())))
  else some (Sum.inr (Sum.inl ((),())))
def qcc (r:ByteArray×Int×Int×Zv15×Zv43×Bool×Bool×Zv27×Int×Int×Int×Unit):Option (Int) :=
  Option.bind (qgw r.1) fun r2 =>
  bif (!r2) then some (6:Int)
  else bif ((!(qu r.2.1 (1:Int) (8:Int)))||(!(qu r.2.2.1 (1:Int) (8:Int)))) then some (4:Int)
  else bif (((r.2.2.2.1.length:Nat):Int)==0) then some (8:Int)
  else bif (decide (((r.2.2.2.1.length:Nat):Int)>6)) then some (2:Int)
  else Option.bind (α:=Zv41 ⊕ Int) (iterW (qbl r) (((0:Int),()),())) (Sum.elim (fun x5 =>
  bif (((r.2.2.2.2.1.length:Nat):Int)!=(w64 (r.2.1*r.2.2.1))) then some (3:Int)
  else Option.bind (α:=Zv41 ⊕ Int) (iterW (qbf r) (((0:Int),()),())) (Sum.elim (fun x8 =>
  bif (decide (((r.2.2.2.2.2.2.2.1.length:Nat):Int)>6)) then some (2:Int)
  else Option.bind (α:=Zv41 ⊕ Int) (iterW (qbm r) (((0:Int),()),())) (Sum.elim (fun x13 =>
  bif (((!(qu r.2.2.2.2.2.2.2.2.1 (0:Int) (2:Int)))||(!(qu r.2.2.2.2.2.2.2.2.2.1 (0:Int) (200:Int))))||((r.2.2.2.2.2.2.2.2.2.2.1 !=0)&&(!(qu r.2.2.2.2.2.2.2.2.2.2.1 (2:Int) (5:Int))))) then some (4:Int)
  else some (0:Int)) some)) some)) some)
def qbi (p:Zv43×Zv31×Int×Int×Unit) (r:ByteArray×Int×Int×Zv15×Zv43×Bool×Bool×Zv27×Int×Int×Int×Unit) (x3:Zv39×(Unit)):Option (Zv34 ⊕ Zv37) :=
  bif (decide (x3.1.2.1<((p.1.length:Nat):Int))) then(Option.bind (at? p.1 x3.1.2.1) fun d4 =>
  some (Sum.inl (((x3.1.1&&(qu d4 (0:Int) (w64 ((2:Int)*((r.2.2.2.1.length:Nat):Int))))),(w64 (x3.1.2.1+1)),()),())))
  else some (Sum.inr ((x3.1.1,()),()))
def qbe (p:Zv43×Zv31×Int×Int×Unit) (x6:Zv39×(Unit)) (x7:Zv39×(Unit)):Option (Zv34 ⊕ Zv37) :=
  bif (decide (x7.1.2.1<(((getD' [p.2.1.1,p.2.1.2.1] (x6.1.2.1).toNat []).length:Nat):Int))) then(Option.bind (at? (getD' [p.2.1.1,p.2.1.2.1] (x6.1.2.1).toNat []) x7.1.2.1) fun d8 =>
  some (Sum.inl (((x7.1.1&&(qu d8 (0:Int) (1000:Int))),(w64 (x7.1.2.1+1)),()),())))
  else some (Sum.inr ((x7.1.1,()),()))
def qbk (p:Zv43×Zv31×Int×Int×Unit) (x6:Zv39×(Unit)):Option (Zv34 ⊕ Zv37) :=
  bif (decide (x6.1.2.1<2)) then(Option.bind (req (inb x6.1.2.1 2) (Option.bind (iterW (qbe p x6) ((x6.1.1,(0:Int),()),())) fun x9 =>
  some ((x9.1.1,()),()))) fun x10 =>
  some (Sum.inl ((x10.1.1,(w64 (x6.1.2.1+1)),()),())))
  else some (Sum.inr ((x6.1.1,()),()))
def qb3 (r:ByteArray×Int×Int×Zv15×Zv43×Bool×Bool×Zv27×Int×Int×Int×Unit) (p:Zv43×Zv31×Int×Int×Unit):Option (Int) :=
  Option.bind (qcc r) fun r2 =>
  bif (r2 !=0) then some r2
  else bif (((((p.1.length:Nat):Int)!=(w64 (r.2.1*r.2.2.1)))||(((p.2.1.1.length:Nat):Int)!=((r.2.2.2.1.length:Nat):Int)))||(((p.2.1.2.1.length:Nat):Int)!=((r.2.2.2.1.length:Nat):Int))) then some (3:Int)
  else Option.bind (iterW (qbi p r) ((((qu p.2.2.1 (0:Int) (1:Int))&&(qu p.2.2.2.1 (0:Int) (200:Int))),(0:Int),()),())) fun x5 =>
  Option.bind (iterW (qbk p) ((x5.1.1,(0:Int),()),())) fun x11 =>
  bif (!x11.1.1) then some (4:Int)
  else some (0:Int)
def qdi (c:Int) (player:Int):Option (Bool) :=
  req (imp (decide (c>0)) true) (some ((decide (c>0))&&(((w64 (c-1)).tmod 2)==player)))
def qjf (r:ByteArray×Int×Int×Zv15×Zv43×Bool×Bool×Zv27×Int×Int×Int×Unit) (player:Int) (y:Int):Option (Bool) :=
  some (((player==0)&&(y==(w64 (r.2.2.1-1))))||((player==1)&&(y==0)))
def qd8 (r:ByteArray×Int×Int×Zv15×Zv43×Bool×Bool×Zv27×Int×Int×Int×Unit) (player:Int) (y:Int):Bool :=
  (((player==0)&&(y==(w64 (r.2.2.1-1))))||((player==1)&&(y==0)))
theorem qpb (r:ByteArray×Int×Int×Zv15×Zv43×Bool×Bool×Zv27×Int×Int×Int×Unit) (player:Int) (y:Int):qjf r player y=some (qd8 r player y):=by
  unfold qjf qd8
  first | rfl | simp only[qam]
def qkv (r:ByteArray×Int×Int×Zv15×Zv43×Bool×Bool×Zv27×Int×Int×Int×Unit) (p:Zv43×Zv31×Int×Int×Unit) (x:Int) (y:Int):Option (Int) :=
  bif ((!(qu x (0:Int) (w64 (r.2.1-1))))||(!(qu y (0:Int) (w64 (r.2.2.1-1))))) then some (-1:Int)
  else Option.bind (at? p.1 (w64 ((w64 (y*r.2.1))+x))) fun d2 =>
  some d2
def qaB (w:Int×Int×Int×Int×Unit) (r:ByteArray×Int×Int×Zv15×Zv43×Bool×Bool×Zv27×Int×Int×Int×Unit) (p:Zv43×Zv31×Int×Int×Unit) (from':Int) (to:Int) (x1:Zv42×(Unit)):Option (Zv38 ⊕ (Zv41 ⊕ Bool)) :=
  bif (decide (x1.1.1≤w.2.2.1)) then(Option.bind (qkv r p (w64 ((from'.tmod r.2.1)+(w64 (x1.1.1*w.1)))) (w64 ((w64 (from'.tdiv r.2.1))+(w64 ((w64 (x1.1.1*w.2.1))*(w64 ((1:Int)-(w64 ((2:Int)*p.2.2.1))))))))) fun r2 =>
  bif (decide (r2<0)) then some (Sum.inr (Sum.inr false))
  else bif ((w64 ((w64 ((w64 ((w64 ((w64 (from'.tdiv r.2.1))+(w64 ((w64 (x1.1.1*w.2.1))*(w64 ((1:Int)-(w64 ((2:Int)*p.2.2.1))))))))*r.2.1))+(from'.tmod r.2.1)))+(w64 (x1.1.1*w.1))))==to) then(Option.bind (qdi r2 (w64 ((1:Int)-p.2.2.1))) fun r3 =>
  some (Sum.inr (Sum.inr (((r2==0)&&(w.2.2.2.1 !=2))||(r3&&(w.2.2.2.1 !=0))))))
  else bif (r2 !=0) then some (Sum.inr (Sum.inr false))
  else some (Sum.inl (((w64 (x1.1.1+1)),()),())))
  else some (Sum.inr (Sum.inl ((),())))
def qeg (r:ByteArray×Int×Int×Zv15×Zv43×Bool×Bool×Zv27×Int×Int×Int×Unit) (p:Zv43×Zv31×Int×Int×Unit) (from':Int) (to:Int) (w:Int×Int×Int×Int×Unit):Option (Bool) :=
  req (r.2.1 !=0) (req (r.2.1 !=0) (Option.bind (α:=Zv41 ⊕ Bool) (iterW (qaB w r p from' to) (((1:Int),()),())) (Sum.elim (fun x4 =>
  some false) some)))
def qaZ (r:ByteArray×Int×Int×Zv15×Zv43×Bool×Bool×Zv27×Int×Int×Int×Unit) (m:Int×Int×Int×Unit) (p:Zv43×Zv31×Int×Int×Unit) (x9:Zv42×(Unit)):Option (Zv38 ⊕ (Zv41 ⊕ Bool)) :=
  bif (r.2.2.2.2.2.1&&(decide (x9.1.1<m.2.1))) then(Option.bind (at? p.1 x9.1.1) fun d10 =>
  bif (d10==0) then some (Sum.inr (Sum.inr false))
  else some (Sum.inl (((w64 (x9.1.1+r.2.1)),()),())))
  else some (Sum.inr (Sum.inl ((),())))
def qb5 (d16:Int×Int×Int×Zv28×Unit) (r:ByteArray×Int×Int×Zv15×Zv43×Bool×Bool×Zv27×Int×Int×Int×Unit) (p:Zv43×Zv31×Int×Int×Unit) (m:Int×Int×Int×Unit) (x17:Zv42×(Unit)):Option (Zv38 ⊕ (Zv41 ⊕ Bool)) :=
  bif (decide (x17.1.1<((d16.2.2.2.1.length:Nat):Int))) then(Option.bind (at? d16.2.2.2.1 x17.1.1) fun d18 =>
  Option.bind (qeg r p m.1 m.2.1 d18) fun r19 =>
  bif r19 then some (Sum.inr (Sum.inr true))
  else some (Sum.inl (((w64 (x17.1.1+1)),()),())))
  else some (Sum.inr (Sum.inl ((),())))
def qep (r:ByteArray×Int×Int×Zv15×Zv43×Bool×Bool×Zv27×Int×Int×Int×Unit) (p:Zv43×Zv31×Int×Int×Unit) (m:Int×Int×Int×Unit):Option (Bool) :=
  bif (((!(qu m.1 (-1:Int) (w64 (((p.1.length:Nat):Int)-1))))||(!(qu m.2.1 (0:Int) (w64 (((p.1.length:Nat):Int)-1)))))||(!(qu m.2.2.1 (0:Int) (w64 (((r.2.2.2.1.length:Nat):Int)-1))))) then some false
  else bif (m.1==(-1:Int)) then(req (inb p.2.2.1 2) (Option.bind (at? (getD' [p.2.1.1,p.2.1.2.1] (p.2.2.1).toNat []) m.2.2.1) fun d7 =>
  Option.bind (gat (!(d7==0)) (0:Int) p.1 m.2.1) fun d8 =>
  bif ((d7==0)||(d8 !=0)) then some false
  else req (r.2.1 !=0) (Option.bind (α:=Zv41 ⊕ Bool) (iterW (qaZ r m p) (((m.2.1.tmod r.2.1),()),())) (Sum.elim (fun x11 =>
  some true) some))))
  else Option.bind (at? p.1 m.1) fun d12 =>
  Option.bind (qdi d12 p.2.2.1) fun r13 =>
  bif (!r13) then some false
  else Option.bind (at? r.2.2.2.1 (w64 ((w64 (d12-1)).tdiv 2))) fun d14 =>
  req (imp (d14.2.2.1 !=0) (r.2.1 !=0)) (Option.bind (bif ((d14.2.2.1 !=0)&&(qd8 r p.2.2.1 (w64 (m.2.1.tdiv r.2.1)))) then some (((w64 (d14.2.2.1-1)),()),())
  else some (((w64 ((w64 (d12-1)).tdiv 2)),()),())) fun x15 =>
  bif (x15.1.1 !=m.2.2.1) then some false
  else Option.bind (at? r.2.2.2.1 (w64 ((w64 (d12-1)).tdiv 2))) fun d16 =>
  Option.bind (α:=Zv41 ⊕ Bool) (iterW (qb5 d16 r p m) (((0:Int),()),())) (Sum.elim (fun x20 =>
  some false) some))
def qdq (r:ByteArray×Int×Int×Zv15×Zv43×Bool×Bool×Zv27×Int×Int×Int×Unit) (p:Zv43×Zv31×Int×Int×Unit) (x1:Zv23×(Unit)) (x2:Zv23×(Unit)) (x3:Zv23×(Unit)):Option (Zv19 ⊕ Zv21) :=
  bif (decide (x3.1.2.1<((r.2.2.2.1.length:Nat):Int))) then(Option.bind (qep r p (x1.1.2.1,(x2.1.2.1,(x3.1.2.1,())))) fun r4 =>
  Option.bind (bif r4 then req (room (x3.1.1.length+([(x1.1.2.1,(x2.1.2.1,(x3.1.2.1,())))]).length) 24) (some (((x3.1.1++[(x1.1.2.1,(x2.1.2.1,(x3.1.2.1,())))]),()),()))
  else some ((x3.1.1,()),())) fun x5 =>
  some (Sum.inl ((x5.1.1,(w64 (x3.1.2.1+1)),()),())))
  else some (Sum.inr ((x3.1.1,()),()))
def qdo (p:Zv43×Zv31×Int×Int×Unit) (r:ByteArray×Int×Int×Zv15×Zv43×Bool×Bool×Zv27×Int×Int×Int×Unit) (x1:Zv23×(Unit)) (x2:Zv23×(Unit)):Option (Zv19 ⊕ Zv21) :=
  bif (decide (x2.1.2.1<((p.1.length:Nat):Int))) then(Option.bind (Option.bind (iterW (qdq r p x1 x2) ((x2.1.1,(0:Int),()),())) fun x6 =>
  some ((x6.1.1,()),())) fun x7 =>
  some (Sum.inl ((x7.1.1,(w64 (x2.1.2.1+1)),()),())))
  else some (Sum.inr ((x2.1.1,()),()))
def qdz (p:Zv43×Zv31×Int×Int×Unit) (r:ByteArray×Int×Int×Zv15×Zv43×Bool×Bool×Zv27×Int×Int×Int×Unit) (x1:Zv23×(Unit)):Option (Zv19 ⊕ Zv21) :=
  bif (decide (x1.1.2.1<((p.1.length:Nat):Int))) then(Option.bind (Option.bind (iterW (qdo p r x1) ((x1.1.1,(0:Int),()),())) fun x8 =>
  some ((x8.1.1,()),())) fun x9 =>
  some (Sum.inl ((x9.1.1,(w64 (x1.1.2.1+1)),()),())))
  else some (Sum.inr ((x1.1.1,()),()))
def qcP (r:ByteArray×Int×Int×Zv15×Zv43×Bool×Bool×Zv27×Int×Int×Int×Unit) (p:Zv43×Zv31×Int×Int×Unit):Option Zv32 :=
  Option.bind (iterW (qdz p r) ((([]:List Zv36),(-1:Int),()),())) fun x10 =>
  some x10.1.1
def qcp (p:Zv43×Zv31×Int×Int×Unit) (m:Int×Int×Int×Unit) (x3:Zv42×Zv16):Option (Zv12 ⊕ Zv14) :=
  bif (decide (x3.1.1<((p.1.length:Nat):Int))) then(Option.bind (at? p.1 x3.1.1) fun d4 =>
  Option.bind (bif (x3.1.1==m.2.1) then some (((w64 ((w64 ((w64 ((2:Int)*m.2.2.1))+p.2.2.1))+1)),()),())
  else Option.bind (bif (x3.1.1==m.1) then some (((0:Int),()),())
  else some ((d4,()),())) fun x5 =>
  some ((x5.1.1,()),())) fun x6 =>
  req (room (x3.2.1.1.length+([x6.1.1]).length) 8) (some (Sum.inl (((w64 (x3.1.1+1)),()),(((x3.2.1.1++[x6.1.1]),(x3.2.1.2.1,(x3.2.1.2.2.1,x3.2.1.2.2.2))),())))))
  else some (Sum.inr ((),((x3.2.1.1,(x3.2.1.2.1,(x3.2.1.2.2.1,x3.2.1.2.2.2))),())))
def qcs (p:Zv43×Zv31×Int×Int×Unit) (x8:Zv42×Zv16) (m:Int×Int×Int×Unit) (r:ByteArray×Int×Int×Zv15×Zv43×Bool×Bool×Zv27×Int×Int×Int×Unit) (d2:Int) (x9:Zv42×Zv16):Option (Zv12 ⊕ Zv14) :=
  bif (decide (x9.1.1<(((getD' [p.2.1.1,p.2.1.2.1] (x8.1.1).toNat []).length:Nat):Int))) then(Option.bind (at? (getD' [p.2.1.1,p.2.1.2.1] (x8.1.1).toNat []) x9.1.1) fun d10 =>
  Option.bind (bif (((x8.1.1==p.2.2.1)&&(m.1==(-1:Int)))&&(x9.1.1==m.2.2.1)) then some (((w64 (d10-1)),()),())
  else some ((d10,()),())) fun x11 =>
  req (imp (((x8.1.1==p.2.2.1)&&r.2.2.2.2.2.2.1)&&(decide (d2>0))) true) (Option.bind (bif (((((x8.1.1==p.2.2.1)&&r.2.2.2.2.2.2.1)&&(decide (d2>0)))&&(x9.1.1==(w64 ((w64 (d2-1)).tdiv 2))))&&(decide (x11.1.1<1000))) then some (((w64 (x11.1.1+1)),()),())
  else some ((x11.1.1,()),())) fun x12 =>
  Option.bind (req (inb x8.1.1 2) (bif (x8.1.1==0) then(req (room (x9.2.1.2.1.length+([x12.1.1]).length) 8) (req (inb x8.1.1 2) (bif (x8.1.1==0) then some ((),((x9.2.1.1,((x9.2.1.2.1++[x12.1.1]),(x9.2.1.2.2.1,x9.2.1.2.2.2))),()))
  else none)))
  else req (room (x9.2.1.2.2.1.length+([x12.1.1]).length) 8) (req (inb x8.1.1 2) (bif (x8.1.1==0) then none
  else some ((),((x9.2.1.1,(x9.2.1.2.1,((x9.2.1.2.2.1++[x12.1.1]),x9.2.1.2.2.2))),())))))) fun x13 =>
  some (Sum.inl (((w64 (x9.1.1+1)),()),((x13.2.1.1,(x13.2.1.2.1,(x13.2.1.2.2.1,x13.2.1.2.2.2))),())))))
  else some (Sum.inr ((),((x9.2.1.1,(x9.2.1.2.1,(x9.2.1.2.2.1,x9.2.1.2.2.2))),())))
def qdv (p:Zv43×Zv31×Int×Int×Unit) (m:Int×Int×Int×Unit) (r:ByteArray×Int×Int×Zv15×Zv43×Bool×Bool×Zv27×Int×Int×Int×Unit) (d2:Int) (x8:Zv42×Zv16):Option (Zv12 ⊕ Zv14) :=
  bif (decide (x8.1.1<2)) then(Option.bind (req (inb x8.1.1 2) (Option.bind (iterW (qcs p x8 m r d2) (((0:Int),()),((x8.2.1.1,(x8.2.1.2.1,(x8.2.1.2.2.1,x8.2.1.2.2.2))),()))) fun x14 =>
  some ((),((x14.2.1.1,(x14.2.1.2.1,(x14.2.1.2.2.1,x14.2.1.2.2.2))),())))) fun x15 =>
  some (Sum.inl (((w64 (x8.1.1+1)),()),((x15.2.1.1,(x15.2.1.2.1,(x15.2.1.2.2.1,x15.2.1.2.2.2))),()))))
  else some (Sum.inr ((),((x8.2.1.1,(x8.2.1.2.1,(x8.2.1.2.2.1,x8.2.1.2.2.2))),())))
def qdT (r:ByteArray×Int×Int×Zv15×Zv43×Bool×Bool×Zv27×Int×Int×Int×Unit) (p:Zv43×Zv31×Int×Int×Unit) (m:Int×Int×Int×Unit):Option Zv17 :=
  Option.bind (at? p.1 m.2.1) fun d2 =>
  Option.bind (iterW (qcp p m) (((0:Int),()),((([]:List Int),(([]:List Int),(([]:List Int),((w64 ((1:Int)-p.2.2.1)),((w64 (p.2.2.2.1+1)),()))))),()))) fun x7 =>
  Option.bind (iterW (qdv p m r d2) (((0:Int),()),((x7.2.1.1,(x7.2.1.2.1,(x7.2.1.2.2.1,x7.2.1.2.2.2))),()))) fun x16 =>
  Option.bind (bif (decide (x16.2.1.2.2.2.2.1>200)) then some ((),((x16.2.1.1,(x16.2.1.2.1,(x16.2.1.2.2.1,(x16.2.1.2.2.2.1,((200:Int),()))))),()))
  else some ((),((x16.2.1.1,(x16.2.1.2.1,(x16.2.1.2.2.1,x16.2.1.2.2.2))),()))) fun x17 =>
  Option.bind (bif ((decide (d2>0))||(m.1==(-1:Int))) then some ((),((x17.2.1.1,(x17.2.1.2.1,(x17.2.1.2.2.1,(x17.2.1.2.2.2.1,((0:Int),()))))),()))
  else some ((),((x17.2.1.1,(x17.2.1.2.1,(x17.2.1.2.2.1,x17.2.1.2.2.2))),()))) fun x18 =>
  some (x18.2.1.1,((x18.2.1.2.1,(x18.2.1.2.2.1,())),x18.2.1.2.2.2))
def qcn (r:ByteArray×Int×Int×Zv15×Zv43×Bool×Bool×Zv27×Int×Int×Int×Unit) (p:Zv43×Zv31×Int×Int×Unit) (x2:Zv42×(Unit)) (x4:Zv40×(Unit)) (x1:Zv42×(Unit)) (player:Int) (x5:Zv42×(Unit)):Option (Zv38 ⊕ Zv38) :=
  Option.bind (qkv r p (w64 (x2.1.1+(w64 (x5.1.1*x4.1.1)))) (w64 (x1.1.1+(w64 (x5.1.1*x4.1.2.1))))) fun r6 =>
  Option.bind (qdi r6 player) fun r7 =>
  bif r7 then some (Sum.inl (((w64 (x5.1.1+1)),()),()))
  else some (Sum.inr ((x5.1.1,()),()))
def qdb (r:ByteArray×Int×Int×Zv15×Zv43×Bool×Bool×Zv27×Int×Int×Int×Unit) (p:Zv43×Zv31×Int×Int×Unit) (x2:Zv42×(Unit)) (x1:Zv42×(Unit)) (player:Int) (count:Int) (x3:Zv42×(Unit)):Option (Zv38 ⊕ (Zv41 ⊕ (Zv41 ⊕ (Zv38 ⊕ (Zv41 ⊕ (Zv41 ⊕ (Zv38 ⊕ (Zv41 ⊕ Bool)))))))) :=
  bif (decide (x3.1.1<4)) then(Option.bind (α:=Zv41 ⊕ (Zv38 ⊕ (Zv41 ⊕ (Zv41 ⊕ (Zv38 ⊕ (Zv41 ⊕ (Zv41 ⊕ (Zv38 ⊕ (Zv41 ⊕ Bool))))))))) (Option.bind (agree (req (inb x3.1.1 ([(-1:Int),(0:Int),(-1:Int),(1:Int)]).length) (req (inb x3.1.1 ([(0:Int),(-1:Int),(-1:Int),(-1:Int)]).length) (some (((getD' ([(-1:Int),(0:Int),(-1:Int),(1:Int)]) ((x3.1.1).toNat) (0:Int)),(getD' ([(0:Int),(-1:Int),(-1:Int),(-1:Int)]) ((x3.1.1).toNat) (0:Int)),()),())))) (req (inb x3.1.1 ([(0:Int),(-1:Int),(-1:Int),(-1:Int)]).length) (req (inb x3.1.1 ([(-1:Int),(0:Int),(-1:Int),(1:Int)]).length) (some (((getD' ([(-1:Int),(0:Int),(-1:Int),(1:Int)]) ((x3.1.1).toNat) (0:Int)),(getD' ([(0:Int),(-1:Int),(-1:Int),(-1:Int)]) ((x3.1.1).toNat) (0:Int)),()),()))))) fun x4 =>
  Option.bind (iterW (qcn r p x2 x4 x1 player) (((0:Int),()),())) fun x8 =>
  bif (decide (x8.1.1≥count)) then some (Sum.inr (Sum.inr (Sum.inr (Sum.inr (Sum.inr (Sum.inr (Sum.inr (Sum.inr (Sum.inr true)))))))))
  else some (Sum.inl ((),()))) (Sum.elim (fun x9 =>
  some (Sum.inl (((w64 (x3.1.1+1)),()),()))) some))
  else some (Sum.inr (Sum.inl ((),())))
def qc7 (r:ByteArray×Int×Int×Zv15×Zv43×Bool×Bool×Zv27×Int×Int×Int×Unit) (p:Zv43×Zv31×Int×Int×Unit) (x1:Zv42×(Unit)) (player:Int) (count:Int) (x2:Zv42×(Unit)):Option (Zv38 ⊕ (Zv41 ⊕ (Zv41 ⊕ (Zv38 ⊕ (Zv41 ⊕ Bool))))) :=
  bif (decide (x2.1.1<r.2.1)) then(Option.bind (α:=Zv41 ⊕ (Zv38 ⊕ (Zv41 ⊕ (Zv41 ⊕ (Zv38 ⊕ (Zv41 ⊕ Bool)))))) (Option.bind (α:=Zv41 ⊕ (Zv41 ⊕ (Zv38 ⊕ (Zv41 ⊕ (Zv41 ⊕ (Zv38 ⊕ (Zv41 ⊕ Bool))))))) (iterW (qdb r p x2 x1 player count) (((0:Int),()),())) (Sum.elim (fun x10 =>
  some (Sum.inl ((),()))) some)) (Sum.elim (fun x11 =>
  some (Sum.inl (((w64 (x2.1.1+1)),()),()))) some))
  else some (Sum.inr (Sum.inl ((),())))
def qda (r:ByteArray×Int×Int×Zv15×Zv43×Bool×Bool×Zv27×Int×Int×Int×Unit) (p:Zv43×Zv31×Int×Int×Unit) (player:Int) (count:Int) (x1:Zv42×(Unit)):Option (Zv38 ⊕ (Zv41 ⊕ Bool)) :=
  bif (decide (x1.1.1<r.2.2.1)) then(Option.bind (α:=Zv41 ⊕ (Zv38 ⊕ (Zv41 ⊕ Bool))) (Option.bind (α:=Zv41 ⊕ (Zv41 ⊕ (Zv38 ⊕ (Zv41 ⊕ Bool)))) (iterW (qc7 r p x1 player count) (((0:Int),()),())) (Sum.elim (fun x12 =>
  some (Sum.inl ((),()))) some)) (Sum.elim (fun x13 =>
  some (Sum.inl (((w64 (x1.1.1+1)),()),()))) some))
  else some (Sum.inr (Sum.inl ((),())))
def qeV (r:ByteArray×Int×Int×Zv15×Zv43×Bool×Bool×Zv27×Int×Int×Int×Unit) (p:Zv43×Zv31×Int×Int×Unit) (player:Int) (count:Int):Option (Bool) :=
  Option.bind (α:=Zv41 ⊕ Bool) (iterW (qda r p player count) (((0:Int),()),())) (Sum.elim (fun x14 =>
  some false) some)
def qbM (p:Zv43×Zv31×Int×Int×Unit) (d3:Int×Int×Int×Bool×Unit) (r:ByteArray×Int×Int×Zv15×Zv43×Bool×Bool×Zv27×Int×Int×Int×Unit) (x5:(Bool×Int×Int×Unit)×(Unit)):Option (((Bool×Int×Int×Unit)×(Unit)) ⊕ Zv34) :=
  bif (decide (x5.1.2.2.1<((p.1.length:Nat):Int))) then(Option.bind (at? p.1 x5.1.2.2.1) fun d6 =>
  req (imp ((d3.1==1)&&(d6==(w64 ((w64 ((w64 ((2:Int)*d3.2.1))+(w64 ((1:Int)-p.2.2.1))))+1)))) (r.2.1 !=0)) (Option.bind (bif (((d3.1==1)&&(d6==(w64 ((w64 ((w64 ((2:Int)*d3.2.1))+(w64 ((1:Int)-p.2.2.1))))+1))))&&(qd8 r (w64 ((1:Int)-p.2.2.1)) (w64 (x5.1.2.2.1.tdiv r.2.1)))) then some ((true,()),())
  else some ((x5.1.1,()),())) fun x7 =>
  Option.bind (bif (d6==(w64 ((w64 ((w64 ((2:Int)*d3.2.1))+p.2.2.1))+1))) then some (((w64 (x5.1.2.1+1)),()),())
  else some ((x5.1.2.1,()),())) fun x8 =>
  some (Sum.inl ((x7.1.1,x8.1.1,(w64 (x5.1.2.2.1+1)),()),()))))
  else some (Sum.inr ((x5.1.1,x5.1.2.1,()),()))
def qcH (r:ByteArray×Int×Int×Zv15×Zv43×Bool×Bool×Zv27×Int×Int×Int×Unit) (p:Zv43×Zv31×Int×Int×Unit) (x2:Zv42×(Unit)):Option (Zv38 ⊕ (Zv41 ⊕ Int)) :=
  bif (decide (x2.1.1<((r.2.2.2.2.2.2.2.1.length:Nat):Int))) then(Option.bind (α:=Zv41 ⊕ (Zv38 ⊕ (Zv41 ⊕ Int))) (Option.bind (at? r.2.2.2.2.2.2.2.1 x2.1.1) fun d3 =>
  Option.bind (gopt (d3.1==0) false (qeV r p (w64 ((1:Int)-p.2.2.1)) d3.2.2.1)) fun r4 =>
  Option.bind (iterW (qbM p d3 r) ((((d3.1==0)&&r4),(0:Int),(0:Int),()),())) fun x9 =>
  Option.bind (bif ((d3.1==2)&&(decide (x9.1.2.1<d3.2.2.1))) then some ((true,()),())
  else some ((x9.1.1,()),())) fun x10 =>
  bif (x10.1.1&&d3.2.2.2.1) then some (Sum.inr (Sum.inr (Sum.inr (w64 ((1:Int)+p.2.2.1)))))
  else bif x10.1.1 then some (Sum.inr (Sum.inr (Sum.inr (w64 ((1:Int)+(w64 ((1:Int)-p.2.2.1)))))))
  else some (Sum.inl ((),()))) (Sum.elim (fun x11 =>
  some (Sum.inl (((w64 (x2.1.1+1)),()),()))) some))
  else some (Sum.inr (Sum.inl ((),())))
def qcK (r:ByteArray×Int×Int×Zv15×Zv43×Bool×Bool×Zv27×Int×Int×Int×Unit) (p:Zv43×Zv31×Int×Int×Unit):Option (Int) :=
  Option.bind (α:=Zv41 ⊕ Int) (iterW (qcH r p) (((0:Int),()),())) (Sum.elim (fun x12 =>
  bif ((r.2.2.2.2.2.2.2.2.2.1 !=0)&&(decide (p.2.2.2.1≥r.2.2.2.2.2.2.2.2.2.1))) then some (3:Int)
  else Option.bind (qcP r p) fun r13 =>
  bif (decide (((r13.length:Nat):Int)>0)) then some (0:Int)
  else req (inb r.2.2.2.2.2.2.2.2.1 ([(w64 ((1:Int)+(w64 ((1:Int)-p.2.2.1)))),(w64 ((1:Int)+p.2.2.1)),(3:Int)]).length) (some (getD' ([(w64 ((1:Int)+(w64 ((1:Int)-p.2.2.1)))),(w64 ((1:Int)+p.2.2.1)),(3:Int)]) ((r.2.2.2.2.2.2.2.2.1).toNat) (0:Int)))) some)
def qgd:Option Zv7 :=
  some ((ByteArray.mk #[84,73,67]),((3:Int),((3:Int),([((65:Int),((5:Int),((0:Int),(([]:List Zv33),()))))],((List.replicate 9 (0:Int)),(false,(false,([((0:Int),((0:Int),((3:Int),(false,()))))],((2:Int),((0:Int),((0:Int),())))))))))))
def qm:ByteArray×Int×Int×Zv15×Zv43×Bool×Bool×Zv27×Int×Int×Int×Unit :=
  ((ByteArray.mk #[84,73,67]),((3:Int),((3:Int),([((65:Int),((5:Int),((0:Int),(([]:List Zv33),()))))],((List.replicate 9 (0:Int)),(false,(false,([((0:Int),((0:Int),((3:Int),(false,()))))],((2:Int),((0:Int),((0:Int),())))))))))))
theorem qmd:qgd=some (qm):=by
  unfold qgd qm
  first | rfl | simp only[qam]
def qiK (s:Int):Option Zv36 :=
  some ((-1:Int),(s,((0:Int),())))
def qf5 (s:Int):Int×Int×Int×Unit :=
  ((-1:Int),(s,((0:Int),())))
theorem qoS (s:Int):qiK s=some (qf5 s):=by
  unfold qiK qf5
  first | rfl | simp only[qam]
def qac (s:List Int):Option Zv43 :=
  bif (s.isEmpty) then(agree (some ([]:List Int)) (req (room (([]:List Int).length+s.length) 8) (some (([]:List Int)++s))))
  else req (room (([]:List Int).length+s.length) 8) (some (([]:List Int)++s))
def qci (p:Zv43×Zv31×Int×Int×Unit):Option Zv17 :=
  Option.bind (qac p.1) fun r2 =>
  Option.bind (agree (Option.bind (qac p.2.1.1) fun r3 =>
  Option.bind (qac p.2.1.2.1) fun r4 =>
  some ((),((r2,(r3,(r4,p.2.2))),()))) (Option.bind (qac p.2.1.1) fun r5 =>
  Option.bind (qac p.2.1.2.1) fun r6 =>
  some ((),((r2,(r5,(r6,p.2.2))),())))) fun x7 =>
  some (x7.2.1.1,((x7.2.1.2.1,(x7.2.1.2.2.1,())),x7.2.1.2.2.2))
def qck (r:ByteArray×Int×Int×Zv15×Zv43×Bool×Bool×Zv27×Int×Int×Int×Unit) (p:Zv43×Zv31×Int×Int×Unit) (m:Int×Int×Int×Unit):Option Zv17 :=
  Option.bind (qci p) fun r2 =>
  req (inb m.2.1 r2.1.length) (Option.bind (bif (decide (m.1≥0)) then req (inb m.1 r2.1.length) (some ((),((r2.1.set ((m.1).toNat) (0:Int)),r2.2.1.1,r2.2.1.2.1,())))
  else Option.bind (req (inb p.2.2.1 2) (bif (p.2.2.1==0) then req (inb m.2.2.1 r2.2.1.1.length) (req (inb m.2.2.1 r2.2.1.1.length) (some ((),((r2.2.1.1.set ((m.2.2.1).toNat) (w64 ((getD' r2.2.1.1 ((m.2.2.1).toNat) (0:Int))-1))),r2.2.1.2.1,()))))
  else req (inb m.2.2.1 r2.2.1.2.1.length) (req (inb m.2.2.1 r2.2.1.2.1.length) (some ((),(r2.2.1.1,(r2.2.1.2.1.set ((m.2.2.1).toNat) (w64 ((getD' r2.2.1.2.1 ((m.2.2.1).toNat) (0:Int))-1))),())))))) fun x3 =>
  some ((),(r2.1,x3.2.1,x3.2.2.1,()))) fun x4 =>
  req (inb m.2.1 x4.2.1.length) (Option.bind (bif ((decide ((getD' r2.1 ((m.2.1).toNat) (0:Int))>0))&&r.2.2.2.2.2.2.1) then(Option.bind (req (inb p.2.2.1 2) (bif (p.2.2.1==0) then(req (inb p.2.2.1 2) (bif (p.2.2.1==0) then req (inb (w64 ((w64 ((getD' r2.1 ((m.2.1).toNat) (0:Int))-1)).tdiv 2)) x4.2.2.1.length) (req (inb (w64 ((w64 ((getD' r2.1 ((m.2.1).toNat) (0:Int))-1)).tdiv 2)) x4.2.2.1.length) (some ((),((x4.2.2.1.set (((w64 ((w64 ((getD' r2.1 ((m.2.1).toNat) (0:Int))-1)).tdiv 2))).toNat) (if (1000:Int)<(w64 ((getD' x4.2.2.1 (((w64 ((w64 ((getD' r2.1 ((m.2.1).toNat) (0:Int))-1)).tdiv 2))).toNat) (0:Int))+1)) then(1000:Int) else(w64 ((getD' x4.2.2.1 (((w64 ((w64 ((getD' r2.1 ((m.2.1).toNat) (0:Int))-1)).tdiv 2))).toNat) (0:Int))+1)))),x4.2.2.2.1,()))))
  else req (inb (w64 ((w64 ((getD' r2.1 ((m.2.1).toNat) (0:Int))-1)).tdiv 2)) x4.2.2.2.1.length) (req (inb (w64 ((w64 ((getD' r2.1 ((m.2.1).toNat) (0:Int))-1)).tdiv 2)) x4.2.2.1.length) (some ((),((x4.2.2.1.set (((w64 ((w64 ((getD' r2.1 ((m.2.1).toNat) (0:Int))-1)).tdiv 2))).toNat) (if (1000:Int)<(w64 ((getD' x4.2.2.2.1 (((w64 ((w64 ((getD' r2.1 ((m.2.1).toNat) (0:Int))-1)).tdiv 2))).toNat) (0:Int))+1)) then(1000:Int) else(w64 ((getD' x4.2.2.2.1 (((w64 ((w64 ((getD' r2.1 ((m.2.1).toNat) (0:Int))-1)).tdiv 2))).toNat) (0:Int))+1)))),x4.2.2.2.1,()))))))
  else req (inb p.2.2.1 2) (bif (p.2.2.1==0) then req (inb (w64 ((w64 ((getD' r2.1 ((m.2.1).toNat) (0:Int))-1)).tdiv 2)) x4.2.2.1.length) (req (inb (w64 ((w64 ((getD' r2.1 ((m.2.1).toNat) (0:Int))-1)).tdiv 2)) x4.2.2.2.1.length) (some ((),(x4.2.2.1,(x4.2.2.2.1.set (((w64 ((w64 ((getD' r2.1 ((m.2.1).toNat) (0:Int))-1)).tdiv 2))).toNat) (if (1000:Int)<(w64 ((getD' x4.2.2.1 (((w64 ((w64 ((getD' r2.1 ((m.2.1).toNat) (0:Int))-1)).tdiv 2))).toNat) (0:Int))+1)) then(1000:Int) else(w64 ((getD' x4.2.2.1 (((w64 ((w64 ((getD' r2.1 ((m.2.1).toNat) (0:Int))-1)).tdiv 2))).toNat) (0:Int))+1)))),()))))
  else req (inb (w64 ((w64 ((getD' r2.1 ((m.2.1).toNat) (0:Int))-1)).tdiv 2)) x4.2.2.2.1.length) (req (inb (w64 ((w64 ((getD' r2.1 ((m.2.1).toNat) (0:Int))-1)).tdiv 2)) x4.2.2.2.1.length) (some ((),(x4.2.2.1,(x4.2.2.2.1.set (((w64 ((w64 ((getD' r2.1 ((m.2.1).toNat) (0:Int))-1)).tdiv 2))).toNat) (if (1000:Int)<(w64 ((getD' x4.2.2.2.1 (((w64 ((w64 ((getD' r2.1 ((m.2.1).toNat) (0:Int))-1)).tdiv 2))).toNat) (0:Int))+1)) then(1000:Int) else(w64 ((getD' x4.2.2.2.1 (((w64 ((w64 ((getD' r2.1 ((m.2.1).toNat) (0:Int))-1)).tdiv 2))).toNat) (0:Int))+1)))),()))))))) fun x5 =>
  some ((),(x5.2.1,x5.2.2.1,())))
  else some ((),(x4.2.2.1,x4.2.2.2.1,()))) fun x6 =>
  Option.bind (bif ((decide ((getD' r2.1 ((m.2.1).toNat) (0:Int))>0))||(decide (m.1<0))) then some ((),(((x4.2.1.set ((m.2.1).toNat) (w64 ((w64 ((w64 ((2:Int)*m.2.2.1))+p.2.2.1))+1))),(x6.2.1,(x6.2.2.1,(r2.2.2.1,((0:Int),()))))),()))
  else some ((),(((x4.2.1.set ((m.2.1).toNat) (w64 ((w64 ((w64 ((2:Int)*m.2.2.1))+p.2.2.1))+1))),(x6.2.1,(x6.2.2.1,(r2.2.2.1,((if (200:Int)<(w64 (p.2.2.2.1+1)) then(200:Int) else(w64 (p.2.2.2.1+1))),()))))),()))) fun x7 =>
  some (x7.2.1.1,((x7.2.1.2.1,(x7.2.1.2.2.1,())),((w64 ((1:Int)-p.2.2.1)),x7.2.1.2.2.2.2)))))
end
noncomputable def qhy:Option Zv17 :=
  some ([(1:Int),(1:Int),(0:Int),(2:Int),(2:Int),(0:Int),(0:Int),(0:Int),(0:Int)],(([(3:Int)],([(3:Int)],())),((0:Int),((0:Int),()))))
def law1Near:Zv43×Zv31×Int×Int×Unit :=
  ([(1:Int),(1:Int),(0:Int),(2:Int),(2:Int),(0:Int),(0:Int),(0:Int),(0:Int)],(([(3:Int)],([(3:Int)],())),((0:Int),((0:Int),()))))
theorem qm2:qhy=some (law1Near):=by
  unfold qhy law1Near
  first | rfl | simp only[qam]
end Go.Proofs.Ytcifaoaepbidoaa
