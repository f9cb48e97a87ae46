/- Several texts in one: DenD, DenE, DenF, Tabs, StrS, JournalS, JournalSaysS, DenW, DenP, JournalSaysL. -/
import Derived.Test.YtlfpfiplndkofaaDoorDenC
import Derived.Test.YtlfpfiplndkofaaDoorMAA
import Derived.Lib.ItoaNum
import Derived.Lib.TrailingZeros
import Derived.Lib.Join
import Derived.Lib.IndexMore
import Derived.Lib.SlTrimSet
import Derived.Lib.Repeat
import Derived.Shelf.GgClosure.StringsIndexFunc
import Derived.Lib.Bytealg
import Derived.Lib.SplitLaws
import Derived.Shelf.Strings.Builder1
import Derived.Laws.Strings
import Derived.Lib.IndexLaws
import Derived.Lib.IndexBytes
import Derived.Lib.CountLaws
import Derived.Lib.ItoaLen
import Derived.Lib.AtoiAll
import Derived.Lib.ItoaMem
import Derived.Laws.RangeString
namespace Go.Den
open Go.Eng
set_option linter.unusedVariables false
set_option linter.unusedSectionVars false
set_option linter.unusedSimpArgs false
variable [CT : Ctx]

theorem listed_spec {o:Nat}:∀ {l:List (Nat×Option OTy)},listed o l=true↔o∈l.map Prod.fst
  | []=>by simp[listed]
  | (p,q)::r=>by
    simp only[listed,Bool.or_eq_true,List.map_cons,List.mem_cons,listed_spec (l:=r)];constructor
    · rintro (h | h)
      · exact .inl (Nat.eq_of_beq_eq_true h).symm
      · exact .inr h
    · rintro (rfl | h)
      · exact .inl (by simp)
      · exact .inr h
theorem qY {o:Nat}:∀ {l:List (Nat×Option OTy)},qV o l=true→listed o l=true
  | (p,none)::r,h=>by
    simp only[qV,Bool.or_eq_true] at h;simp only[listed,Bool.or_eq_true];exact h.imp id qY
  | (p,some _)::r,h=>by
    simp only[qV] at h;simp only[listed,Bool.or_eq_true];exact .inr (qY h)

section
variable {F : Fr} {n0 : Nat} {objs' : List OB} {γ' : Gh} {w' : World} {T : Nat → Prop}

theorem qau:∀(l:List (Nat×Option OTy)) (y:DL (tysO l)) (base:List OB),base.length≤(concO l y base).length
  | [],_,base=>Nat.le_refl _
  | (o,none)::r,y,base=>by
    have:=qau r y (base.set o .dead);simpa[concO] using this
  | (o,some (.box τ))::r,y,base=>by
    have:=qau r y.2 (base.set o (.box (cc τ y.1 base.length).1)++(cc τ y.1 base.length).2);simp only[List.length_append,List.length_set] at this;simp only[concO];omega
  | (o,some (.arr i e))::r,y,base=>by
    have:=qau r y.2 (base.set o (.arr i e y.1 false));simpa[concO] using this
  | (o,some (.bld t i))::r,y,base=>by
    have:=qau r y.2 (base.set o (.bld t (.os base.length))++(cc (.osl i (.int .u8)) y.1 base.length).2);simp only[List.length_append,List.length_set] at this;simp only[concO];omega
theorem qu:∀(l:List (Nat×Option OTy)) (y:DL (tysO l)) (base:List OB) (o:Nat),o<base.length→listed o l=false→(concO l y base)[o]?=base[o]?
  | [],_,base,o,_,_=>rfl
  | (p,none)::r,y,base,o,ho,hl=>by
    simp only[listed,Bool.or_eq_false_iff] at hl
    have hne:p≠o:=fun e=>by subst e;simp at hl
    simp only[concO];rw[qu r y (base.set p .dead) o (by simpa using ho) hl.2,qq hne]
  | (p,some (.box τ))::r,y,base,o,ho,hl=>by
    simp only[listed,Bool.or_eq_false_iff] at hl
    have hne:p≠o:=fun e=>by subst e;simp at hl
    simp only[concO];rw[qu r y.2 _ o (by simp;omega) hl.2,List.getElem?_append_left (by simpa using ho),qq hne]
  | (p,some (.arr i e))::r,y,base,o,ho,hl=>by
    simp only[listed,Bool.or_eq_false_iff] at hl
    have hne:p≠o:=fun e=>by subst e;simp at hl
    simp only[concO];rw[qu r y.2 (base.set p (.arr i e y.1 false)) o (by simpa using ho) hl.2,qq hne]
  | (p,some (.bld t i))::r,y,base,o,ho,hl=>by
    simp only[listed,Bool.or_eq_false_iff] at hl
    have hne:p≠o:=fun e=>by subst e;simp at hl
    simp only[concO];rw[qu r y.2 _ o (by simp;omega) hl.2,List.getElem?_append_left (by simpa using ho),qq hne]
theorem qbY (r:ORel F objs' γ' w') (hT:∀k,Imm objs' γ' w' k→T k):∀(l:List (Nat×Option OTy)) {y:DL (tysO l)} (base:List OB),absO objs' l=some y→(l.map Prod.fst).Nodup→(∀q∈l,q.1<n0)→n0≤base.length →
    (∀o∈qw (idsD objs') objs' l,∀b,(γ' o).2=some b→T b) →
    ∃gs:List (Value×Option Nat),(concO l y base).length=base.length+gs.length∧gs.flatMap (fun g=>g.2.toList)=blocks γ' (qw (idsO objs') objs' l)∧(∀o∈qw (idsO objs') objs' l,Mut objs' o) ∧
      (∀q∈l,Mut (concO l y base) q.1→Mut objs' q.1∧qV q.1 l=false)∧(∀q∈l,∀i (e:Ty) (xs:List (D e)),(concO l y base)[q.1]?≠some (.arr i e xs true)) ∧
      ∀(OF:List OB) (γF:Gh),(∀o,o<(concO l y base).length→OF[o]?=(concO l y base)[o]?)→(∀k,T k→Imm OF γF w' k)→(∀o,o<n0→γF o=γ' o)→(∀j g,gs[j]?=some g→γF (base.length+j)=g)→(concO l y base).length≤OF.length →
        (∀q∈l,∀ob,OF[q.1]?=some ob→ObR OF γF w' ob (γF q.1))∧(∀o ob,base.length≤o→o<(concO l y base).length→OF[o]?=some ob→ObR OF γF w' ob (γF o)∧mutOb ob=true)
  | [],y,base,_,_,_,_,_=>⟨[],by simp[concO],by simp[qw,blocks],fun o ho=>(by simp[qw] at ho),fun q hq=>(by cases hq),fun q hq=>(by cases hq),fun OF γF _ _ _ _ _=>⟨fun q hq=>(by cases hq),fun o ob h1 h2=>(by simp[concO] at h2;omega)⟩⟩
  | (p,none)::l,y,base,h,hnd,hlt,hb,hids=>by
    simp only[absO] at h;simp only[List.map_cons,List.nodup_cons] at hnd;have hpl:listed p l=false:=Bool.eq_false_iff.2 fun hh=>hnd.1 (listed_spec.1 hh);have hp:=hlt (p,none) List.mem_cons_self;obtain⟨gs,g1,g2,g3,g4,g4b,g5⟩:=qbY r hT l (base.set p .dead) h hnd.2 (fun q hq=>hlt q (List.mem_cons_of_mem _ hq)) (by simpa using hb) (fun o ho=>hids o (by simpa[qw] using ho));have hpe:(concO l y (base.set p .dead))[p]?=some .dead:=by
      rw[qu l y _ p (by simp;simp at hp;omega) hpl,List.getElem?_set_self (by simp at hp;omega)]
    refine⟨gs,by simpa[concO] using g1,by simpa[qw] using g2,fun o ho=>g3 o (by simpa[qw] using ho),fun q hq hm=>?_,fun q hq i e xs=>?_,fun OF γF e1 e2 e3 e4 e5=>?_⟩
    · rcases List.mem_cons.1 hq with rfl | hq
      · obtain⟨ob,h1,h2⟩:=hm;simp only[concO] at h1;rw[hpe] at h1;cases h1;cases h2
      · obtain⟨h1,h2⟩:=g4 q hq hm;refine⟨h1,?_⟩;simp only[qV,Bool.or_eq_false_iff];refine⟨Bool.eq_false_iff.2 fun hh=>?_,h2⟩;have:=Nat.eq_of_beq_eq_true hh;exact hnd.1 (this▸List.mem_map_of_mem hq)
    · rcases List.mem_cons.1 hq with rfl | hq
      · simp only[concO];rw[hpe];simp
      · exact g4b q hq i e xs
    · obtain⟨f1,f2⟩:=g5 OF γF e1 e2 e3 (by simpa using e4) e5;refine⟨fun q hq ob hob=>?_,fun o ob h1 h2=>f2 o ob (by simpa using h1) h2⟩;rcases List.mem_cons.1 hq with rfl | hq
      · have hlen:=qau l y (base.set p .dead);rw[e1 p (by simp only[concO];simp at hlen hp;omega)] at hob;simp only[concO] at hob;rw[hpe] at hob;cases hob;trivial
      · exact f1 q hq ob hob
  | (p,some (.arr i e))::l,y,base,h,hnd,hlt,hb,hids=>by
    simp only[absO,Option.bind_eq_some_iff] at h;obtain⟨ob,hob,h⟩:=h
    cases ob with
    | arr i' e' xs fz =>
      cases fz with
      | true=>simp at h
      | false =>
        simp only[chk_some,Option.bind_eq_some_iff] at h;obtain⟨hi,x,hx,y2,hy,hyy⟩:=h;have hyy:(x,y2)=y:=Option.some.inj hyy;subst hyy;have hi:=Nat.eq_of_beq_eq_true hi;subst hi;obtain⟨rfl,hx⟩:=qM hx;subst hx;simp only[List.map_cons,List.nodup_cons] at hnd;have hpl:listed p l=false:=Bool.eq_false_iff.2 fun hh=>hnd.1 (listed_spec.1 hh);have hp:=hlt (p,some (.arr i e')) List.mem_cons_self;obtain⟨gs,g1,g2,g3,g4,g4b,g5⟩:=qbY r hT l (base.set p (.arr i e' xs false)) hy hnd.2 (fun q hq=>hlt q (List.mem_cons_of_mem _ hq)) (by simpa using hb) (fun o ho=>hids o (by simpa[qw] using ho));have hpe:(concO l y2 (base.set p (.arr i e' xs false)))[p]?=some (.arr i e' xs false):=by
          rw[qu l y2 _ p (by simp;simp at hp;omega) hpl,List.getElem?_set_self (by simp at hp;omega)]
        refine⟨gs,by simpa[concO] using g1,by simpa[qw] using g2,fun o ho=>g3 o (by simpa[qw] using ho),fun q hq hm=>?_,fun q hq i2 e2 xs2=>?_,fun OF γF e1 e2 e3 e4 e5=>?_⟩
        · rcases List.mem_cons.1 hq with rfl | hq
          · refine⟨⟨_,hob,rfl⟩,?_⟩;simp only[qV]
            exact Bool.eq_false_iff.2 fun hh=>by rw[qY hh] at hpl;cases hpl
          · obtain⟨h1,h2⟩:=g4 q hq hm;exact⟨h1,by simpa[qV] using h2⟩
        · rcases List.mem_cons.1 hq with rfl | hq
          · simp only[concO];rw[hpe];simp
          · exact g4b q hq i2 e2 xs2
        · obtain⟨f1,f2⟩:=g5 OF γF e1 e2 e3 (by simpa using e4) e5;refine⟨fun q hq ob' hob'=>?_,fun o ob h1 h2=>f2 o ob (by simpa using h1) h2⟩;rcases List.mem_cons.1 hq with rfl | hq
          · have hlen:=qau l y2 (base.set p (.arr i e' xs false));rw[e1 p (by simp only[concO];simp at hlen hp;omega)] at hob';simp only[concO] at hob';rw[hpe] at hob';cases hob';obtain⟨us,h6,h7⟩:=r.rep p _ hob;rw[e3 p hp];exact⟨us,h6,h7.mono fun x c hx=>Rep.mono (fun k hk=>e2 k (hT k hk)) (fun _ _=>rfl) _ hx (by simp)⟩
          · exact f1 q hq ob' hob'
    | _=>simp at h
  | (p,some (.box τ))::l,y,base,h,hnd,hlt,hb,hids=>by
    simp only[absO,Option.bind_eq_some_iff] at h;obtain⟨ob,hob,h⟩:=h
    cases ob with
    | box cs =>
      simp only[Option.bind_eq_some_iff] at h;obtain⟨x,hx,y2,hy,hyy⟩:=h;have hyy:(x,y2)=y:=Option.some.inj hyy;subst hyy;simp only[List.map_cons,List.nodup_cons] at hnd;have hpl:listed p l=false:=Bool.eq_false_iff.2 fun hh=>hnd.1 (listed_spec.1 hh);have hp:p<n0:=hlt (p,some (.box τ)) List.mem_cons_self;obtain⟨b,Tt,cells,hg,hheap,hvl⟩:=r.rep p _ hob;have hids1:∀o∈idsD objs' τ cs,∀b,(γ' o).2=some b→T b:=fun o ho=>hids o (by simp only[qw,hob,List.mem_append];exact .inl ho);obtain⟨hrep,hmo⟩:=qaW (S:=T) r hT τ hx hvl hids1;obtain⟨gs0,c1,c2,c3⟩:=qcx τ hrep base.length
      obtain⟨gs,g1,g2,g3,g4,g4b,g5⟩:=qbY r hT l (base.set p (.box (cc τ x base.length).1)++(cc τ x base.length).2) hy hnd.2 (fun q hq=>hlt q (List.mem_cons_of_mem _ hq)) (by simp;omega) (fun o ho=>hids o (by simp only[qw,hob,List.mem_append];exact .inr ho));have hpe:(concO l y2 (base.set p (.box (cc τ x base.length).1)++(cc τ x base.length).2))[p]?=some (.box (cc τ x base.length).1):=by
        rw[qu l y2 _ p (by simp;omega) hpl,List.getElem?_append_left (by simp;omega),List.getElem?_set_self (by omega)]
      have hlen0:(base.set p (.box (cc τ x base.length).1)++(cc τ x base.length).2).length=base.length+gs0.length:=by simp[c1]
      refine⟨gs0++gs,?_,?_,fun o ho=>?_,fun q hq hm=>?_,fun q hq i2 e2 xs2=>?_,fun OF γF e1 e2 e3 e4 e5=>?_⟩
      · simp only[concO];rw[g1,hlen0,List.length_append,Nat.add_assoc]
      · rw[List.flatMap_append,←c2,g2];simp only[qw,hob,blocks,List.flatMap_append]
      · simp only[qw,hob,List.mem_append] at ho;exact ho.elim (hmo o) (g3 o)
      · rcases List.mem_cons.1 hq with rfl | hq
        · refine⟨⟨_,hob,rfl⟩,?_⟩;simp only[qV]
          exact Bool.eq_false_iff.2 fun hh=>by rw[qY hh] at hpl;cases hpl
        · obtain⟨h1,h2⟩:=g4 q hq hm;exact⟨h1,by simpa[qV] using h2⟩
      · rcases List.mem_cons.1 hq with rfl | hq
        · simp only[concO];rw[hpe];simp
        · exact g4b q hq i2 e2 xs2
      · have hle:=qau l y2 (base.set p (.box (cc τ x base.length).1)++(cc τ x base.length).2);rw[hlen0] at hle;simp only[concO] at e1 e5;have c3':=c3 OF γF e2 (fun j g hj=>e4 j g (by rw[List.getElem?_append_left (qA hj)];exact hj)) (by omega)
        obtain⟨f1,f2⟩:=g5 OF γF e1 e2 e3 (fun j g hj=>by
          rw[hlen0,Nat.add_assoc]
          exact e4 (gs0.length+j) g (by rw[List.getElem?_append_right (by omega)];simpa using hj)) e5
        refine⟨fun q hq ob' hob'=>?_,fun o ob' h1 h2 h3=>?_⟩
        · rcases List.mem_cons.1 hq with rfl | hq
          · rw[e1 p (by omega),hpe] at hob';cases hob';rw[e3 p hp];exact⟨b,Tt,cells,hg,hheap,c3'.1⟩
          · exact f1 q hq ob' hob'
        · simp only[concO] at h2;by_cases ho:o<base.length+gs0.length
          · rw[e1 o h2,qu l y2 _ o (by rw[hlen0];exact ho) (Bool.eq_false_iff.2 fun hh=>by
              obtain⟨q,hq,rfl⟩:=List.mem_map.1 (listed_spec.1 hh);have:=hlt q (List.mem_cons_of_mem _ hq)
              omega),List.getElem?_append_right (by simpa using h1)] at h3
            simp only[List.length_set] at h3
            have hj:o-base.length<gs0.length:=by omega
            have e6:=e4 (o-base.length) gs0[o-base.length] (by rw[List.getElem?_append_left hj];exact List.getElem?_eq_getElem hj);rw[show base.length+(o-base.length)=o by omega] at e6;rw[e6];exact c3'.2 (o-base.length) ob' _ h3 (List.getElem?_eq_getElem hj)
          · exact f2 o ob' (by rw[hlen0];omega) h2 h3
    | _=>simp at h
  | (p,some (.bld tb i))::l,y,base,h,hnd,hlt,hb,hids=>by
    simp only[absO,Option.bind_eq_some_iff] at h;obtain⟨ob,hob,h⟩:=h
    cases ob with
    | bld tb' c =>
      simp only[chk_some,Option.bind_eq_some_iff] at h;obtain⟨htt,x,hx,y2,hy,hyy⟩:=h;obtain rfl:=Nat.eq_of_beq_eq_true htt;have hyy:(x,y2)=y:=Option.some.inj hyy;subst hyy;simp only[List.map_cons,List.nodup_cons] at hnd;have hpl:listed p l=false:=Bool.eq_false_iff.2 fun hh=>hnd.1 (listed_spec.1 hh);have hp:p<n0:=hlt (p,some (.bld tb' i)) List.mem_cons_self;obtain⟨b,pp,vv,hg,hheap,hpp,hvc⟩:=r.rep p _ hob;have hvl:VRL objs' γ' w' [c] [vv]:=⟨vv,[],rfl,hvc,rfl⟩;have hids1:∀o∈idsD objs' (.osl i (.int .u8)) [c],∀b,(γ' o).2=some b→T b:=fun o ho=>hids o (by simp only[qw,hob,List.mem_append];exact .inl ho);obtain⟨hrep,hmo⟩:=qaW (S:=T) r hT (.osl i (.int .u8)) hx hvl hids1;obtain⟨gs0,c1,c2,c3⟩:=qcx (.osl i (.int .u8)) hrep base.length
      obtain⟨gs,g1,g2,g3,g4,g4b,g5⟩:=qbY r hT l (base.set p (.bld tb' (.os base.length))++(cc (.osl i (.int .u8)) x base.length).2) hy hnd.2 (fun q hq=>hlt q (List.mem_cons_of_mem _ hq)) (by simp;omega) (fun o ho=>hids o (by simp only[qw,hob,List.mem_append];exact .inr ho));have hpe:(concO l y2 (base.set p (.bld tb' (.os base.length))++(cc (.osl i (.int .u8)) x base.length).2))[p]?=some (.bld tb' (.os base.length)):=by
        rw[qu l y2 _ p (by simp;omega) hpl,List.getElem?_append_left (by simp;omega),List.getElem?_set_self (by omega)]
      have hlen0:(base.set p (.bld tb' (.os base.length))++(cc (.osl i (.int .u8)) x base.length).2).length=base.length+gs0.length:=by simp[c1]
      refine⟨gs0++gs,?_,?_,fun o ho=>?_,fun q hq hm=>?_,fun q hq i2 e2 xs2=>?_,fun OF γF e1 e2 e3 e4 e5=>?_⟩
      · simp only[concO];rw[g1,hlen0,List.length_append,Nat.add_assoc]
      · rw[List.flatMap_append,←c2,g2];simp only[qw,hob,blocks,List.flatMap_append]
      · simp only[qw,hob,List.mem_append] at ho;exact ho.elim (hmo o) (g3 o)
      · rcases List.mem_cons.1 hq with rfl | hq
        · refine⟨⟨_,hob,rfl⟩,?_⟩;simp only[qV]
          exact Bool.eq_false_iff.2 fun hh=>by rw[qY hh] at hpl;cases hpl
        · obtain⟨h1,h2⟩:=g4 q hq hm;exact⟨h1,by simpa[qV] using h2⟩
      · rcases List.mem_cons.1 hq with rfl | hq
        · simp only[concO];rw[hpe];simp
        · exact g4b q hq i2 e2 xs2
      · have hle:=qau l y2 (base.set p (.bld tb' (.os base.length))++(cc (.osl i (.int .u8)) x base.length).2);rw[hlen0] at hle;simp only[concO] at e1 e5;have c3':=c3 OF γF e2 (fun j g hj=>e4 j g (by rw[List.getElem?_append_left (qA hj)];exact hj)) (by omega)
        obtain⟨f1,f2⟩:=g5 OF γF e1 e2 e3 (fun j g hj=>by
          rw[hlen0,Nat.add_assoc]
          exact e4 (gs0.length+j) g (by rw[List.getElem?_append_right (by omega)];simpa using hj)) e5
        refine⟨fun q hq ob' hob'=>?_,fun o ob' h1 h2 h3=>?_⟩
        · rcases List.mem_cons.1 hq with rfl | hq
          · rw[e1 p (by omega),hpe] at hob';cases hob';rw[e3 p hp];obtain⟨v1,q1,e7,e8,_⟩:=c3'.1;cases e7;exact⟨b,pp,_,hg,hheap,hpp,e8⟩
          · exact f1 q hq ob' hob'
        · simp only[concO] at h2;by_cases ho:o<base.length+gs0.length
          · rw[e1 o h2,qu l y2 _ o (by rw[hlen0];exact ho) (Bool.eq_false_iff.2 fun hh=>by
              obtain⟨q,hq,rfl⟩:=List.mem_map.1 (listed_spec.1 hh);have:=hlt q (List.mem_cons_of_mem _ hq)
              omega),List.getElem?_append_right (by simpa using h1)] at h3
            simp only[List.length_set] at h3
            have hj:o-base.length<gs0.length:=by omega
            have e6:=e4 (o-base.length) gs0[o-base.length] (by rw[List.getElem?_append_left hj];exact List.getElem?_eq_getElem hj);rw[show base.length+(o-base.length)=o by omega] at e6;rw[e6];exact c3'.2 (o-base.length) ob' _ h3 (List.getElem?_eq_getElem hj)
          · exact f2 o ob' (by rw[hlen0];omega) h2 h3
    | _=>simp at h

theorem qcC:∀(l:List (Nat×Ty)) (x:DL (tysS l)) (σ:AState),σ.objs.length≤(concS l x σ).objs.length∧(∀o,o<σ.objs.length→(concS l x σ).objs[o]?=σ.objs[o]?)∧(concS l x σ).n=σ.n∧(concS l x σ).prS=σ.prS∧(concS l x σ).prO=σ.prO∧(concS l x σ).gs=σ.gs∧(concS l x σ).known=σ.known∧∀t,(∀q∈l,q.1≠t)→get (concS l x σ).slots t=get σ.slots t
  | [],_,σ=>⟨Nat.le_refl _,fun _ _=>rfl,rfl,rfl,rfl,rfl,rfl,fun _ _=>rfl⟩
  | (t,τ)::r,x,σ=>by
    simp only[concS];obtain⟨h1,h2,h3,h4,h5,h6,h7,h8⟩:=qcC r x.2 { σ with slots:=(t,some ([],qb5 τ.isAgg (cc τ x.1 σ.objs.length).1))::σ.slots,objs:=σ.objs++(cc τ x.1 σ.objs.length).2 };simp only[List.length_append] at h1;refine⟨by omega,fun o ho=>?_,h3,h4,h5,h6,h7,fun t' ht'=>?_⟩
    · rw[h2 o (by simp;omega)];simp only;rw[List.getElem?_append_left ho]
    · rw[h8 t' fun q hq=>ht' q (List.mem_cons_of_mem _ hq)];simp only;rw[qv,if_neg (ht' (t,τ) List.mem_cons_self)]
theorem qfQ {σ':AState} {a':Act} (r':Rel F σ' γ' a' w') (hT:∀k,Imm σ'.objs γ' w' k→T k):∀(l:List (Nat×Ty)) {x:DL (tysS l)} (σ1:AState),absS σ'.objs σ'.slots l=some x →
    (∀o∈qL (idsD σ'.objs) σ'.slots l,∀b,(γ' o).2=some b→T b) →
    ∃gs:List (Value×Option Nat),(concS l x σ1).objs.length=σ1.objs.length+gs.length∧gs.flatMap (fun g=>g.2.toList)=blocks γ' (qL (idsO σ'.objs) σ'.slots l)∧(∀o∈qL (idsO σ'.objs) σ'.slots l,Mut σ'.objs o) ∧
      ∀(γF:Gh),(∀k,T k→Imm (concS l x σ1).objs γF w' k)→(∀j g,gs[j]?=some g→γF (σ1.objs.length+j)=g) →
        ∀(OF:List OB),OF=(concS l x σ1).objs →
        (∀t tg pv,get (concS l x σ1).slots t=some (tg,pv)→get σ1.slots t=some (tg,pv)∨(tg=[]∧∃v,a'.tmps[t]?=some v∧PR OF γF w' pv v)) ∧
        (∀o ob,σ1.objs.length≤o→OF[o]?=some ob→ObR OF γF w' ob (γF o)∧mutOb ob=true)
  | [],x,σ1,h,_=>⟨[],by simp[concS],by simp[qL,blocks],fun o ho=>by simp[qL] at ho,fun γF _ _ OF hOF=>⟨fun t tg pv hg => .inl hg,fun o ob h1 h2=>by subst hOF;have:=qA h2;simp only[concS] at this;omega⟩⟩
  | (t,τ)::l,x,σ1,h,hids=>by
    simp only[absS,Option.bind_eq_some_iff,chk_some] at h;obtain⟨⟨tg,pv⟩,h1,h2,cs,h3,h4,x1,h5,x2,h6,hx⟩:=h;have hx:(x1,x2)=x:=Option.some.inj hx;subst hx
    have htg:tg=[]:=by simpa using h2
    subst htg;obtain⟨v,hv,hp⟩:=r'.slots t [] pv h1 (qc _);have hvl:=qaE h3 hp
    have hidd:(((get σ'.slots t).bind fun e=>qab e.2).elim [] (idsD σ'.objs τ))=idsD σ'.objs τ cs:=by simp only[h1,Option.bind_some,h3,Option.elim_some]
    have hido:(((get σ'.slots t).bind fun e=>qab e.2).elim [] (idsO σ'.objs τ))=idsO σ'.objs τ cs:=by simp only[h1,Option.bind_some,h3,Option.elim_some]
    obtain⟨hrep,hmo⟩:=qaW (S:=T) r'.o hT τ h5 hvl (fun o ho=>hids o (by simp only[qL,hidd,List.mem_append];exact .inl ho));obtain⟨gs0,c1,c2,c3⟩:=qcx τ hrep σ1.objs.length;obtain⟨gs,g1,g2,g3,g5⟩:=qfQ r' hT l { σ1 with slots:=(t,some ([],qb5 τ.isAgg (cc τ x1 σ1.objs.length).1))::σ1.slots,objs:=σ1.objs++(cc τ x1 σ1.objs.length).2 } h6 (fun o ho=>hids o (by simp only[qL,hidd,List.mem_append];exact .inr ho));have hcl:=qcC l x2 { σ1 with slots:=(t,some ([],qb5 τ.isAgg (cc τ x1 σ1.objs.length).1))::σ1.slots,objs:=σ1.objs++(cc τ x1 σ1.objs.length).2 };simp only[List.length_append,←c1] at g1 g5 hcl;refine⟨gs0++gs,?_,?_,fun o ho=>?_,fun γF e2 e4 OF hOF=>?_⟩
    · simp only[concS];rw[g1,List.length_append,Nat.add_assoc]
    · rw[List.flatMap_append,←c2,g2];simp only[qL,hido,blocks,List.flatMap_append]
    · simp only[qL,hido,List.mem_append] at ho;exact ho.elim (hmo o) (g3 o)
    · simp only[concS] at e2 hOF ⊢;subst hOF;have c3':=c3 _ γF e2 (fun j g hj=>e4 j g (by rw[List.getElem?_append_left (qA hj)];exact hj)) (by omega)
      obtain⟨f1,f2⟩:=g5 γF e2 (fun j g hj=>by
        rw[Nat.add_assoc]
        exact e4 (gs0.length+j) g (by rw[List.getElem?_append_right (by omega)];simpa using hj)) _ rfl
      refine⟨fun t' tg' pv' hg=>?_,fun o ob h1' h2'=>?_⟩
      · rcases f1 t' tg' pv' hg with hg' | hg'
        · rw[qv] at hg';split at hg'
          · rename_i e;subst e;cases hg';refine .inr ⟨rfl,v,hv,?_⟩;have:=qa2 (τ:=τ) (qbr τ x1 σ1.objs.length) c3'.1;rw[←qe8 h3 h4 hp] at this;exact this
          · exact .inl hg'
        · exact .inr hg'
      · by_cases ho:o<σ1.objs.length+gs0.length
        · rw[hcl.2.1 o ho] at h2';rw[List.getElem?_append_right h1'] at h2'
          have hj:o-σ1.objs.length<gs0.length:=by omega
          have e6:=e4 (o-σ1.objs.length) gs0[o-σ1.objs.length] (by rw[List.getElem?_append_left hj];exact List.getElem?_eq_getElem hj);rw[show σ1.objs.length+(o-σ1.objs.length)=o by omega] at e6;rw[e6];exact c3'.2 _ ob _ h2' (List.getElem?_eq_getElem hj)
        · exact f2 o ob (by omega) h2'
end

theorem qg3 {slots:Slots} {t:Nat} {e:Tag×PV}:∀ {l:List Nat},get (keepF slots l) t=some e→t∈l∧kf slots t=some e
  | [],h=>by simp[keepF,get] at h
  | u::l,h=>by
    simp only[keepF] at h;rw[qv] at h;split at h
    · rename_i e1;subst e1;exact⟨List.mem_cons_self,h⟩
    · obtain⟨h1,h2⟩:=qg3 h;exact⟨List.mem_cons_of_mem _ h1,h2⟩
theorem qe7 {slots:Slots} {t:Nat}:∀ {l:List Nat},t∈l→get (keepF slots l) t=kf slots t
  | u::l,h=>by
    simp only[keepF];rw[qv];split
    · rename_i e1;subst e1;rfl
    · rename_i e1;rcases List.mem_cons.1 h with rfl | h
      · exact absurd rfl e1
      · exact qe7 h
theorem qdh {slots:Slots} {t:Nat} {e:Tag×PV} (h:kf slots t=some e):get slots t=some e∧e.1=[]∧stable e.2=true:=by
  simp only[kf,Option.bind_eq_some_iff,chk_some,Bool.and_eq_true,Option.some.injEq] at h;obtain⟨e',h1,⟨h2,h3⟩,rfl⟩:=h;exact⟨h1,by simpa using h2,h3⟩
theorem kf_of {slots:Slots} {t:Nat} {e:Tag×PV} (h1:get slots t=some e) (h2:e.1=[]) (h3:stable e.2=true):kf slots t=some e:=by
  simp[kf,h1,h2,h3,chk]
theorem mask_bit {t:Nat}:∀ {l:List Nat},bitB (maskN l) t=true↔t∈l
  | []=>by
    rw[qcq];simp[maskN]
  | u::l=>by
    simp only[maskN];rw[qa6,qfV,Bool.or_eq_true,mask_bit (l:=l),List.mem_cons];simp only[decide_eq_true_eq];exact⟨fun h=>h.imp Eq.symm id,fun h=>h.imp Eq.symm id⟩
theorem qeu {l:List (Nat×Option OTy)} {o:Nat}:∀ {n:Nat},o<n→listed o l=false→bitB (protO l n) o=true
  | n+1,h,hl=>by
    simp only[protO];by_cases e:o=n
    · subst e;rw[hl];exact qeX _ _
    · have:=qeu (n:=n) (by omega) hl;by_cases hn:listed n l=true
      · simp only[hn,cond_true];exact this
      · simp only[Bool.eq_false_iff.2 hn,cond_false];exact qbJ this
theorem ofSl_os {e:Ty} {objs:List OB} {o:Nat} {xs:List (D e)} (h:ofSl e objs (.os o)=some xs):∃i,∃e:Ty,∃xs:List (D e),∃fz,objs[o]?=some (.arr i e xs fz):=by
  simp only[ofSl,Option.bind_eq_some_iff] at h;obtain⟨ob,hob,h3⟩:=h
  cases ob with
  | arr i e' xs fz=>exact⟨i,e',xs,fz,hob⟩
  | _=>simp at h3
theorem qc7 {objs:List OB} {o:Nat}:∀(τ:Ty) {l:List Cv} {x:D τ},toD objs τ l=some x→o∈idsD objs τ l→∃i,∃e:Ty,∃xs:List (D e),∃fz,objs[o]?=some (.arr i e xs fz)
  | .int _,l,_,_,h=>by simp[idsD] at h
  | .bool,l,_,_,h=>by simp[idsD] at h
  | .str,l,_,_,h=>by simp[idsD] at h
  | .nil,l,_,_,h=>by simp[idsD] at h
  | .osl _ _,l,_,_,h=>by simp[idsD] at h
  | .sl e,l,x,hx,h=>by
    obtain⟨c,h1,h2⟩:=Option.bind_eq_some_iff.1 hx;simp only[idsD,h1,Option.elim_some] at h;clear hx
    cases c with
    | os p =>
      have hop:o=p:=by simpa[osId] using h
      subst hop;exact ofSl_os h2
    | _=>simp[osId] at h
  | .obx e,l,x,hx,h=>by
    obtain⟨bl,h1,h2⟩:=Option.bind_eq_some_iff.1 (show((ownB objs l).bind fun l=>toD objs e l)=some x from hx);simp only[idsD,h1,Option.getD_some] at h;exact qc7 (x:=x) e h2 h
  | .st f r,l,x,hx,h=>by
    simp only[toD,Option.bind_eq_some_iff] at hx;obtain⟨x1,h1,x2,h2,_⟩:=hx;simp only[idsD,List.mem_append] at h;exact h.elim (qc7 f h1) (qc7 r h2)
theorem qhX {objs:List OB} {slots:Slots} {o:Nat}:∀(l:List (Nat×Ty)) {x:DL (tysS l)},absS objs slots l=some x→o∈qL (idsD objs) slots l→∃i,∃e:Ty,∃xs:List (D e),∃fz,objs[o]?=some (.arr i e xs fz)
  | [],_,_,h=>by simp[qL] at h
  | (t,τ)::l,x,hx,h=>by
    simp only[absS,Option.bind_eq_some_iff,chk_some] at hx;obtain⟨⟨tg,pv⟩,h1,h2,cs,h3,h4,x1,h5,x2,h6,_⟩:=hx;simp only[qL,h1,Option.bind_some,h3,Option.elim_some,List.mem_append] at h;exact h.elim (qc7 τ h5) (qhX l h6)
theorem qdF {objs:List OB} {o:Nat}:∀(l:List (Nat×Option OTy)) {x:DL (tysO l)},absO objs l=some x→o∈qw (idsD objs) objs l→∃i,∃e:Ty,∃xs:List (D e),∃fz,objs[o]?=some (.arr i e xs fz)
  | [],_,_,h=>by simp[qw] at h
  | (p,none)::l,x,hx,h=>qdF l hx (by simpa[qw] using h)
  | (p,some (.arr i e))::l,x,hx,h=>by
    simp only[absO,Option.bind_eq_some_iff] at hx;obtain⟨ob,hob,h2⟩:=hx
    cases ob with
    | arr i' e' xs fz =>
      cases fz with
      | true=>simp at h2
      | false =>
        simp only[chk_some,Option.bind_eq_some_iff] at h2;obtain⟨_,x1,_,y2,hy,_⟩:=h2;exact qdF l hy (by simpa[qw] using h)
    | _=>simp at h2
  | (p,some (.box τ))::l,x,hx,h=>by
    simp only[absO,Option.bind_eq_some_iff] at hx;obtain⟨ob,hob,h2⟩:=hx
    cases ob with
    | box cs =>
      simp only[Option.bind_eq_some_iff] at h2;obtain⟨x1,h3,y2,hy,_⟩:=h2;simp only[qw,hob,List.mem_append] at h;exact h.elim (qc7 τ h3) (qdF l hy)
    | _=>simp at h2
  | (p,some (.bld tb i))::l,x,hx,h=>by
    simp only[absO,Option.bind_eq_some_iff] at hx;obtain⟨ob,hob,h2⟩:=hx
    cases ob with
    | bld tb' c =>
      simp only[chk_some,Option.bind_eq_some_iff] at h2;obtain⟨_,x1,h3,y2,hy,_⟩:=h2;simp only[qw,hob,List.mem_append] at h;exact h.elim (qc7 (.osl i (.int .u8)) h3) (qdF l hy)
    | _=>simp at h2
theorem flat_inj {gs:List (Value×Option Nat)} {b:Nat}:∀ {j1 j2:Nat} {g1 g2:Value×Option Nat},(gs.flatMap fun g=>g.2.toList).Nodup→gs[j1]?=some g1→gs[j2]?=some g2→g1.2=some b→g2.2=some b→j1=j2:=by
  induction gs with
  | nil=>intro j1 j2 g1 g2 _ h;simp at h
  | cons g l ih =>
    intro j1 j2 g1 g2 hn h1 h2 hb hb';simp only[List.flatMap_cons,List.nodup_append] at hn
    cases j1 with
    | zero =>
      cases j2 with
      | zero=>rfl
      | succ j2 =>
        simp at h1 h2;exact absurd rfl (hn.2.2 b (by rw[h1,hb];simp) b (List.mem_flatMap.2 ⟨g2,List.mem_of_getElem? h2,by simp[hb']⟩))
    | succ j1 =>
      cases j2 with
      | zero =>
        simp at h1 h2;exact absurd rfl (hn.2.2 b (by rw[h2,hb'];simp) b (List.mem_flatMap.2 ⟨g1,List.mem_of_getElem? h1,by simp[hb]⟩))
      | succ j2=>exact congrArg _ (ih hn.2.1 (by simpa using h1) (by simpa using h2) hb hb')
def OB.below (n:Nat):OB→Prop
  | .box l=>CvL.below n l
  | .bld _ c=>c.below n
  | _=>True
theorem ObR.below {objs:List OB} {γ:Gh} {w:World} {ob:OB} {g:Value×Option Nat} (h:ObR objs γ w ob g):OB.below objs.length ob:=by
  cases ob with
  | box l=>obtain⟨_,_,_,_,_,h1⟩:=h;exact h1.below
  | bld t c=>obtain⟨_,_,_,_,_,_,h1⟩:=h;exact h1.below
  | _=>trivial
theorem ObR.keep' {objs objs':List OB} {γ γ':Gh} {w w':World} {n:Nat} (h:Keep objs γ w objs' γ' w' n) {ob:OB} {g:Value×Option Nat} (hb:∀b,g.2=some b→w'.heap[b]?=w.heap[b]?) (hbel:OB.below n ob) (hr:ObR objs γ w ob g):ObR objs' γ' w' ob g:=by
  cases ob with
  | box l =>
    obtain⟨b,T,cs,e,h1,h2⟩:=hr;exact⟨b,T,cs,e,(hb b (by simp[e])).trans h1,VRL.keep h hbel h2⟩
  | arr i e xs fz =>
    obtain⟨us,h1,h2⟩:=hr;exact⟨us,h1.mono fun b hm=>hb b (by simpa using hm),RepL.keep h h2⟩
  | dead=>trivial
  | bld t c =>
    obtain⟨b,p,v,e,h1,h2,h3⟩:=hr;exact⟨b,p,v,e,(hb b (by simp[e])).trans h1,h2,VR.keep h hbel h3⟩
theorem qcJ {F:Fr} {s:Shape} {σ σ':AState} {γ γ':Gh} {a a':Act} {w w':World} (r:Rel F σ γ a w) (hh:qdO s σ=true) (r':Rel F σ' γ' a' w') (hn:σ'.n=σ.n)
    (hk:∀t∈s.keep,∀e,kf σ.slots t=some e→get σ'.slots t=some e) (ho:∀o,o<σ.objs.length→listed o s.objs=false→σ'.objs[o]?=σ.objs[o]?) (K0:Keep σ.objs γ w σ'.objs γ' w' σ.objs.length)
    {x:s.T} (hx:absT s σ.objs.length σ'=some x):∃γF,Rel F (conc s σ x) γF a' w'∧Cl (conc s σ x)∧Step σ γ w (conc s σ x) γF w':=by
  simp only[absT,chk_some,Bool.and_eq_true,Option.bind_eq_some_iff] at hx;obtain⟨⟨hown,hdat⟩,x1,hx1,x2,hx2,hxx⟩:=hx;have hxx:(x1,x2)=x:=Option.some.inj hxx;subst hxx;simp only[qdO,Bool.and_eq_true,List.all_eq_true,Bool.not_eq_true'] at hh;obtain⟨⟨⟨hpm,hsl⟩,hndo,hol⟩,hg0,hkn0⟩:=hh;have hndo:=qbm hndo;have hol':∀q∈s.objs,q.1<σ.objs.length∧bitB σ.prO q.1=false:=fun q hq=>⟨by have:=(hol q hq).1;simpa[Nat.blt_eq] using this,(hol q hq).2⟩;simp only[okOwned,Bool.and_eq_true] at hown;obtain⟨hown1,hown2⟩:=hown;have hownd:=qbm hown1;have hownst:∀o∈qL (idsO σ'.objs) σ'.slots s.slots++qw (idsO σ'.objs) σ'.objs s.objs,stays s σ.objs.length o=false:=fun o ho=>by
    have:=List.all_eq_true.1 hown2 o ho;simpa using this
  let own:=qL (idsO σ'.objs) σ'.slots s.slots++qw (idsO σ'.objs) σ'.objs s.objs
  let T:Nat→Prop:=fun k=>k<w'.heap.size∧γ'.S k∧∀o',Mut σ'.objs o'→(o'∈own∨stays s σ.objs.length o'=true)→(γ' o').2≠some k
  have hT:∀k,Imm σ'.objs γ' w' k→T k:=fun k hk=>⟨hk.lt,hk.s,fun o' hm _=>hk.own o' hm⟩;have hids:∀o∈qL (idsD σ'.objs) σ'.slots s.slots++qw (idsD σ'.objs) σ'.objs s.objs,∀b,(γ' o).2=some b→T b:=fun o ho' b hb=>by
    have harr:∃i,∃e:Ty,∃xs:List (D e),∃fz,σ'.objs[o]?=some (.arr i e xs fz):=(List.mem_append.1 ho').elim (qhX _ hx1) (qdF _ hx2);obtain⟨i,e,xs,fz,hob⟩:=harr
    cases fz with
    | true=>exact hT b (r'.o.frz o i e xs b hob hb)
    | false =>
      have hd:=List.all_eq_true.1 hdat o ho';rw[hob] at hd;simp only[Bool.false_or,Bool.and_eq_true,Bool.not_eq_true'] at hd;obtain⟨hd1,hd2⟩:=hd;have hmo:Mut σ'.objs o:=⟨_,hob,rfl⟩;refine⟨r'.o.lt o b (qA hob) hb,r'.o.up b (r'.o.own o b hmo hb),fun o' hm hor hb'=>?_⟩;have e1:=r'.o.inj o' o b hm hmo hb' hb;subst e1;rcases hor with hor | hor
      · have:memN o' own=true:=memN_spec.2 hor;rw[this] at hd2;cases hd2
      · rw[hor] at hd1;cases hd1
  obtain⟨gsO,p1,p2,p3,p4,p4b,p5⟩:=qbY (n0:=σ.objs.length) r'.o hT s.objs σ.objs hx2 hndo (fun q hq=>(hol' q hq).1) (Nat.le_refl _) (fun o ho'=>hids o (List.mem_append.2 (.inr ho')));obtain⟨gsS,q1,q2,q3,q5⟩:=qfQ r' hT s.slots { σ with slots:=keepF σ.slots s.keep,objs:=concO s.objs x2 σ.objs,gs:=0,known:=[] } hx1 (fun o ho'=>hids o (List.mem_append.2 (.inl ho')));have hcl:=qcC s.slots x1 { σ with slots:=keepF σ.slots s.keep,objs:=concO s.objs x2 σ.objs,gs:=0,known:=[] };have hcO:=qau s.objs x2 σ.objs
  show ∃γF,Rel F (concS s.slots x1 { σ with slots:=keepF σ.slots s.keep,objs:=concO s.objs x2 σ.objs,gs:=0,known:=[] }) γF a' w'∧Cl (concS s.slots x1 { σ with slots:=keepF σ.slots s.keep,objs:=concO s.objs x2 σ.objs,gs:=0,known:=[] })∧Step σ γ w (concS s.slots x1 { σ with slots:=keepF σ.slots s.keep,objs:=concO s.objs x2 σ.objs,gs:=0,known:=[] }) γF w';generalize hC:concS s.slots x1 { σ with slots:=keepF σ.slots s.keep,objs:=concO s.objs x2 σ.objs,gs:=0,known:=[] }=C at *;simp only at q1 hcl q5
  have hOlen:C.objs.length=σ.objs.length+(gsO++gsS).length:=by rw[q1,p1,List.length_append,Nat.add_assoc]
  have hflat:(gsO++gsS).flatMap (fun g=>g.2.toList)=blocks γ' (qw (idsO σ'.objs) σ'.objs s.objs++qL (idsO σ'.objs) σ'.slots s.slots):=by
    rw[List.flatMap_append,p2,q2];simp[blocks]
  have hownm:∀o∈own,Mut σ'.objs o:=fun o ho'=>(List.mem_append.1 ho').elim (q3 o) (p3 o);have hndb:((gsO++gsS).flatMap fun g=>g.2.toList).Nodup:=by
    rw[hflat];refine qbD r'.o ?_ (fun o ho'=>hownm o (List.mem_append.2 ((List.mem_append.1 ho').symm)));exact(List.perm_append_comm.nodup_iff).1 hownd
  have hlow:∀o,o<σ.objs.length→C.objs[o]?=(concO s.objs x2 σ.objs)[o]?:=fun o ho'=>hcl.2.1 o (by omega);have hγlow:∀o,o<σ.objs.length→upd γ' σ.objs.length (gsO++gsS) o=γ' o:=fun o ho'=>qd8 ho';have hA:∀o,o<σ.objs.length→Mut C.objs o→Mut σ'.objs o∧stays s σ.objs.length o=true:=fun o ho' hm=>by
    have hst:qV o s.objs=false→stays s σ.objs.length o=true:=fun hd=>by
      simp only[stays,hd,Bool.not_false,Bool.and_true];simpa[Nat.blt_eq] using ho'
    obtain⟨ob,h1,h2⟩:=hm;rw[hlow o ho'] at h1;by_cases hl:listed o s.objs=true
    · obtain⟨q,hq,rfl⟩:=List.mem_map.1 (listed_spec.1 hl);obtain⟨h3,h4⟩:=p4 q hq ⟨ob,h1,h2⟩;exact⟨h3,hst h4⟩
    · have hl:=Bool.eq_false_iff.2 hl;rw[qu s.objs x2 σ.objs o ho' hl,←ho o ho' hl] at h1;exact⟨⟨ob,h1,h2⟩,hst (Bool.eq_false_iff.2 fun hd=>by rw[qY hd] at hl;cases hl)⟩
  have hB:∀o b,σ.objs.length≤o→o<C.objs.length→(upd γ' σ.objs.length (gsO++gsS) o).2=some b→∃o'∈own,(γ' o').2=some b:=fun o b h1 h2 hb=>by
    have hj:o-σ.objs.length<(gsO++gsS).length:=by omega
    have e1:=qa8 (γ:=γ') (n:=σ.objs.length) (List.getElem?_eq_getElem hj);rw[show σ.objs.length+(o-σ.objs.length)=o by omega] at e1;rw[e1] at hb;have hmem:b∈(gsO++gsS).flatMap (fun g=>g.2.toList):=List.mem_flatMap.2 ⟨_,List.getElem_mem hj,by simp[hb]⟩;rw[hflat] at hmem;obtain⟨o',ho',hb'⟩:=List.mem_flatMap.1 hmem;exact⟨o',List.mem_append.2 ((List.mem_append.1 ho').symm),by simpa using hb'⟩
  have hTI:∀k,T k→Imm C.objs (upd γ' σ.objs.length (gsO++gsS)) w' k:=fun k hk=>by
    refine⟨hk.1,hk.2.1,fun o hm hb=>?_⟩;by_cases ho':o<σ.objs.length
    · obtain⟨h1,h2⟩:=hA o ho' hm;rw[hγlow o ho'] at hb;exact hk.2.2 o h1 (.inr h2) hb
    · obtain⟨o',h1,h2⟩:=hB o k (by omega) hm.lt hb;exact hk.2.2 o' (hownm o' h1) (.inl h1) h2
  have hgO:∀j g,gsO[j]?=some g→upd γ' σ.objs.length (gsO++gsS) (σ.objs.length+j)=g:=fun j g hj=>qa8 (by rw[List.getElem?_append_left (qA hj)];exact hj);have hgS:∀j g,gsS[j]?=some g→upd γ' σ.objs.length (gsO++gsS) ((concO s.objs x2 σ.objs).length+j)=g:=fun j g hj=>by
    rw[p1,Nat.add_assoc];exact qa8 (by rw[List.getElem?_append_right (by omega)];simpa using hj)
  obtain⟨u1,u2⟩:=p5 C.objs _ (fun o ho'=>hcl.2.1 o ho') hTI hγlow hgO hcl.1;obtain⟨v1,v2⟩:=q5 _ hTI hgS C.objs rfl;have K1:Keep σ'.objs γ' w' C.objs (upd γ' σ.objs.length (gsO++gsS)) w' σ.objs.length:=⟨fun k hk=>hTI k (hT k hk),fun _ _=>rfl,by omega,hγlow,Nat.le_refl _,rfl⟩;have hlen':=K0.len;have hnew:∀o ob,σ.objs.length≤o→C.objs[o]?=some ob→ObR C.objs (upd γ' σ.objs.length (gsO++gsS)) w' ob (upd γ' σ.objs.length (gsO++gsS) o)∧mutOb ob=true:=fun o ob h1 h2=>by
    by_cases h3:o<(concO s.objs x2 σ.objs).length
    · exact u2 o ob h1 h3 h2
    · exact v2 o ob (by omega) h2
  have hor:ORel F C.objs (upd γ' σ.objs.length (gsO++gsS)) w':=by
    refine⟨fun o ob hob=>?_,fun o o' b hm hm' hb hb'=>?_,fun o b hm hb=>?_,fun o b hlt hb=>?_,r'.o.chg,fun o i e xs b hob hb=>?_,r'.o.up,r'.o.tab.mono (fun k hk=>hTI k (hT k hk)) (fun _ _=>rfl)⟩
    · by_cases ho':o<σ.objs.length
      · by_cases hl:listed o s.objs=true
        · obtain⟨q,hq,rfl⟩:=List.mem_map.1 (listed_spec.1 hl);exact u1 q hq ob hob
        · have hl:=Bool.eq_false_iff.2 hl;rw[hlow o ho',qu s.objs x2 σ.objs o ho' hl] at hob;rw[hγlow o ho'];exact ObR.keep' K1 (fun _ _=>rfl) (r.o.rep o ob hob).below (r'.o.rep o ob (by rw[ho o ho' hl];exact hob))
      · exact(hnew o ob (by omega) hob).1
    · by_cases h1:o<σ.objs.length<;>by_cases h2:o'<σ.objs.length
      · rw[hγlow o h1] at hb;rw[hγlow o' h2] at hb';exact r'.o.inj o o' b (hA o h1 hm).1 (hA o' h2 hm').1 hb hb'
      · rw[hγlow o h1] at hb;obtain⟨o2,h3,h4⟩:=hB o' b (by omega) hm'.lt hb';have e1:=r'.o.inj o o2 b (hA o h1 hm).1 (hownm o2 h3) hb h4;subst e1;have:=hownst o h3;rw[(hA o h1 hm).2] at this;cases this
      · rw[hγlow o' h2] at hb';obtain⟨o2,h3,h4⟩:=hB o b (by omega) hm.lt hb;have e1:=r'.o.inj o' o2 b (hA o' h2 hm').1 (hownm o2 h3) hb' h4;subst e1;have:=hownst o' h3;rw[(hA o' h2 hm').2] at this;cases this
      · have l1:=hm.lt;have l2:=hm'.lt
        have hj1:o-σ.objs.length<(gsO++gsS).length:=by omega
        have hj2:o'-σ.objs.length<(gsO++gsS).length:=by omega
        have e1:=qa8 (γ:=γ') (n:=σ.objs.length) (List.getElem?_eq_getElem hj1);have e2:=qa8 (γ:=γ') (n:=σ.objs.length) (List.getElem?_eq_getElem hj2);rw[show σ.objs.length+(o-σ.objs.length)=o by omega] at e1;rw[show σ.objs.length+(o'-σ.objs.length)=o' by omega] at e2;rw[e1] at hb;rw[e2] at hb';have:=flat_inj hndb (List.getElem?_eq_getElem hj1) (List.getElem?_eq_getElem hj2) hb hb';omega
    · by_cases h1:o<σ.objs.length
      · rw[hγlow o h1] at hb;exact r'.o.own o b (hA o h1 hm).1 hb
      · obtain⟨o2,h3,h4⟩:=hB o b (by omega) hm.lt hb;exact r'.o.own o2 b (hownm o2 h3) h4
    · by_cases h1:o<σ.objs.length
      · rw[hγlow o h1] at hb;exact r'.o.lt o b (by omega) hb
      · obtain⟨o2,h3,h4⟩:=hB o b (by omega) hlt hb;exact r'.o.lt o2 b (hownm o2 h3).lt h4
    · by_cases h1:o<σ.objs.length
      · rw[hlow o h1] at hob;rw[hγlow o h1] at hb;by_cases hl:listed o s.objs=true
        · obtain⟨q,hq,rfl⟩:=List.mem_map.1 (listed_spec.1 hl);exact absurd hob (p4b q hq i e xs)
        · have hl:=Bool.eq_false_iff.2 hl;rw[qu s.objs x2 σ.objs o h1 hl,←ho o h1 hl] at hob;exact hTI b (hT b (r'.o.frz o i e xs b hob hb))
      · cases (hnew o _ (by omega) hob).2
  have hslots:∀t tg pv,get C.slots t=some (tg,pv)→tg=[]∧∃v,a'.tmps[t]?=some v∧PR C.objs (upd γ' σ.objs.length (gsO++gsS)) w' pv v:=fun t tg pv ht=>by
    rcases v1 t tg pv ht with h1 | h1
    · obtain⟨h2,h3⟩:=qg3 h1;obtain⟨h4,h5,h6⟩:=qdh h3;simp only at h5 h6;subst h5;refine⟨rfl,?_⟩;obtain⟨v,h7,h8⟩:=r'.slots t [] pv (hk t h2 _ h3) (qc _);obtain⟨v0,_,h9⟩:=r.slots t [] pv h4 (qc _);exact⟨v,h7,PR.keep K1 h9.below (.inl h6) h8⟩
    · exact h1
  refine⟨upd γ' σ.objs.length (gsO++gsS),⟨?_,r'.defers,fun t tg pv ht _=>(hslots t tg pv ht).2,fun t tg pv ht hnT=>?_,fun t tg pv ht x hx=>?_,fun x hx=>?_,hor⟩,⟨hcl.2.2.2.2.2.1,hcl.2.2.2.2.2.2.1⟩,⟨hcl.2.2.1,hcl.2.2.2.1,hcl.2.2.2.2.1,fun t e ht he=>?_,fun o ho' hp=>?_,K0.trans K1⟩⟩
  · rw[r'.size,hn,hcl.2.2.1]
  · obtain⟨rfl,_⟩:=hslots t tg pv ht;exact absurd (qc _) hnT
  · obtain⟨rfl,_⟩:=hslots t tg pv ht;cases hx
  · rw[hcl.2.2.2.2.2.2.1] at hx;cases hx
  · have htk:t∈s.keep:=by
      have hb:=Nat.eq_of_beq_eq_true hpm;rw[qcq] at ht
      have h2:(Nat.land σ.prS (maskN s.keep)).testBit t=true:=by rw[hb];exact ht
      have h3:(σ.prS &&& maskN s.keep).testBit t=true:=h2;rw[Nat.testBit_and,Bool.and_eq_true] at h3;exact mask_bit.1 (by rw[qcq];exact h3.2)
    have hnh:∀q∈s.slots,q.1≠t:=fun q hq e1=>by
      have:=(hsl q hq).1;rw[e1,memN_spec.2 htk] at this;cases this
    obtain⟨h4,h5,h6⟩:=qdh he;refine kf_of ?_ h5 h6;rw[hcl.2.2.2.2.2.2.2 t hnh,qe7 htk];exact he
  · have hl:listed o s.objs=false:=Bool.eq_false_iff.2 fun hl=>by
      obtain⟨q,hq,rfl⟩:=List.mem_map.1 (listed_spec.1 hl);rw[(hol' q hq).2] at hp;cases hp
    rw[hlow o ho',qu s.objs x2 σ.objs o ho' hl]
end Go.Den
namespace Go.Den
open Go.Eng
set_option linter.unusedVariables false
set_option linter.unusedSectionVars false
set_option linter.unusedSimpArgs false
variable [CT : Ctx]

section
variable {P : Program} {env : Env}

theorem qil {T α:Type} {f:T→Option (T ⊕ α)} {x:T} {r:α} (h:iterW f x=some r):∃n,iterN f n x=some r:=by
  unfold iterW at h;split at h
  · exact⟨_,h⟩
  · cases h
theorem Rel.enter {F:Fr} {σ:AState} {γ:Gh} {a:Act} {w:World} {s:Shape} {n:Nat} (r:Rel F σ γ a w):Rel F (σ.enter s n) γ a w:=⟨r.size,r.defers,r.slots,r.off,r.gs,r.known,r.o⟩
theorem Rel.leave {F:Fr} {σ σ0:AState} {γ:Gh} {a:Act} {w:World} (r:Rel F σ γ a w):Rel F (σ.leave σ0) γ a w:=⟨r.size,r.defers,r.slots,r.off,r.gs,r.known,r.o⟩
theorem Step.leave {σ σ':AState} {γ γ':Gh} {w w':World} {s:Shape} {n:Nat} (h:Step (σ.enter s n) γ w σ' γ' w'):Step σ γ w (σ'.leave σ) γ' w' :=
  ⟨h.n,rfl,rfl,fun t e ht he=>h.slots t e (qbJ ht) he,fun o ho hp=>h.objs o ho (qbJ hp),h.keep⟩

theorem Post.then {α:Type} {F:Fr} {σ σ':AState} {γ γ':Gh} {w w':World} {K:Kt α} {res:α} {Q:Exit→Act→World→Prop} (hp:Post F σ γ w K res Q) (s:Step σ γ w σ' γ' w'):Post F σ' γ' w' K res Q :=
  ⟨fun σ2 γ2 a2 w2 hk r2 hc s2=>hp.n σ2 γ2 a2 w2 hk r2 hc (s.trans s2),fun i σ2 γ2 a2 w2 hk r2 hc s2=>hp.x i σ2 γ2 a2 w2 hk r2 hc (s.trans s2),fun σ2 γ2 a2 w2 hk r2 hc s2=>hp.r σ2 γ2 a2 w2 hk r2 hc (s.trans s2)⟩
def RdOK {α:Type} (P:Program) (N:Nat) (rc:Ann→Code→AState→Kt α→Option α):Prop :=
  ∀b σ K res,rc .nil (.loop b) σ K=some res→∀F γ a w Q,Rel F σ γ a w→Cl σ→Post F σ γ w K res Q→Code.rounds P b Q N a w
theorem qaq (hE:EnvOK P env) (hm:P.follows .mixedOrders=true) {α:Type} {n:Nat} {rc:Ann→Code→AState→Kt α→Option α} (hrc:RcOK P rc) (hrd:RdOK P n rc) {ann:Ann} {c:Code} {σ:AState} {K:Kt α} {res:α} (h:denP P env rc ann c σ K=some res)
    {F:Fr} {γ:Gh} {a:Act} {w:World} {Q:Exit→Act→World→Prop} (r:Rel F σ γ a w) (hcl:Cl σ) (hp:Post F σ γ w K res Q):c.wp P Q a w:=by
  have fin:∀σ' γ' a' w',K.n σ'.endR=some res→Rel F σ' γ' a' w'→Step σ γ w σ' γ' w'→Q .normal a' w':=fun σ' γ' a' w' hk r' s'=>hp.n σ'.endR γ' a' w' hk r'.endR ⟨rfl,rfl⟩ (s'.trans Step.endR);unfold denP at h;split at h
  · exact wp_skip (hp.n σ γ a w h r hcl (Step.refl _ _ _))
  · exact wp_label (hp.n σ γ a w h r hcl (Step.refl _ _ _))
  · refine wp_seq (hrc _ _ _ _ _ h F γ a w _ r hcl ⟨fun σ' γ' a' w' hk r' hc' s'=>?_,fun i σ' γ' a' w' hk r' hc' s'=>hp.x i σ' γ' a' w' hk r' hc' s',fun σ' γ' a' w' hk r' hc' s'=>hp.r σ' γ' a' w' hk r' hc' s'⟩);exact hrc _ _ _ _ _ hk F γ' a' w' Q r' hc' (hp.then s')
  · simp only[Option.bind_eq_some_iff] at h;obtain⟨v,h1,t,h2,h3⟩:=h;have hev:=ev_bool r (qc σ) h1 h2;cases t
    · exact wp_cond_false hev (hrc _ _ _ _ _ h3 F γ a w Q r hcl hp)
    · exact wp_cond_true hev (hrc _ _ _ _ _ h3 F γ a w Q r hcl hp)
  · refine wp_block (hrc _ _ _ _ _ h F γ a w _ r hcl ⟨fun σ' γ' a' w' hk r' hc' s'=>hp.n σ' γ' a' w' hk r' hc' s',fun i σ' γ' a' w' hk r' hc' s'=>?_,fun σ' γ' a' w' hk r' hc' s'=>hp.r σ' γ' a' w' hk r' hc' s'⟩);simp only[Exit.inBlock];split
    · rename_i e;subst e;simp only[Nat.beq_refl,cond_true] at hk;exact hp.n σ' γ' a' w' hk r' hc' s'
    · rename_i e;have:Nat.beq i _=false:=Bool.eq_false_iff.2 fun hb=>e (Nat.eq_of_beq_eq_true hb);simp only[this,cond_false] at hk;exact hp.x i σ' γ' a' w' hk r' hc' s'
  · refine wp_loop_rounds (n+1) ?_;rw[rounds_succ];refine hrc _ _ _ _ _ h F γ a w _ r hcl ⟨fun σ' γ' a' w' hk r' hc' s'=>?_,fun i σ' γ' a' w' hk r' hc' s'=>hp.x i σ' γ' a' w' hk r' hc' s',fun σ' γ' a' w' hk r' hc' s'=>hp.r σ' γ' a' w' hk r' hc' s'⟩;exact hrd _ _ _ _ hk F γ' a' w' Q r' hc' (hp.then s')
  · exact wp_exit (hp.x _ σ γ a w h r hcl (Step.refl _ _ _))
  · exact wp_ret (hp.r σ γ a w h r hcl (Step.refl _ _ _))
  · exact wp_region_list (qF hE hrc _ _ r h fin)
  · rename_i id ops;have hdr:Chg [] w { w with drawn:=w.drawn+1 }:=⟨rfl,rfl,rfl,Nat.le_refl _,fun _ _ _=>rfl,fun _=>Nat.le_succ _⟩;split at h
    · rename_i s g ann' _;obtain⟨hsel,h⟩:=chk_some.1 h;refine qhh hm (f:=0) (qgq hE hrc hsel (3*ops.size+20) ops.size (by simp) ?_ (r.ext hdr) h fun σ2 γ2 a2 w2 hk2 r2 s2=>fin σ2 γ2 a2 w2 hk2 r2 ((Step.ext hdr).trans s2));unfold nUn;exact Nat.le_trans List.countP_le_length (by simp)
    split at h
    · obtain⟨hB,h⟩:=chk_some.1 h;refine wp_region_quiet (C:=Chg [] w) hm hB hdr (qaU hE _ r h fun σ' a' r' s' hk w' hc=>?_);exact fin σ' γ a' w' hk (r'.ext hc) (s'.trans (Step.ext hc))
    · obtain⟨hB2,h⟩:=chk_some.1 h;refine qcU (C:=Chg [] w) _ hm hB2 hdr (qaU hE _ r h fun σ' a' r' s' hk w' hc=>?_);exact qF hE hrc _ _ (r'.ext hc) hk fun σ2 γ2 a2 w2 hk2 r2 s2=>fin σ2 γ2 a2 w2 hk2 r2 (s'.trans ((Step.ext hc).trans s2))
  · cases h
theorem den_sound (hE:EnvOK P env) (hm:P.follows .mixedOrders=true):∀(n:Nat) (α:Type),RcOK P (den P env n α)∧RdOK P n (den P env n α):=by
  intro n
  induction n with
  | zero=>exact fun α=>⟨fun ann c σ K res h=>by simp[den] at h,fun b σ K res h=>by simp[den] at h⟩
  | succ n ih0 =>
    intro α;have ih:=fun α=>(ih0 α).1;refine⟨?_,fun b σ K res h F γ a w Q r hcl hp=>?_⟩
    case refine_2 =>
      simp only[den,denP] at h;rw[rounds_succ];refine ih α _ _ _ _ _ h F γ a w _ r hcl ⟨fun σ' γ' a' w' hk r' hc' s'=>?_,fun i σ' γ' a' w' hk r' hc' s'=>hp.x i σ' γ' a' w' hk r' hc' s',fun σ' γ' a' w' hk r' hc' s'=>hp.r σ' γ' a' w' hk r' hc' s'⟩;exact(ih0 α).2 _ _ _ _ hk F γ' a' w' Q r' hc' (hp.then s')
    intro ann c σ K res h F γ a w Q r hcl hp
    cases ann with
    | nil=>exact qaq hE hm (ih α) (ih0 α).2 h r hcl hp
    | two x y=>exact qaq hE hm (ih α) (ih0 α).2 h r hcl hp
    | own x=>exact qaq hE hm (ih α) (ih0 α).2 h r hcl hp
    | vw x=>exact qaq hE hm (ih α) (ih0 α).2 h r hcl hp
    | tail m x=>exact qaq hE hm (ih α) (ih0 α).2 h r hcl hp
    | any s g x=>exact qaq hE hm (ih α) (ih0 α).2 h r hcl hp
    | ord i u x y=>exact qaq hE hm (ih α) (ih0 α).2 h r hcl hp
    | alt x y=>exact qaq hE hm (ih α) (ih0 α).2 h r hcl hp
    | spl d x=>exact qaq hE hm (ih α) (ih0 α).2 h r hcl hp
    | sel o i x y =>
      simp only[den] at h;exact ih α _ _ _ _ _ h F γ a w Q r hcl hp
    | frz l x =>
      simp only[den,Option.bind_eq_some_iff] at h;obtain⟨objs1,h1,h2⟩:=h;obtain⟨f1,_⟩:=qR r.o h1;have s1:Step σ γ w { σ with objs:=objs1 } γ w:=⟨rfl,rfl,rfl,fun _ _ _ h=>h,fun o _ hp=>f1.prot o hp,f1.keep⟩;exact ih α _ _ _ _ _ h2 F γ a w Q (r.setObjs f1.keep f1.same f1.o) hcl (hp.then s1)
    | join s x =>
      simp only[den,chk_some,Option.bind_eq_some_iff] at h;obtain⟨hho,y,h1,h2⟩:=h;refine ih s.T _ _ _ _ _ h1 F γ a w Q r.enter hcl ⟨fun σ' γ' a' w' hk r' hc' s'=>?_,fun i σ' γ' a' w' hk=>(by cases hk),fun σ' γ' a' w' hk=>(by cases hk)⟩;obtain⟨γF,rF,cF,sF⟩:=qcJ r hho r' s'.n (fun t ht e he=>(qdh (s'.slots t e (by rw[AState.enter];exact(by rw[qa6,mask_bit.2 ht];simp)) he)).1) (fun o ho hl=>s'.objs o ho (by rw[AState.enter];exact(by rw[qa6,qeu ho hl];simp))) s'.keep hk;exact hp.n _ γF a' w' h2 rF cF sF
    | joinE s x =>
      simp only[den,chk_some,Option.bind_eq_some_iff] at h;obtain⟨hho,y,h1,h2⟩:=h
      cases y with
      | inl y =>
        refine ih (s.T ⊕ α) _ _ _ _ _ h1 F γ a w Q r.enter hcl ⟨fun σ' γ' a' w' hk r' hc' s'=>?_,fun i σ' γ' a' w' hk=>?_,fun σ' γ' a' w' hk=>?_⟩
        · simp only[Option.map_eq_some_iff,Sum.inl.injEq,exists_eq_right] at hk;obtain⟨γF,rF,cF,sF⟩:=qcJ r hho r' s'.n (fun t ht e he=>(qdh (s'.slots t e (by rw[AState.enter];exact(by rw[qa6,mask_bit.2 ht];simp)) he)).1) (fun o ho hl=>s'.objs o ho (by rw[AState.enter];exact(by rw[qa6,qeu ho hl];simp))) s'.keep hk;exact hp.n _ γF a' w' h2 rF cF sF
        · simp at hk
        · simp at hk
      | inr y =>
        simp only[Sum.elim_inr,Option.some.injEq] at h2;subst h2;refine ih (s.T ⊕ α) _ _ _ _ _ h1 F γ a w Q r.enter hcl ⟨fun σ' γ' a' w' hk r' hc' s'=>?_,fun i σ' γ' a' w' hk r' hc' s'=>?_,fun σ' γ' a' w' hk r' hc' s'=>?_⟩
        · simp at hk
        · simp only[Option.map_eq_some_iff,Sum.inr.injEq,exists_eq_right] at hk;exact hp.x i _ γ' a' w' hk r'.leave hc' s'.leave
        · simp only[Option.map_eq_some_iff,Sum.inr.injEq,exists_eq_right] at hk;exact hp.r _ γ' a' w' hk r'.leave hc' s'.leave
    | loop s x =>
      cases c with
      | loop b =>
        simp only[den,chk_some,Option.bind_eq_some_iff] at h;obtain⟨hho,x0,h1,h2⟩:=h;obtain⟨N,h3⟩:=qil h2;refine wp_loop_rounds N ?_;obtain⟨γ0,r0,c0,s0⟩:=qcJ r hho r rfl (fun t ht e he=>(qdh he).1) (fun o ho hl=>rfl) (Keep.refl _ _ _) h1;clear h1 h2
        have key:∀(N:Nat) (y:s.T) (γ1:Gh) (a1:Act) (w1:World),iterN (fun x_1=>den P env n (s.T ⊕ α) x b ((conc s σ x_1).enter s σ.objs.length) ⟨fun σ'=>Option.map Sum.inl (absT s σ.objs.length σ'),fun i σ'=>Option.map Sum.inr (K.x i (σ'.leave σ)),fun σ'=>Option.map Sum.inr (K.r (σ'.leave σ))⟩) N y=some res →
            Rel F (conc s σ y) γ1 a1 w1→Cl (conc s σ y)→Step σ γ w (conc s σ y) γ1 w1→Code.rounds P b Q N a1 w1:=by
          intro N
          induction N with
          | zero=>intro y γ1 a1 w1 h;simp[iterN] at h
          | succ N ihN =>
            intro y γ1 a1 w1 h r1 c1 s1;rw[rounds_succ];simp only[iterN] at h;have hkeep:∀t∈s.keep,∀e,kf σ.slots t=some e→kf (conc s σ y).slots t=some e:=fun t ht e he=>by
              have hh:=hho;simp only[qdO,Bool.and_eq_true,List.all_eq_true,Bool.not_eq_true'] at hh;obtain⟨⟨⟨hpm,hsl⟩,hndo,hol⟩,hg0,hkn0⟩:=hh;obtain⟨k1,k2,k3⟩:=qdh he;refine kf_of ?_ k2 k3;unfold conc
              rw[(qcC s.slots y.1 _).2.2.2.2.2.2.2 t (fun q hq e1=>by
                have:=(hsl q hq).1;rw[e1,memN_spec.2 ht] at this
                cases this)]
              show get (keepF σ.slots s.keep) t=some e;rw[qe7 ht];exact he
            have hobj:∀o,o<σ.objs.length→listed o s.objs=false→(conc s σ y).objs[o]?=σ.objs[o]?:=fun o ho hl=>by
              unfold conc;rw[(qcC s.slots y.1 _).2.1 o (Nat.lt_of_lt_of_le ho (qau s.objs y.2 σ.objs))];exact qu s.objs y.2 σ.objs o ho hl
            have hlen:σ.objs.length≤(conc s σ y).objs.length:=s1.len;split at h
            · cases h
            · rename_i z hz;refine ih (s.T ⊕ α) _ _ _ _ _ hz F γ1 a1 w1 _ r1.enter c1 ⟨fun σ' γ' a' w' hk r' hc' s'=>?_,fun i σ' γ' a' w' hk=>?_,fun σ' γ' a' w' hk=>?_⟩
              · simp only[Option.map_eq_some_iff,Sum.inl.injEq,exists_eq_right] at hk;obtain⟨γF,rF,cF,sF⟩:=qcJ r hho r' (s'.n.trans s1.n) (fun t ht e he=>(qdh (s'.slots t e (by rw[AState.enter];exact(by rw[qa6,mask_bit.2 ht];simp)) (hkeep t ht e he))).1)
                  (fun o ho hl=>(s'.objs o (Nat.lt_of_lt_of_le ho hlen) (by rw[AState.enter];exact(by rw[qa6,qeu ho hl];simp))).trans (hobj o ho hl)) (s1.keep.trans (s'.keep.less hlen)) hk
                exact ihN z γF a' w' h rF cF sF
              · simp at hk
              · simp at hk
            · rename_i z hz;cases h;refine ih (s.T ⊕ α) _ _ _ _ _ hz F γ1 a1 w1 _ r1.enter c1 ⟨fun σ' γ' a' w' hk r' hc' s'=>?_,fun i σ' γ' a' w' hk r' hc' s'=>?_,fun σ' γ' a' w' hk r' hc' s'=>?_⟩
              · simp at hk
              · simp only[Option.map_eq_some_iff,Sum.inr.injEq,exists_eq_right] at hk;refine hp.x i _ γ' a' w' hk r'.leave hc' (s1.trans ?_);have s2:=s'.leave;exact⟨s2.n,s1.prS.symm,s1.prO.symm,s2.slots,s2.objs,s2.keep⟩
              · simp only[Option.map_eq_some_iff,Sum.inr.injEq,exists_eq_right] at hk;refine hp.r _ γ' a' w' hk r'.leave hc' (s1.trans ?_);have s2:=s'.leave;exact⟨s2.n,s1.prS.symm,s1.prO.symm,s2.slots,s2.objs,s2.keep⟩
        exact key N x0 γ0 a w h3 r0 c0 s0
      | _=>simp[den] at h
end
end Go.Den
namespace Go.Den
open Go.Eng (qE CellsAt Chg InR adr aggOf)
set_option linter.unusedVariables false
set_option linter.unusedSectionVars false
set_option linter.unusedSimpArgs false
variable [CT : Ctx]

section
variable {P : Program} {env : Env}

theorem qc5 {γ:Gh} {w:World} {S:Nat→Prop} (hS:∀k,S k→Imm [] γ w k):∀ {ps:List Ty} {x:DL ps} {vs:List Value},ArgsR w S ps x vs→PRL [] γ w (qfg ps x) vs
  | [],_,_,h=>h
  | τ::r,x,_,⟨v,q,e,⟨cs,h1,h2⟩,h3⟩=>by
    refine⟨v,q,e,?_,qc5 hS h3⟩;have:=qaj τ (Rep.mono hS (fun _ _=>rfl) τ h1 (by simp));rw[h2];exact qa2 (qbL τ x.1) this
theorem qb3:∀(ps:List Ty) (x:DL ps),(qfg ps x).length=ps.length
  | [],_=>rfl
  | _::r,x=>by simp[qfg,qb3 r x.2]
theorem qdr {objs:List OB} {γ:Gh} {w:World} {σ:AState} (hσ:σ.objs=objs):∀ {vs:List PV} {ts:List Ty} {cs:List Cv} {vals:List Value},qb9 vs ts=some cs→PRL objs γ w vs vals→∃cells,VRL objs γ w cs cells∧tupV ts cells=vals∧vals.length=ts.length
  | [],[],cs,vals,h,hv=>by
    simp only[qb9,Option.some.injEq] at h;subst h;simp only[PRL] at hv;subst hv;exact⟨[],rfl,rfl,rfl⟩
  | v::vs,τ::ts,cs,vals,h,⟨u,q,e,h1,h2⟩=>by
    simp only[qb9,Option.bind_eq_some_iff,chk_some,Bool.and_eq_true,Option.some.injEq] at h;obtain⟨l,h3,⟨h4,h5⟩,q2,h6,rfl⟩:=h;subst hσ;have hvl:=qaE h3 h1
    have hl:u.cells.toList.length=τ.size:=by rw[hvl.length];exact Nat.eq_of_beq_eq_true h4
    obtain⟨cells,h7,h8,h9⟩:=qdr rfl h6 h2;refine⟨u.cells.toList++cells,hvl.append h7,?_,by simp[e,h9]⟩;simp only[tupV];rw[←hl,List.take_left,List.drop_left,h8,e,←qe8 h3 h5 h1]
  | [],_::_,_,_,h,_=>by simp[qb9] at h
  | _::_,[],_,_,h,_=>by simp[qb9] at h
theorem qfp:∀(b:Bool) (ps:List Ty) (x:DL ps),(qe1 b ps x).length≤ps.length
  | false,ps,x=>Nat.le_of_eq (qb3 ps x)
  | true,[],_=>Nat.le_refl _
  | true,_::r,x=>by simp[qe1,qb3 r x.2]
theorem qg4 {γ:Gh} {w:World} {S:Nat→Prop} (hS:∀k,S k→Imm [] γ w k) {b:Bool} {ps:List Ty} {x:DL ps} {vs:List Value} (h:ArgsB w S b ps x vs):PRL [] γ w (qe1 b ps x) vs:=by
  cases b with
  | false=>exact qc5 hS h
  | true =>
    cases ps with
    | nil=>exact h.elim
    | cons τ r =>
      obtain⟨a,us,q,e,h1,h2,h3,h4,h5⟩:=h;exact⟨_,q,e,⟨a,us,rfl,h1,fun hne=>hS _ (h2 hne),h3,qaj τ (Rep.mono hS (fun _ _=>rfl) τ h4 (by simp))⟩,qc5 hS h5⟩
theorem qhe (hE:EnvOK P env) (hm:P.follows .mixedOrders=true) {f:FuncId} {fn:Func} (hf:P.funcs[f]?=some fn) (b:Bool) (c:Con) (ann:Ann)
    (hok:(fn.body.isSome&&(Nat.ble c.ps.length fn.ntmps&&(c.ps.all Ty.pure&&(c.one || !Nat.beq c.res.length 1))))=true) (hwf:c.one=false→c.ρ=stOf c.res) (htt:∀g,c.tot=some g→∀x,c.φ x=some (g x))
    (h:∀x,c.φ x=denB P env ann fn b c.ps c.one c.res c.ρ x):ConB P f b c:=by
  simp only[Bool.and_eq_true] at hok;obtain⟨hbody,hn,hpure,hone⟩:=hok;have hn:=Nat.le_of_ble_eq_true hn;refine⟨hpure,hwf,htt,fun w S args x r hS hTab hargs hr=>?_⟩;obtain⟨body,hb⟩:=Option.isSome_iff_exists.1 hbody
  have hbo:Eng.bodyOf fn=body:=by simp[Eng.bodyOf,hb]
  rw[h x] at hr;unfold denB at hr;rw[hbo] at hr
  let γ:Gh:=⟨fun _=>(undef,none),fun k=>S k∨w.heap.size≤k⟩
  have hSI:∀k,S k→Imm [] γ w k:=fun k hk=>⟨hS k hk,.inl hk,fun o hm=>by obtain⟨ob,h1,_⟩:=hm;simp at h1⟩
  have hor:ORel ⟨w,[]⟩ [] γ w:=⟨fun o ob ho=>by simp at ho,fun o o' b hm=>by obtain⟨ob,h1,_⟩:=hm;simp at h1,fun o b hm=>by obtain⟨ob,h1,_⟩:=hm;simp at h1,fun o b ho=>by simp at ho,Chg.refl _ _,fun o i e xs b ho=>by simp at ho,
    fun k hk => .inr (hk.elim id (fun h=>nomatch h)),hTab.mono hSI (fun _ _=>rfl)⟩
  have hv:=qg4 hSI hargs;have r00:Rel ⟨w,[]⟩ ⟨0,[],[],0,0,0,[]⟩ γ { tmps:=#[],defers:=[] } w:=⟨rfl,rfl,fun t tg pv h=>by simp[get] at h,fun t tg pv h=>by simp[get] at h,fun t tg pv h=>by simp[get] at h,fun x hx=>(by cases hx),hor⟩;have r0:=qgZ (n:=fn.ntmps) r00 hv (Nat.le_trans (qfp b c.ps x) hn)
  have hlast:∀σ' γ' a' w',retK P fn c.one c.res c.ρ σ'=some r→Rel ⟨w,[]⟩ σ' γ' a' w'→Step ⟨fn.ntmps,qaX 0 (qe1 b c.ps x),[],0,0,0,[]⟩ γ w σ' γ' w' →
      a'.defers=[]∧∃v,(results fn a'.tmps).run P w' = .ok v w'∧∃v2,Ending.returned v = .returned v2∧Chg [] w w'∧ResR w w' S c r v2:=by
    intro σ' γ' a' w' hk r' s';simp only[retK,Option.bind_eq_some_iff] at hk;obtain⟨vs,h1,cs,h2,h3⟩:=hk;obtain⟨vals,h4,h5,h6⟩:=qcQ (P:=P) r' h1;refine⟨r'.defers,_,qe2 h5 h6,_,rfl,r'.o.chg,?_⟩;obtain⟨cells,h7,h8,h9⟩:=qdr rfl h2 h4;simp only[retD,chk_some,Bool.and_eq_true,List.all_eq_true,Bool.not_eq_true'] at h3;obtain⟨⟨hnd,hdis⟩,h10⟩:=h3;have hmut:=(qaW (S:=fun _=>True) r'.o (fun _ _=>trivial) c.ρ h10 h7 (fun _ _ _ _=>trivial)).2;have hSeq:γ'.S=γ.S:=s'.keep.s;have hMmem:∀b∈blocks γ' (idsO σ'.objs c.ρ cs),∃o∈idsO σ'.objs c.ρ cs,(γ' o).2=some b:=fun b hb=>by
      obtain⟨o,ho,hb'⟩:=List.mem_flatMap.1 hb;exact⟨o,ho,by simpa using hb'⟩
    have hrep:=(qaW (S:=fun k=>k<w'.heap.size∧(S k∨w.heap.size≤k)∧k∉blocks γ' (idsO σ'.objs c.ρ cs)) r'.o (fun k hk=>⟨hk.lt,by have:=hk.s;rw[hSeq] at this;exact this,fun hm=>by
      obtain⟨o,ho,hb⟩:=hMmem k hm;exact hk.own o (hmut o ho) hb⟩) c.ρ h10 h7 (fun o ho b hb=>by
      obtain⟨i,e,xs,fz,hob⟩:=qc7 c.ρ h10 ho;have hnm:b∉blocks γ' (idsO σ'.objs c.ρ cs):=fun hm=>by
        obtain⟨o',ho',hb'⟩:=hMmem b hm
        cases fz with
        | true=>exact(r'.o.frz o i e xs b hob hb).own o' (hmut o' ho') hb'
        | false =>
          have e1:=r'.o.inj o o' b ⟨_,hob,rfl⟩ (hmut o' ho') hb hb';subst e1;have:=hdis o ho;rw[memN_spec.2 ho'] at this;cases this
      refine⟨r'.o.lt o b (qA hob) hb,?_,hnm⟩
      cases fz with
      | true=>have:=(r'.o.frz o i e xs b hob hb).s;rw[hSeq] at this;exact this
      | false =>
        rcases r'.o.own o b ⟨_,hob,rfl⟩ hb with h11 | h11
        · exact .inr h11
        · cases h11)).1
    refine⟨_,cells,qbD r'.o (qbm hnd) hmut,fun b hb=>?_,hrep,?_⟩
    · obtain⟨o,ho,hb'⟩:=hMmem b hb;rcases r'.o.own o b (hmut o ho) hb' with h11 | h11
      · exact h11
      · cases h11
    · unfold resV
      cases hc1:c.one with
      | true =>
        rw[hc1] at h8 h9;simp only[resTys,cond_true,tupV] at h8;rw[←h8]
        have hl:cells.length=c.ρ.size:=by rw[Rep.length c.ρ hrep]
        rw[←hl,List.take_length];rfl
      | false =>
        rw[hc1] at h8 h9 hone;simp only[resTys,cond_false] at h8 h9;simp only[Bool.false_or,Bool.not_eq_true'] at hone;rw[h8]
        have hne:vals.length≠1:=fun e=>by rw[←h9,e] at hone;cases hone
        match vals,hne with
        | [],_=>rfl
        | [_],hne=>exact absurd rfl hne
        | _::_::_,_=>rfl
  have:=(den_sound hE hm 10000 (D c.ρ)).1 ann body _ _ r hr ⟨w,[]⟩ γ _ w (bodyPost P fn fun e w'=>∃v,e = .returned v∧Chg [] w w'∧ResR w w' S c r v) r0 ⟨rfl,rfl⟩
    ⟨fun σ' γ' a' w' hk r' _ s'=>hlast σ' γ' a' w' hk r' s',fun i σ' γ' a' w' hk=>(by cases hk),fun σ' γ' a' w' hk r' _ s'=>hlast σ' γ' a' w' hk r' s'⟩
  have hcalls:=calls_of_wp (args:=args) hf hb (by simpa using this);exact hcalls
theorem qj (hE:EnvOK P env) (hm:P.follows .mixedOrders=true) {f:FuncId} {fn:Func} (hf:P.funcs[f]?=some fn) (c:Con) (ann:Ann)
    (hok:(fn.body.isSome&&(Nat.ble c.ps.length fn.ntmps&&(c.ps.all Ty.pure&&(c.one || !Nat.beq c.res.length 1))))=true) (hwf:c.one=false→c.ρ=stOf c.res) (htt:∀g,c.tot=some g→∀x,c.φ x=some (g x))
    (h:∀x,c.φ x=denF P env ann fn c.ps c.one c.res c.ρ x):ConOK P f c:=(qhe hE hm hf false c ann hok hwf htt h).ok
end

def tyE:Eng.Ty→Ty
  | .int k => .int k
  | .bool => .bool
  | .str => .str
  | .sl e => .sl (tyE e)
  | .nil => .nil
  | .st f r => .st (tyE f) (tyE r)
def dE:(τ:Eng.Ty)→Eng.D τ→D (tyE τ)
  | .int _,n=>n
  | .bool,b=>b
  | .str,s=>s
  | .sl e,(_,_,xs)=>xs.map (dE e)
  | .nil,_=>()
  | .st f r,(x,y)=>(dE f x,dE r y)
def RngL {A:Type} (m:Nat) (R:A→Prop) (xs:List A):Prop:=xs.length≤m∧∀x∈xs,R x
def Rng:(τ:Ty)→D τ→Prop
  | .int k,n=>InR k n
  | .bool,_=>True
  | .str,s=>s.size≤maxLen
  | .sl e,xs=>RngL maxLen (Rng e) xs
  | .osl _ e,xs=>RngL maxLen (Rng e) xs
  | .obx e,x=>Rng e x
  | .err,_=>True
  | .bld _ _,_=>True
  | .nil,_=>True
  | .st f r,x=>Rng f x.1∧Rng r x.2
def posE:Eng.Ty→Bool
  | .sl e=>!Nat.beq e.size 0&&posE e
  | .st f r=>posE f&&posE r
  | _=>true
theorem rng_of:∀(τ:Eng.Ty) {y:Eng.D τ} {w:World},Eng.Ok w τ y→Rng (tyE τ) (dE τ y)
  | .int _,_,_,h=>h
  | .bool,_,_,_=>trivial
  | .str,_,_,h=>h
  | .nil,_,_,_=>trivial
  | .sl e,(ao,cap,xs),w,h=>by
    obtain⟨h1,h2,h3⟩:=h;refine⟨by simp only[dE,List.length_map];omega,fun x hx=>?_⟩;obtain⟨y,hy,rfl⟩:=List.mem_map.1 hx;obtain⟨i,hi,rfl⟩:=List.mem_iff_getElem.1 hy;exact rng_of e (h3 i hi).2.2
  | .st f r,(x,y),w,h=>⟨rng_of f h.1,rng_of r h.2⟩
theorem qhR:∀(τ:Eng.Ty) {y:Eng.D τ} {w:World},posE τ=true→Eng.Ok w τ y→Rep w (fun k=>k<w.heap.size) (tyE τ) (dE τ y) [] (Eng.enc τ y)
  | .int _,_,_,_,h=>⟨rfl,rfl⟩
  | .bool,_,_,_,_=>⟨rfl,rfl⟩
  | .str,_,_,_,h=>⟨rfl,rfl⟩
  | .nil,_,_,_,_=>⟨rfl,rfl⟩
  | .sl e,(ao,cap,xs),w,hp,h=>by
    simp only[posE,Bool.and_eq_true,Bool.not_eq_true'] at hp;obtain⟨h1,h2,h3⟩:=h;have hpos:0<e.size:=by
      rcases Nat.eq_zero_or_pos e.size with h0 | h0
      · rw[h0] at hp;cases hp.1
      · exact h0
    refine⟨rfl,ao,cap,(xs.map (Eng.enc e)).flatten,by simp[dE,Eng.enc],by simpa[dE] using h1,?_,fun hne=>?_⟩
    · clear h1 h2;have:∀(l:List (Eng.D e)),(∀x∈l,Eng.Ok w e x)→RepL (fun x c=>Rep w (fun k=>k<w.heap.size) (tyE e) x [] c) (l.map (dE e)) (l.map (Eng.enc e)).flatten:=by
        intro l
        induction l with
        | nil=>intro _;rfl
        | cons x l ih=>intro hl;exact⟨_,_,rfl,qhR e hp.2 (hl x List.mem_cons_self),ih fun y hy=>hl y (List.mem_cons_of_mem _ hy)⟩
      exact this xs fun x hx=>by
        obtain⟨i,hi,rfl⟩:=List.mem_iff_getElem.1 hx;exact(h3 i hi).2.2
    · have hx:xs≠[]:=fun e=>hne (by subst e;rfl);have hl0:0<xs.length:=List.length_pos_iff.2 hx;have hs:=(h3 0 hl0).1;obtain⟨ad,rfl⟩:=Option.isSome_iff_exists.1 hs;have hcells:CellsAt w ad (xs.map (Eng.enc e)).flatten:=by
        intro j v hv;have key:∀(l:List (Eng.D e)) (j:Nat) (v:Value),((l.map (Eng.enc e)).flatten)[j]?=some v→∃i,∃hi:i<l.length,∃m,j=i*e.size+m∧(Eng.enc e l[i])[m]?=some v:=by
          intro l
          induction l with
          | nil=>intro j v h;simp at h
          | cons x l ih =>
            intro j v h;simp only[List.map_cons,List.flatten_cons] at h;by_cases hj:j<(Eng.enc e x).length
            · rw[List.getElem?_append_left hj] at h;exact⟨0,by simp,j,by simp,h⟩
            · rw[List.getElem?_append_right (by omega)] at h;obtain⟨i,hi,m,h4,h5⟩:=ih _ v h;rw[Eng.enc_length] at h4 hj;refine⟨i+1,by simpa using hi,m,?_,by simpa using h5⟩;rw[Nat.add_mul];omega
        obtain⟨i,hi,m,rfl,h5⟩:=key xs j v hv;have:=(h3 i hi).2.1 m v h5;rw[←qgm];exact this
      refine⟨ad,rfl,?_,hcells⟩;obtain⟨v,hv⟩:∃v,(Eng.enc e xs[0])[0]?=some v:=⟨_,List.getElem?_eq_getElem (Nat.lt_of_lt_of_le hpos (Nat.le_of_eq (Eng.enc_length e xs[0]).symm))⟩;have:=(h3 0 hl0).2.1 0 v hv;have hb:=World.block_lt_of_cell? w _ this;rw[Eng.add_block,Eng.add_block] at hb;exact hb
  | .st f r,(x,y),w,hp,h=>by
    simp only[posE,Bool.and_eq_true] at hp;exact⟨_,_,[],[],rfl,rfl,qhR f hp.1 h.1,qhR r hp.2 h.2⟩
theorem arg_of (τ:Eng.Ty) {y:Eng.D τ} {w:World} (hp:posE τ=true) (h:Eng.Ok w τ y):ArgR w (fun k=>k<w.heap.size) (tyE τ) (dE τ y) (Eng.handV τ y):=by
  refine⟨_,qhR τ hp h,?_⟩
  cases τ with
  | sl e=>obtain⟨ao,cap,xs⟩:=y;rfl
  | _=>rfl
theorem law_call {P:Program} {f:FuncId} {ps:List Ty} {φ:DL ps→Option Bool} {t:Option (DL ps→Bool)} (hc:ConOK P f ⟨ps,true,[],.bool,φ,t⟩) {w:World} {args:Array Value} {x:DL ps} (hT:TabR (fun k=>k<w.heap.size) w) (ha:ArgsR w (fun k=>k<w.heap.size) ps x args.toList) (ht:φ x=some true) :
    Calls P f args w fun e w'=>e = .returned (.bool true)∧RowKit.Below w.heap.size w w':=by
  refine(hc.calls w _ args x true (fun _ h=>h) hT ha ht).mono fun e w' hh=>?_;obtain⟨v,rfl,hch,M,cs,_,_,hrep,hv⟩:=hh;refine⟨?_,hch.toBelow⟩;obtain⟨_,rfl⟩:M=[]∧cs=[.bool true]:=hrep;rw[hv];rfl
end Go.Den
namespace Go.Den
instance ctx0:Ctx:=⟨[(0,Go.Lib.pow10Tab.map (Value.int .u64)),(5,Go.Lib.deBruijn64tab.map fun n=>Value.int .u8 ((n:Nat):Int))],[],false,[5,6,136,137]⟩
end Go.Den
namespace Go.Proofs.YtlfpfiplndkofaaDoor
def qat (r:Nat):Bool:=decide (r<32)||decide (126<r)
def qm (s:ByteArray):Int:=if 200<s.size then 2 else if 0≤Go.Lib.idxFunc qat true s then 3 else 0
def qdZ (s:ByteArray) (n:Int):Option ByteArray:=bif decide (0≤n)&&(decide (n≤9223372036854775807)&&Nat.ble (s.size*n.toNat) 140737488355328) then some ⟨(Go.Lib.repeatL s.data.toList n.toNat).toArray⟩ else none
def idx1S (s sep:ByteArray):Option Int:=bif Nat.beq sep.size 1 then some (Go.Lib.indexByte s.data.toList (sep.data.toList.headD 0)) else none
def qhV (s:ByteArray):Option ByteArray:=bif Nat.ble s.size 281474976710656 then some s else none
def trimS (s c:ByteArray):Option ByteArray:=bif Nat.ble s.size 9223372036854775807&&(Nat.ble c.size 4294967280&&(c.data.toList.all fun b=>decide (b.toNat<128))) then some ⟨(Go.Lib.trimS s.data.toList c.data.toList).toArray⟩ else none
def qK (n:Nat):UInt8:=if n<10 then(48+n).toUInt8 else(87+n).toUInt8
def hexR:Nat→Nat→List UInt8
  | 0,_=>[]
  | f+1,n=>qK (n % 16)::(if n<16 then [] else hexR f (n / 16))
def qfS (n b:Int):Option ByteArray:=bif decide (b=16)&&(decide (0≤n)&&decide (n≤18446744073709551615)) then some ⟨(hexR 16 n.toNat).reverse.toArray⟩ else none
end Go.Proofs.YtlfpfiplndkofaaDoor
namespace Go.Proofs.YtlfpfiplndkofaaDoor
open Go.Den
set_option linter.unusedVariables false
set_option maxRecDepth 100000
noncomputable section
def qak (l:List Zv8):Option (Int) :=
  bif (((l.length:Nat):Int)==0) then some (0:Int)
  else Option.bind (at? l (w64 (((l.length:Nat):Int)-1))) fun d2 =>
  some d2.2.1
def qs (s:ByteArray) (x1:(Int×Int×Unit)×(Unit)):Option (Zv7 ⊕ Zv9) :=
  bif (decide (x1.1.2.1<((s.size:Nat):Int))) then(Option.bind (strAt s x1.1.2.1) fun c2 =>
  some (Sum.inl (((wu64 ((ixor .u64 x1.1.1 (wu64 ((c2.toNat:Nat):Int)))*(1099511628211:Int))),(w64 (x1.1.2.1+1)),()),())))
  else some (Sum.inr ((x1.1.1,()),()))
def qZ (before:Int) (s:ByteArray):Option (Int) :=
  Option.bind (iterW (qs s) (((ixor .u64 before (14695981039346656037:Int)),(0:Int),()),())) fun x3 =>
  some (wu64 ((ixor .u64 x3.1.1 (wu64 ((s.size:Nat):Int)))*(1099511628211:Int)))
def qk (before:Int) (x:ByteArray×Int×Unit):Option (Int) :=
  bif ((qm x.1)!=0) then some (qm x.1)
  else Option.bind (qZ before x.1) fun r2 =>
  bif (x.2.1 !=r2) then some (15:Int)
  else some (0:Int)
def qr (l:List Zv8) (x1:Zv12×(Unit)):Option (Zv9 ⊕ (Zv11 ⊕ Int)) :=
  bif (decide (x1.1.1<((l.length:Nat):Int))) then(Option.bind (at? l x1.1.1) fun d2 =>
  req (imp (!(x1.1.1==1000)) (qh (0:Int) x1.1.1 l.length)) (Option.bind (gopt (!(x1.1.1==1000)) (0:Int) (qak ((l.take (x1.1.1).toNat).drop 0))) fun r3 =>
  Option.bind (gopt (!(x1.1.1==1000)) (0:Int) (qk r3 d2)) fun r4 =>
  bif ((x1.1.1==1000)||(r4 !=0)) then some (Sum.inr (Sum.inr x1.1.1))
  else some (Sum.inl (((w64 (x1.1.1+1)),()),()))))
  else some (Sum.inr (Sum.inl ((),())))
def qJ (l:List Zv8):Option (Int) :=
  Option.bind (α:=Zv11 ⊕ Int) (iterW (qr l) (((0:Int),()),())) (Sum.elim (fun x5 =>
  some ((l.length:Nat):Int)) some)
def qQ (l:List Zv8):Option (Int) :=
  bif (decide (((l.length:Nat):Int)>1000)) then some (2:Int)
  else Option.bind (qJ l) fun r5 =>
  bif (decide (r5<((l.length:Nat):Int))) then(req (qh (0:Int) r5 l.length) (Option.bind (qak ((l.take (r5).toNat).drop 0)) fun r6 =>
  Option.bind (at? l r5) fun d7 =>
  Option.bind (qk r6 d7) fun r8 =>
  some r8))
  else some (0:Int)
def qz (s:List Zv8):Option Zv5 :=
  bif (s.isEmpty) then(agree (some ([]:List Zv8)) (req (room (([]:List Zv8).length+s.length) 24) (some (([]:List Zv8)++s))))
  else req (room (([]:List Zv8).length+s.length) 24) (some (([]:List Zv8)++s))
def qW (l:List Zv8) (s:ByteArray):Option (Zv5×Int×Unit) :=
  Option.bind (qQ l) fun r5 =>
  bif (r5 !=0) then some (([]:List Zv8),(r5,()))
  else bif ((qm s)!=0) then some (([]:List Zv8),((qm s),()))
  else bif (((l.length:Nat):Int)==1000) then some (([]:List Zv8),((9:Int),()))
  else Option.bind (qz l) fun r6 =>
  Option.bind (qak l) fun r7 =>
  Option.bind (qZ r7 s) fun r8 =>
  req (room (r6.length+([(s,(r8,()))]).length) 24) (some ((r6++[(s,(r8,()))]),((0:Int),())))
def qai (l:List Zv8) (x3:Zv12×((List Int)×Unit)):Option ((Zv12×((List Int)×Unit)) ⊕ ((Unit)×((List Int)×Unit))) :=
  bif (decide (x3.1.1<((l.length:Nat):Int))) then(Option.bind (at? l x3.1.1) fun d4 =>
  Option.bind (qfS d4.2.1 (16:Int)) fun r5 =>
  Option.bind (qdZ (ByteArray.mk #[48]) (w64 ((16:Int)-((r5.size:Nat):Int)))) fun r6 =>
  req (qH r6 r5) (req (qH (r6++r5) (ByteArray.mk #[32])) (req (qH ((r6++r5)++(ByteArray.mk #[32])) d4.1) (req (qH (((r6++r5)++(ByteArray.mk #[32]))++d4.1) (ByteArray.mk #[10])) (req (room (x3.2.1.length+((((r6++r5)++(ByteArray.mk #[32]))++d4.1)++(ByteArray.mk #[10])).size) 1) (req (Nat.blt 0 (x3.2.1++qg ((((r6++r5)++(ByteArray.mk #[32]))++d4.1)++(ByteArray.mk #[10]))).length) (some (Sum.inl (((w64 (x3.1.1+1)),()),((x3.2.1++qg ((((r6++r5)++(ByteArray.mk #[32]))++d4.1)++(ByteArray.mk #[10]))),()))))))))))
  else some (Sum.inr ((),(x3.2.1,())))
def qa4 (l:List Zv8):Option Zv8 :=
  Option.bind (qQ l) fun r2 =>
  bif (r2 !=0) then some ((ByteArray.mk #[]),(r2,()))
  else Option.bind (iterW (qai l) (((0:Int),()),(([]:List Int),()))) fun x7 =>
  some ((strOf x7.2.1),((0:Int),()))
def qD (s:ByteArray) (sep:ByteArray):Option (ByteArray×ByteArray×Bool×Unit) :=
  Option.bind (idx1S s sep) fun r2 =>
  bif (decide (r2≥0)) then req (qh (0:Int) r2 s.size) (req (qh (w64 (r2+((sep.size:Nat):Int))) ((s.size:Nat):Int) s.size) (some ((s.extract 0 (r2).toNat),((s.extract ((w64 (r2+((sep.size:Nat):Int)))).toNat (((s.size:Nat):Int)).toNat),(true,())))))
  else some (s,((ByteArray.mk #[]),(false,())))
def qaO (s:ByteArray) (sep:ByteArray):Option (ByteArray×ByteArray×Bool×Unit) :=
  Option.bind (qD s sep) fun r2 =>
  some r2
def qaa (c:Int):Option (Int) :=
  some (ior .u8 c (32:Int))
def qa (c:Int):Int :=
  (ior .u8 c (32:Int))
theorem qb1 (c:Int):qaa c=some (qa c):=by
  unfold qaa qa
  first | rfl | simp only[cond_some]
def qa0 (x9:(ByteArray×Unit)×(Unit)) (x15:(Int×Int×Bool×Unit)×(Unit)) (x16:(Int×Int×Unit)×(Unit)):Option (Zv7 ⊕ (Zv9 ⊕ Bool)) :=
  bif (decide (x16.1.2.1<((x9.1.1.size:Nat):Int))) then(Option.bind (α:=Zv9 ⊕ (Zv7 ⊕ (Zv9 ⊕ Bool))) (Option.bind (strAt x9.1.1 x16.1.2.1) fun c17 =>
  Option.bind (gopt (decide ((48:Int)≤((c17.toNat:Nat):Int))) 0 (strAt x9.1.1 x16.1.2.1)) fun c18 =>
  Option.bind (gopt (x15.1.2.2.1&&(!((decide ((48:Int)≤((c17.toNat:Nat):Int)))&&(decide (((c18.toNat:Nat):Int)≤57))))) 0 (strAt x9.1.1 x16.1.2.1)) fun c19 =>
  Option.bind (gopt ((x15.1.2.2.1&&(decide ((97:Int)≤(qa ((c19.toNat:Nat):Int)))))&&(!((decide ((48:Int)≤((c17.toNat:Nat):Int)))&&(decide (((c18.toNat:Nat):Int)≤57))))) 0 (strAt x9.1.1 x16.1.2.1)) fun c20 =>
  bif (((decide ((48:Int)≤((c17.toNat:Nat):Int)))&&(decide (((c18.toNat:Nat):Int)≤57)))||((x15.1.2.2.1&&(decide ((97:Int)≤(qa ((c19.toNat:Nat):Int)))))&&(decide ((qa ((c20.toNat:Nat):Int))≤102)))) then some (Sum.inl (((48:Int),()),()))
  else Option.bind (strAt x9.1.1 x16.1.2.1) fun c21 =>
  bif (((c21.toNat:Nat):Int)==95) then(bif (x16.1.1 !=48) then some (Sum.inr (Sum.inr (Sum.inr false)))
  else some (Sum.inl (((95:Int),()),())))
  else bif (x16.1.1==95) then some (Sum.inr (Sum.inr (Sum.inr false)))
  else some (Sum.inl (((33:Int),()),()))) (Sum.elim (fun x22 =>
  some (Sum.inl ((x22.1.1,(w64 (x16.1.2.1+1)),()),()))) some))
  else some (Sum.inr (Sum.inl ((x16.1.1,()),())))
def qal (s:ByteArray):Option (Bool) :=
  Option.bind (gopt (decide (((s.size:Nat):Int)≥1)) 0 (strAt s (0:Int))) fun c7 =>
  Option.bind (gopt ((!(((c7.toNat:Nat):Int)==45))&&(decide (((s.size:Nat):Int)≥1))) 0 (strAt s (0:Int))) fun c8 =>
  Option.bind (bif ((decide (((s.size:Nat):Int)≥1))&&((((c7.toNat:Nat):Int)==45)||(((c8.toNat:Nat):Int)==43))) then req (qh (1:Int) ((s.size:Nat):Int) s.size) (some (((s.extract 1 (((s.size:Nat):Int)).toNat),()),()))
  else some ((s,()),())) fun x9 =>
  Option.bind (gopt (decide (((x9.1.1.size:Nat):Int)≥2)) 0 (strAt x9.1.1 (0:Int))) fun c10 =>
  Option.bind (gopt ((decide (((x9.1.1.size:Nat):Int)≥2))&&(((c10.toNat:Nat):Int)==48)) 0 (strAt x9.1.1 (1:Int))) fun c11 =>
  Option.bind (gopt ((!((qa ((c11.toNat:Nat):Int))==98))&&((decide (((x9.1.1.size:Nat):Int)≥2))&&(((c10.toNat:Nat):Int)==48))) 0 (strAt x9.1.1 (1:Int))) fun c12 =>
  Option.bind (gopt ((!(((qa ((c11.toNat:Nat):Int))==98)||((qa ((c12.toNat:Nat):Int))==111)))&&((decide (((x9.1.1.size:Nat):Int)≥2))&&(((c10.toNat:Nat):Int)==48))) 0 (strAt x9.1.1 (1:Int))) fun c13 =>
  Option.bind (bif (((decide (((x9.1.1.size:Nat):Int)≥2))&&(((c10.toNat:Nat):Int)==48))&&((((qa ((c11.toNat:Nat):Int))==98)||((qa ((c12.toNat:Nat):Int))==111))||((qa ((c13.toNat:Nat):Int))==120))) then(Option.bind (strAt x9.1.1 (1:Int)) fun c14 =>
  some (((48:Int),(2:Int),((qa ((c14.toNat:Nat):Int))==120),()),()))
  else some (((94:Int),(0:Int),false,()),())) fun x15 =>
  Option.bind (α:=Zv9 ⊕ Bool) (iterW (qa0 x9 x15) ((x15.1.1,x15.1.2.1,()),())) (Sum.elim (fun x23 =>
  some (x23.1.1 !=95)) some)
def qn (x10:Zv8×(Unit)) (base:Int) (x13:Zv12×(Unit)) (x11:Zv12×(Unit)) (x14:(Bool×Int×Int×Unit)×(Unit)):Option (Zv4 ⊕ (Zv6 ⊕ Zv10)) :=
  bif (decide (x14.1.2.2.1<(((qg x10.1.1).length:Nat):Int))) then(Option.bind (α:=Zv6 ⊕ (Zv4 ⊕ (Zv6 ⊕ Zv10))) (req (inb x14.1.2.2.1 (qg x10.1.1).length) (bif (((getD' (qg x10.1.1) ((x14.1.2.2.1).toNat) (0:Int))==95)&&(base==0)) then some (Sum.inl ((true,x14.1.2.1,()),()))
  else Option.bind (α:=Zv9 ⊕ (Zv6 ⊕ (Zv4 ⊕ (Zv6 ⊕ Zv10)))) (bif ((decide ((48:Int)≤(getD' (qg x10.1.1) ((x14.1.2.2.1).toNat) (0:Int))))&&(decide ((getD' (qg x10.1.1) ((x14.1.2.2.1).toNat) (0:Int))≤57))) then some (Sum.inl (((wu8 ((getD' (qg x10.1.1) ((x14.1.2.2.1).toNat) (0:Int))-48)),()),()))
  else bif ((decide ((97:Int)≤(qa (getD' (qg x10.1.1) ((x14.1.2.2.1).toNat) (0:Int)))))&&(decide ((qa (getD' (qg x10.1.1) ((x14.1.2.2.1).toNat) (0:Int)))≤122))) then some (Sum.inl (((wu8 ((wu8 ((qa (getD' (qg x10.1.1) ((x14.1.2.2.1).toNat) (0:Int)))-97))+10)),()),()))
  else none) (Sum.elim (fun x15 =>
  bif (decide (x15.1.1≥(wu8 x10.1.2.1))) then none
  else bif (decide (x14.1.2.1≥x13.1.1)) then none
  else bif ((decide ((wu64 ((wu64 (x14.1.2.1*(wu64 x10.1.2.1)))+(wu64 x15.1.1)))<(wu64 (x14.1.2.1*(wu64 x10.1.2.1)))))||(decide ((wu64 ((wu64 (x14.1.2.1*(wu64 x10.1.2.1)))+(wu64 x15.1.1)))>(wu64 ((shK .shl .u64 (1:Int) (wu64 x11.1.1))-1))))) then none
  else some (Sum.inl ((x14.1.1,(wu64 ((wu64 (x14.1.2.1*(wu64 x10.1.2.1)))+(wu64 x15.1.1))),()),()))) some))) (Sum.elim (fun x16 =>
  some (Sum.inl ((x16.1.1,x16.1.2.1,(w64 (x14.1.2.2.1+1)),()),()))) some))
  else some (Sum.inr (Sum.inl ((x14.1.1,x14.1.2.1,()),())))
def qx (s:ByteArray) (base:Int) (bitSize:Int):Option Zv10 :=
  bif (s.toList==(ByteArray.mk #[]).toList) then none
  else Option.bind (α:=(Zv8×(Unit)) ⊕ Zv10) (bif ((decide ((2:Int)≤base))&&(decide (base≤36))) then some (Sum.inl ((s,base,()),()))
  else bif (base==0) then(Option.bind (strAt s (0:Int)) fun c2 =>
  Option.bind (bif (((c2.toNat:Nat):Int)==48) then(Option.bind (gopt (decide (((s.size:Nat):Int)≥3)) 0 (strAt s (1:Int))) fun c3 =>
  Option.bind (bif ((decide (((s.size:Nat):Int)≥3))&&((qa ((c3.toNat:Nat):Int))==98)) then req (qh (2:Int) ((s.size:Nat):Int) s.size) (some (((s.extract 2 (((s.size:Nat):Int)).toNat),(2:Int),()),()))
  else Option.bind (gopt (decide (((s.size:Nat):Int)≥3)) 0 (strAt s (1:Int))) fun c4 =>
  Option.bind (bif ((decide (((s.size:Nat):Int)≥3))&&((qa ((c4.toNat:Nat):Int))==111)) then req (qh (2:Int) ((s.size:Nat):Int) s.size) (some (((s.extract 2 (((s.size:Nat):Int)).toNat),(8:Int),()),()))
  else Option.bind (gopt (decide (((s.size:Nat):Int)≥3)) 0 (strAt s (1:Int))) fun c5 =>
  Option.bind (bif ((decide (((s.size:Nat):Int)≥3))&&((qa ((c5.toNat:Nat):Int))==120)) then req (qh (2:Int) ((s.size:Nat):Int) s.size) (some (((s.extract 2 (((s.size:Nat):Int)).toNat),(16:Int),()),()))
  else req (qh (1:Int) ((s.size:Nat):Int) s.size) (some (((s.extract 1 (((s.size:Nat):Int)).toNat),(8:Int),()),()))) fun x6 =>
  some ((x6.1.1,x6.1.2.1,()),())) fun x7 =>
  some ((x7.1.1,x7.1.2.1,()),())) fun x8 =>
  some ((x8.1.1,x8.1.2.1,()),()))
  else some ((s,(10:Int),()),())) fun x9 =>
  some (Sum.inl ((x9.1.1,x9.1.2.1,()),())))
  else none) (Sum.elim (fun x10 =>
  Option.bind (α:=Zv9 ⊕ Zv10) (bif (bitSize==0) then some (Sum.inl (((64:Int),()),()))
  else bif ((decide (bitSize<0))||(decide (bitSize>64))) then none
  else some (Sum.inl ((bitSize,()),()))) (Sum.elim (fun x11 =>
  Option.bind (bif (x10.1.2.1==10) then some (((1844674407370955162:Int),()),())
  else Option.bind (bif (x10.1.2.1==16) then some (((1152921504606846976:Int),()),())
  else req ((wu64 x10.1.2.1)!=0) (some (((wu64 ((wu64 ((18446744073709551615:Int).tdiv (wu64 x10.1.2.1)))+1)),()),()))) fun x12 =>
  some ((x12.1.1,()),())) fun x13 =>
  req (decide (0≤(wu64 x11.1.1))) (req (Nat.ble x10.1.1.size 140737488355328) (Option.bind (α:=Zv6 ⊕ Zv10) (iterW (qn x10 base x13 x11) ((false,(0:Int),(0:Int),()),())) (Sum.elim (fun x17 =>
  Option.bind (gopt x17.1.1 false (qal s)) fun r18 =>
  bif (x17.1.1&&(!r18)) then none
  else some (x17.1.2.1,(false,()))) some)))) some)) some)
def qc4 (fn:ByteArray) (s:ByteArray) (base:Int) (bitSize:Int) (err:Bool):Option (Bool) :=
  none
def qaz (s:ByteArray) (base:Int) (bitSize:Int):Option Zv10 :=
  Option.bind (qx s base bitSize) fun r3 =>
  bif r3.2.1 then(Option.bind (qc4 (ByteArray.mk #[80,97,114,115,101,85,105,110,116]) s base bitSize r3.2.1) fun r4 =>
  some (r3.1,(r4,())))
  else some (r3.1,(false,()))
def qbI (s:ByteArray):Option (ByteArray) :=
  Option.bind (qhV s) fun r2 =>
  some r2
def qaB (s:ByteArray):Option (Zv8×Bool×Unit) :=
  Option.bind (gopt (!(decide (((s.size:Nat):Int)<17))) 0 (strAt s (16:Int))) fun c5 =>
  req (imp (!((decide (((s.size:Nat):Int)<17))||(((c5.toNat:Nat):Int)!=32))) (qh (0:Int) (16:Int) s.size)) (Option.bind (gopt (!((decide (((s.size:Nat):Int)<17))||(((c5.toNat:Nat):Int)!=32))) ByteArray.empty (trimS (s.extract 0 16) (ByteArray.mk #[48,49,50,51,52,53,54,55,56,57,97,98,99,100,101,102]))) fun r6 =>
  bif (((decide (((s.size:Nat):Int)<17))||(((c5.toNat:Nat):Int)!=32))||(!(r6.toList==(ByteArray.mk #[]).toList))) then some (((ByteArray.mk #[]),((0:Int),())),(false,()))
  else req (qh (0:Int) (16:Int) s.size) (Option.bind (qaz (s.extract 0 16) (16:Int) (64:Int)) fun r7 =>
  req (qh (17:Int) ((s.size:Nat):Int) s.size) (Option.bind (qbI (s.extract 17 (((s.size:Nat):Int)).toNat)) fun r8 =>
  some ((r8,(r7.1,())),((!r7.2.1),())))))
def qf (x1:(ByteArray×Zv5×Unit)×(Unit)):Option (Zv2 ⊕ Zv2) :=
  bif (decide (((x1.1.2.1.length:Nat):Int)<1000)) then(Option.bind (qaO x1.1.1 (ByteArray.mk #[10])) fun r2 =>
  bif (!r2.2.2.1) then some (Sum.inr ((x1.1.1,x1.1.2.1,()),()))
  else Option.bind (qaB r2.1) fun r3 =>
  Option.bind (gopt (!(!r3.2.1)) (0:Int) (qak x1.1.2.1)) fun r4 =>
  Option.bind (gopt (!(!r3.2.1)) (0:Int) (qk r4 r3.1)) fun r5 =>
  bif ((!r3.2.1)||(r5 !=0)) then some (Sum.inr ((x1.1.1,x1.1.2.1,()),()))
  else req (room (x1.1.2.1.length+([r3.1]).length) 24) (some (Sum.inl ((r2.2.1,(x1.1.2.1++[r3.1]),()),()))))
  else some (Sum.inr ((x1.1.1,x1.1.2.1,()),()))
def qI (s:ByteArray):Option (Zv5×ByteArray×Unit) :=
  Option.bind (iterW (qf) ((s,([]:List Zv8),()),())) fun x6 =>
  some (x6.1.2.1,(x6.1.1,()))
def qbt (s:ByteArray):Option (Zv5×Int×Unit) :=
  Option.bind (qI s) fun r6 =>
  bif (r6.2.1.toList==(ByteArray.mk #[]).toList) then some (r6.1,((0:Int),()))
  else bif (((r6.1.length:Nat):Int)==1000) then some (([]:List Zv8),((2:Int),()))
  else Option.bind (qaO r6.2.1 (ByteArray.mk #[10])) fun r7 =>
  Option.bind (qaB r7.1) fun r8 =>
  bif ((!r7.2.2.1)||(!r8.2.1)) then some (([]:List Zv8),((5:Int),()))
  else Option.bind (qak r6.1) fun r9 =>
  Option.bind (qk r9 r8.1) fun r10 =>
  some (([]:List Zv8),(r10,()))
def qd (s1:List Zv8) (s2:List Zv8) (x1:Zv12×(Unit)):Option (Zv9 ⊕ (Zv11 ⊕ Bool)) :=
  bif (decide (x1.1.1<((s1.length:Nat):Int))) then(Option.bind (at? s1 x1.1.1) fun d2 =>
  Option.bind (at? s2 x1.1.1) fun d3 =>
  bif (!((d2.1==d3.1)&&((d2.2.1==d3.2.1)&&true))) then some (Sum.inr (Sum.inr false))
  else some (Sum.inl (((w64 (x1.1.1+1)),()),())))
  else some (Sum.inr (Sum.inl ((),())))
def qi (s1:List Zv8) (s2:List Zv8):Option (Bool) :=
  bif (((s1.length:Nat):Int)!=((s2.length:Nat):Int)) then some false
  else Option.bind (α:=Zv11 ⊕ Bool) (iterW (qd s1 s2) (((0:Int),()),())) (Sum.elim (fun x4 =>
  some true) some)
def qB (l:List Zv8) (m:List Zv8):Option (Bool) :=
  req (imp (decide (((l.length:Nat):Int)≥((m.length:Nat):Int))) (qh (0:Int) ((m.length:Nat):Int) l.length)) (Option.bind (gopt (decide (((l.length:Nat):Int)≥((m.length:Nat):Int))) false (qi ((l.take (((m.length:Nat):Int)).toNat).drop 0) m)) fun r2 =>
  some ((decide (((l.length:Nat):Int)≥((m.length:Nat):Int)))&&r2))
def qeF (without:ByteArray) (s:ByteArray) (x1:Zv12×(Unit)) (x2:Zv12×(Unit)):Option (Zv9 ⊕ (Zv11 ⊕ (Zv11 ⊕ (Zv9 ⊕ (Zv11 ⊕ Bool))))) :=
  bif (decide (x2.1.1<(((qg without).length:Nat):Int))) then(req (inb x2.1.1 (qg without).length) (bif ((getD' (qg s) ((x1.1.1).toNat) (0:Int))==(getD' (qg without) ((x2.1.1).toNat) (0:Int))) then some (Sum.inr (Sum.inr (Sum.inr (Sum.inr (Sum.inr false)))))
  else some (Sum.inl (((w64 (x2.1.1+1)),()),()))))
  else some (Sum.inr (Sum.inl ((),())))
def qaA (s:ByteArray) (without:ByteArray) (x1:Zv12×(Unit)):Option (Zv9 ⊕ (Zv11 ⊕ Bool)) :=
  bif (decide (x1.1.1<(((qg s).length:Nat):Int))) then(Option.bind (α:=Zv11 ⊕ (Zv9 ⊕ (Zv11 ⊕ Bool))) (req (inb x1.1.1 (qg s).length) (req (Nat.ble without.size 140737488355328) (Option.bind (α:=Zv11 ⊕ (Zv11 ⊕ (Zv9 ⊕ (Zv11 ⊕ Bool)))) (iterW (qeF without s x1) (((0:Int),()),())) (Sum.elim (fun x3 =>
  bif ((decide ((getD' (qg s) ((x1.1.1).toNat) (0:Int))<32))||(decide ((getD' (qg s) ((x1.1.1).toNat) (0:Int))>126))) then some (Sum.inr (Sum.inr (Sum.inr false)))
  else some (Sum.inl ((),()))) some)))) (Sum.elim (fun x4 =>
  some (Sum.inl (((w64 (x1.1.1+1)),()),()))) some))
  else some (Sum.inr (Sum.inl ((),())))
def qer (s:ByteArray) (without:ByteArray):Option (Bool) :=
  req (Nat.ble s.size 140737488355328) (Option.bind (α:=Zv11 ⊕ Bool) (iterW (qaA s without) (((0:Int),()),())) (Sum.elim (fun x5 =>
  some true) some))
def qbS (x1:(Int×ByteArray×Int×Unit)×(Unit)):Option (((Int×ByteArray×Int×Unit)×(Unit)) ⊕ ((ByteArray×Unit)×(Unit))) :=
  bif (decide (x1.1.2.2.1<16)) then(Option.bind (strAt (ByteArray.mk #[48,49,50,51,52,53,54,55,56,57,97,98,99,100,101,102]) (x1.1.1.tmod 16)) fun c2 =>
  req (qH (Go.Utf8.encode ((c2.toNat:Nat):Int)) x1.1.2.1) (some (Sum.inl (((wu64 (x1.1.1.tdiv 16)),((Go.Utf8.encode ((c2.toNat:Nat):Int))++x1.1.2.1),(w64 (x1.1.2.2.1+1)),()),()))))
  else some (Sum.inr ((x1.1.2.1,()),()))
def qex (n:Int):Option (ByteArray) :=
  Option.bind (iterW (qbS) ((n,(ByteArray.mk #[]),(0:Int),()),())) fun x3 =>
  some x3.1.1
def qaD (s:ByteArray) (x1:(Int×Int×Unit)×(Unit)):Option (Zv7 ⊕ Zv9) :=
  bif (decide (x1.1.2.1≤((s.size:Nat):Int))) then(Option.bind (bif (decide (x1.1.2.1<((s.size:Nat):Int))) then(Option.bind (strAt s x1.1.2.1) fun c2 =>
  some (((wu64 ((c2.toNat:Nat):Int)),()),()))
  else some (((wu64 ((s.size:Nat):Int)),()),())) fun x3 =>
  some (Sum.inl (((wu64 ((wu64 ((shK .shl .u64 (ixor .u64 x1.1.1 x3.1.1) (40:Int))+(shK .shl .u64 (ixor .u64 x1.1.1 x3.1.1) (8:Int))))+(wu64 ((179:Int)*(ixor .u64 x1.1.1 x3.1.1))))),(w64 (x1.1.2.1+1)),()),())))
  else some (Sum.inr ((x1.1.1,()),()))
def qdJ (before:Int) (s:ByteArray):Option (Int) :=
  Option.bind (iterW (qaD s) (((ixor .u64 before (14695981039346656037:Int)),(0:Int),()),())) fun x4 =>
  some x4.1.1
end
noncomputable def qbF:Option (Bool) :=
  Option.bind (qW ([]:List Zv8) (ByteArray.mk #[97])) fun r3 =>
  req (imp ((r3.2.1==0)&&(((r3.1.length:Nat):Int)==1)) (inb (0:Int) r3.1.length)) (Option.bind (gopt ((r3.2.1==0)&&(((r3.1.length:Nat):Int)==1)) (0:Int) (qdJ (0:Int) (ByteArray.mk #[97]))) fun r4 =>
  some (((r3.2.1==0)&&(((r3.1.length:Nat):Int)==1))&&(((getD' r3.1 0 (ByteArray.empty,((0:Int),()))).2).1==r4)))
noncomputable def ql (texts:List ByteArray) (x12:Zv1×(Unit)):Option ((Zv1×(Unit)) ⊕ (Zv3 ⊕ Bool)) :=
  bif (decide (x12.1.2.2.2.1<((((texts.take ((if (30:Int)<((texts.length:Nat):Int) then(30:Int) else((texts.length:Nat):Int))).toNat).drop 0).length:Nat):Int))) then(Option.bind (at? ((texts.take ((if (30:Int)<((texts.length:Nat):Int) then(30:Int) else((texts.length:Nat):Int))).toNat).drop 0) x12.1.2.2.2.1) fun d13 =>
  Option.bind (qW x12.1.1 d13) fun r14 =>
  bif (decide (((d13.size:Nat):Int)>200)) then some (Sum.inr (Sum.inr ((r14.2.1==2)&&(((r14.1.length:Nat):Int)==0))))
  else Option.bind (qer d13 (ByteArray.mk #[])) fun r15 =>
  bif (!r15) then some (Sum.inr (Sum.inr ((r14.2.1==3)&&(((r14.1.length:Nat):Int)==0))))
  else Option.bind (qdJ x12.1.2.1 d13) fun r16 =>
  Option.bind (qex r16) fun r17 =>
  req (qH r17 (ByteArray.mk #[32])) (req (qH (r17++(ByteArray.mk #[32])) d13) (req (qH ((r17++(ByteArray.mk #[32]))++d13) (ByteArray.mk #[10])) (req (qH x12.1.2.2.1 (((r17++(ByteArray.mk #[32]))++d13)++(ByteArray.mk #[10]))) (req (imp (!((r14.2.1 !=0)||(((r14.1.length:Nat):Int)!=(w64 (((x12.1.1.length:Nat):Int)+1))))) (inb ((x12.1.1.length:Nat):Int) r14.1.length)) (Option.bind (gopt (!(((r14.2.1 !=0)||(((r14.1.length:Nat):Int)!=(w64 (((x12.1.1.length:Nat):Int)+1))))||(!(((getD' r14.1 ((((x12.1.1.length:Nat):Int)).toNat) (ByteArray.empty,((0:Int),()))).1==d13)&&((((getD' r14.1 ((((x12.1.1.length:Nat):Int)).toNat) (ByteArray.empty,((0:Int),()))).2).1==r16)&&true))))) (0:Int) (qZ (0:Int) d13)) fun r18 =>
  Option.bind (gopt (!(((r14.2.1 !=0)||(((r14.1.length:Nat):Int)!=(w64 (((x12.1.1.length:Nat):Int)+1))))||(!(((getD' r14.1 ((((x12.1.1.length:Nat):Int)).toNat) (ByteArray.empty,((0:Int),()))).1==d13)&&((((getD' r14.1 ((((x12.1.1.length:Nat):Int)).toNat) (ByteArray.empty,((0:Int),()))).2).1==r16)&&true))))) (0:Int) (qdJ (0:Int) d13)) fun r19 =>
  bif ((((r14.2.1 !=0)||(((r14.1.length:Nat):Int)!=(w64 (((x12.1.1.length:Nat):Int)+1))))||(!(((getD' r14.1 ((((x12.1.1.length:Nat):Int)).toNat) (ByteArray.empty,((0:Int),()))).1==d13)&&((((getD' r14.1 ((((x12.1.1.length:Nat):Int)).toNat) (ByteArray.empty,((0:Int),()))).2).1==r16)&&true))))||(r18 !=r19)) then some (Sum.inr (Sum.inr false))
  else some (Sum.inl ((r14.1,r16,(x12.1.2.2.1++(((r17++(ByteArray.mk #[32]))++d13)++(ByteArray.mk #[10]))),(w64 (x12.1.2.2.2.1+1)),()),()))))))))
  else some (Sum.inr (Sum.inl ((x12.1.1,x12.1.2.2.1,()),())))
noncomputable def qbi (texts:List ByteArray) (at':Int) (by':Int) (s:ByteArray):Option (Bool) :=
  Option.bind (qbF) fun r11 =>
  bif (!r11) then some false
  else req (qh (0:Int) (if (30:Int)<((texts.length:Nat):Int) then(30:Int) else((texts.length:Nat):Int)) texts.length) (Option.bind (α:=Zv3 ⊕ Bool) (iterW (ql texts) ((([]:List Zv8),(0:Int),(ByteArray.mk #[]),(0:Int),()),())) (Sum.elim (fun x20 =>
  Option.bind (qa4 x20.1.1) fun r21 =>
  Option.bind (qbt r21.1) fun r22 =>
  req (qH r21.1 s) (Option.bind (qI (r21.1++s)) fun r23 =>
  Option.bind (gopt (!((((((r21.2.1 !=0)||(!(r21.1.toList==x20.1.2.1.toList)))||(r22.2.1 !=0))||(((r22.1.length:Nat):Int)!=((x20.1.1.length:Nat):Int)))||(decide (((r23.1.length:Nat):Int)<((x20.1.1.length:Nat):Int))))||((((r23.1.length:Nat):Int)==((x20.1.1.length:Nat):Int))&&(!(r23.2.1.toList==s.toList))))) (0:Int) (qJ x20.1.1)) fun r24 =>
  bif (((((((r21.2.1 !=0)||(!(r21.1.toList==x20.1.2.1.toList)))||(r22.2.1 !=0))||(((r22.1.length:Nat):Int)!=((x20.1.1.length:Nat):Int)))||(decide (((r23.1.length:Nat):Int)<((x20.1.1.length:Nat):Int))))||((((r23.1.length:Nat):Int)==((x20.1.1.length:Nat):Int))&&(!(r23.2.1.toList==s.toList))))||(r24 !=((x20.1.1.length:Nat):Int))) then some false
  else bif ((((x20.1.1.length:Nat):Int)==0)||(by'==0)) then some true
  else req (((x20.1.1.length:Nat):Int)!=0) (req (((x20.1.1.length:Nat):Int)!=0) (req (room (([]:List Zv8).length+x20.1.1.length) 24) (req (inb ((w64 ((at'.tmod ((x20.1.1.length:Nat):Int))+((x20.1.1.length:Nat):Int))).tmod ((x20.1.1.length:Nat):Int)) (([]:List Zv8)++x20.1.1).length) (req (inb ((w64 ((at'.tmod ((x20.1.1.length:Nat):Int))+((x20.1.1.length:Nat):Int))).tmod ((x20.1.1.length:Nat):Int)) (([]:List Zv8)++x20.1.1).length) (Option.bind (qJ ((([]:List Zv8)++x20.1.1).set ((((w64 ((at'.tmod ((x20.1.1.length:Nat):Int))+((x20.1.1.length:Nat):Int))).tmod ((x20.1.1.length:Nat):Int))).toNat) ((getD' (([]:List Zv8)++x20.1.1) ((((w64 ((at'.tmod ((x20.1.1.length:Nat):Int))+((x20.1.1.length:Nat):Int))).tmod ((x20.1.1.length:Nat):Int))).toNat) (ByteArray.empty,((0:Int),()))).1,((ixor .u64 ((getD' (([]:List Zv8)++x20.1.1) ((((w64 ((at'.tmod ((x20.1.1.length:Nat):Int))+((x20.1.1.length:Nat):Int))).tmod ((x20.1.1.length:Nat):Int))).toNat) (ByteArray.empty,((0:Int),()))).2).1 by'),())))) fun r25 =>
  Option.bind (gopt (r25==((w64 ((at'.tmod ((x20.1.1.length:Nat):Int))+((x20.1.1.length:Nat):Int))).tmod ((x20.1.1.length:Nat):Int))) (0:Int) (qQ ((([]:List Zv8)++x20.1.1).set ((((w64 ((at'.tmod ((x20.1.1.length:Nat):Int))+((x20.1.1.length:Nat):Int))).tmod ((x20.1.1.length:Nat):Int))).toNat) ((getD' (([]:List Zv8)++x20.1.1) ((((w64 ((at'.tmod ((x20.1.1.length:Nat):Int))+((x20.1.1.length:Nat):Int))).tmod ((x20.1.1.length:Nat):Int))).toNat) (ByteArray.empty,((0:Int),()))).1,((ixor .u64 ((getD' (([]:List Zv8)++x20.1.1) ((((w64 ((at'.tmod ((x20.1.1.length:Nat):Int))+((x20.1.1.length:Nat):Int))).tmod ((x20.1.1.length:Nat):Int))).toNat) (ByteArray.empty,((0:Int),()))).2).1 by'),()))))) fun r26 =>
  bif ((r25==((w64 ((at'.tmod ((x20.1.1.length:Nat):Int))+((x20.1.1.length:Nat):Int))).tmod ((x20.1.1.length:Nat):Int)))&&(r26==15)) then(req (qh (0:Int) ((w64 ((at'.tmod ((x20.1.1.length:Nat):Int))+((x20.1.1.length:Nat):Int))).tmod ((x20.1.1.length:Nat):Int)) x20.1.1.length) (Option.bind (qB x20.1.1 ((x20.1.1.take (((w64 ((at'.tmod ((x20.1.1.length:Nat):Int))+((x20.1.1.length:Nat):Int))).tmod ((x20.1.1.length:Nat):Int))).toNat).drop 0)) fun r27 =>
  Option.bind (gopt r27 false (qB x20.1.1 ((([]:List Zv8)++x20.1.1).set ((((w64 ((at'.tmod ((x20.1.1.length:Nat):Int))+((x20.1.1.length:Nat):Int))).tmod ((x20.1.1.length:Nat):Int))).toNat) ((getD' (([]:List Zv8)++x20.1.1) ((((w64 ((at'.tmod ((x20.1.1.length:Nat):Int))+((x20.1.1.length:Nat):Int))).tmod ((x20.1.1.length:Nat):Int))).toNat) (ByteArray.empty,((0:Int),()))).1,((ixor .u64 ((getD' (([]:List Zv8)++x20.1.1) ((((w64 ((at'.tmod ((x20.1.1.length:Nat):Int))+((x20.1.1.length:Nat):Int))).tmod ((x20.1.1.length:Nat):Int))).toNat) (ByteArray.empty,((0:Int),()))).2).1 by'),()))))) fun r28 =>
  some (r27&&(!r28))))
  else Option.bind (gopt false false (qB x20.1.1 ((([]:List Zv8)++x20.1.1).set ((((w64 ((at'.tmod ((x20.1.1.length:Nat):Int))+((x20.1.1.length:Nat):Int))).tmod ((x20.1.1.length:Nat):Int))).toNat) ((getD' (([]:List Zv8)++x20.1.1) ((((w64 ((at'.tmod ((x20.1.1.length:Nat):Int))+((x20.1.1.length:Nat):Int))).tmod ((x20.1.1.length:Nat):Int))).toNat) (ByteArray.empty,((0:Int),()))).1,((ixor .u64 ((getD' (([]:List Zv8)++x20.1.1) ((((w64 ((at'.tmod ((x20.1.1.length:Nat):Int))+((x20.1.1.length:Nat):Int))).tmod ((x20.1.1.length:Nat):Int))).toNat) (ByteArray.empty,((0:Int),()))).2).1 by'),()))))) fun r29 =>
  some false))))))) some))
end Go.Proofs.YtlfpfiplndkofaaDoor
namespace Go.Den
open Go.Eng Go.Proofs Go.Shelf Go.RowKit
set_option linter.unusedVariables false
set_option linter.unusedSectionVars false
set_option linter.unusedSimpArgs false
variable [CT : Ctx]
variable {P : Program} {ρ : Ren}

theorem ck_of (L:Lays.n240 P ρ) (X:Builder.X72 P ρ):CkOK P (ρ.f 240) (ρ.t 72):=by
  intro w b p v hheap hp;rcases hp with rfl | rfl
  · refine(Any.Builder_copyCheck_fresh L X b w (by simp[World.cell?,hheap]) (by simp[World.shape?,hheap]) (by simp[World.frozen?,hheap])).mono ?_
    rintro e w' ⟨rfl,rfl⟩
    have hs:=setCell_eq_setRow w b 0 #[.pointer none,v] (ρ.t 72) (0,0) (.pointer (some ⟨b,0,none⟩)) hheap;rw[hs];exact⟨rfl,qcN,setRow_heap w b _ _ (ρ.t 72) (0,0) hheap⟩
  · refine(Any.Builder_copyCheck_used L X b w (by simp[World.cell?,hheap])).mono ?_
    rintro e w' ⟨rfl,rfl⟩
    exact⟨rfl,Chg.refl _ _,hheap⟩
theorem qgF (w:World):∀(l:List Int) (a:Addr) (acc:ByteArray),(∀(j:Nat) x,l[j]?=some x→w.cell? (a.add j)=some (.int .u8 x))→(loadBytes a acc l.length).run P w = .ok (l.foldl (fun r n=>r.push (UInt8.ofNat n.toNat)) acc) w
  | [],a,acc,_=>by simp[loadBytes]
  | x::l,a,acc,h=>by
    have h0:w.cell? a=some (.int .u8 x):=by
      have:=h 0 x rfl;simpa[Addr.add] using this
    have ih:=qgF w l (a.add 1) (acc.push (UInt8.ofNat x.toNat)) (fun j y hy=>by
      have:=h (j+1) y (by simpa using hy);rw[qgm,Nat.add_comm]
      exact this)
    simp only[List.length_cons,loadBytes,Sem.run_bind,run_load,h0,Result.andThen];exact ih
theorem qik (w:World) (pt it ty e:TypeId) (hp:P.underlying pt=some (.pointer e)) (hc:P.cellsOf e=1) (g cells:Nat) (hsh:w.shape? g=some (e,cells)) (l:List Int) (h0:l≠[]) (hn:l.length≤cells) (h63:l.length≤9223372036854775807)
    (hcell:∀(j:Nat) x,l[j]?=some x→w.cell? ((⟨g,0,none⟩:Addr).add j)=some (.int .u8 x)) :
    (Builtin.unsafeString_ #[pt,it] ty #[.pointer (some ⟨g,0,none⟩),.int .i64 l.length]).run P w = .ok (Value.string (strOf l)) (w.freeze ⟨g,0,none⟩ l.length):=by
  have hl:l.length≠0:=by simpa using h0
  have hlb:=qgF (P:=P) w l ⟨g,0,none⟩ .empty hcell;have hlies:=Lib.liesAt_bytes (P:=P) hc (cells / P.cellsOf e) l.length (by rw[hc];simpa using hn)
  have h63':¬(9223372036854775807:Int)<(l.length:Int):=by omega
  have hmax:IntKind.i64.max=9223372036854775807:=rfl
  have hneg:¬(l.length:Int)<0:=by omega
  have hstr:strOf l=l.foldl (fun r n=>r.push (UInt8.ofNat n.toNat)) ByteArray.empty:=rfl;rw[hstr];refine(congrArg (fun s=>Sem.run P s w) (show Builtin.unsafeString_ #[pt,it] ty #[.pointer (some ⟨g,0,none⟩),.int .i64 l.length]=(Go.asInt (.int .i64 l.length) >>= _) from rfl)).trans ?_;simp[Go.asInt,asIntOf,hmax,h63',hneg,hl,variablesAt,hsh,Go.elemOf,run_underlying hp,hlies,hlb]
theorem qim (w:World) (g n:Nat):Chg [g] w (w.drew.freeze ⟨g,0,none⟩ n):=by
  by_cases h0:n=0
  · subst h0;exact(Chg.drewN w 1).mono (by simp)
  · unfold World.freeze;rw[if_neg h0];refine⟨rfl,rfl,rfl,by simp,fun k hk hn=>?_,fun _=>Nat.le_succ _⟩;have hne:¬g=k:=fun e=>hn (by simp[e]);simp[Array.getElem?_modify,hne];rfl
set_option maxHeartbeats 2000000 in
set_option maxRecDepth 100000 in
theorem bs_row (L:Lays.n169 P ρ) (X:Builder.Extra P ρ) (w:World) (b g n cap:Nat) (p r:Value) (W:World) (hch:Chg [g] w W) (hbk:w.heap[b]?=some (.cells #[p,.slice (some ⟨g,0,none⟩) n cap] (ρ.t 72) (0,0))) (hcap:cap≠0)
    (hUS:(Builtin.unsafeString_ #[(ρ.t 127),(ρ.t 3)] (ρ.t 9) #[.pointer (some ⟨g,0,none⟩),.int .i64 n]).run P w.drew = .ok r W) :
    Calls P (ρ.f 169) #[.pointer (some ⟨b,0,none⟩)] w fun e w'=>e = .returned r∧Chg [g] w w':=by
  have c1:w.drew.cell? ⟨b,1,none⟩=some (.slice (some ⟨g,0,none⟩) n cap):=by
    have:w.drew.heap[b]?=some (.cells #[p,.slice (some ⟨g,0,none⟩) n cap] (ρ.t 72) (0,0)):=hbk;rw[Lib.cell_of_heap this];rfl
  have hSD:(Builtin.unsafeSliceData_ #[(ρ.t 37)] (ρ.t 127) #[.slice (some ⟨g,0,none⟩) n cap]).run P w.drew = .ok (.pointer (some ⟨g,0,none⟩)) w.drew:=Lib.run_unsafeSliceData_row _ _ _ _ _ _ hcap;have mixed:=L.mixed;have t72:=L.t72;have a72:=L.a72;have z72:=L.z72;have v72:=L.v72;have u72:=run_underlying L.t72;have t70:=L.t70;have a70:=L.a70;have z70:=L.z70;have v70:=L.v70;have u70:=run_underlying L.t70;have t37:=L.t37;have a37:=L.a37;have z37:=L.z37;have v37:=L.v37;have u37:=run_underlying L.t37;have t127:=L.t127;have a127:=L.a127;have z127:=L.z127;have v127:=L.v127;have u127:=run_underlying L.t127;have t3:=L.t3;have a3:=L.a3;have z3:=L.z3;have v3:=L.v3;have u3:=run_underlying L.t3;have t9:=L.t9;have a9:=L.a9;have z9:=L.z9;have v9:=L.v9;have u9:=run_underlying L.t9
  have t5:=X.t5;have a5:=X.a5;have z5:=X.z5;have v5:=X.v5;have u5:=run_underlying X.t5;clear hcap
  go_enter L.f169,Body.n169_ntmps ρ
  go_wp2
  go_region_o
  all_goals (go_wp2;go_ret;exact⟨rfl,hch⟩)
set_option maxHeartbeats 2000000 in
set_option maxRecDepth 100000 in
theorem bs_nil (L:Lays.n169 P ρ) (X:Builder.Extra P ρ) (w:World) (b:Nat) (p:Value) (hbk:w.heap[b]?=some (.cells #[p,.slice none 0 0] (ρ.t 72) (0,0))) :
    Calls P (ρ.f 169) #[.pointer (some ⟨b,0,none⟩)] w fun e w'=>e = .returned (.string .empty)∧Chg [] w w':=by
  have hUS:=Any.unsafeString_none L X;have c1:w.drew.cell? ⟨b,1,none⟩=some (.slice none 0 0):=by
    have:w.drew.heap[b]?=some (.cells #[p,.slice none 0 0] (ρ.t 72) (0,0)):=hbk;rw[Lib.cell_of_heap this];rfl
  have hSD:(Builtin.unsafeSliceData_ #[(ρ.t 37)] (ρ.t 127) #[.slice none 0 0]).run P w.drew = .ok (.pointer none) w.drew:=rfl;have hch:Chg [] w w.drew:=Chg.drewN w 1;have mixed:=L.mixed;have t72:=L.t72;have a72:=L.a72;have z72:=L.z72;have v72:=L.v72;have u72:=run_underlying L.t72;have t70:=L.t70;have a70:=L.a70;have z70:=L.z70;have v70:=L.v70;have u70:=run_underlying L.t70;have t37:=L.t37;have a37:=L.a37;have z37:=L.z37;have v37:=L.v37;have u37:=run_underlying L.t37;have t127:=L.t127;have a127:=L.a127;have z127:=L.z127;have v127:=L.v127;have u127:=run_underlying L.t127;have t3:=L.t3;have a3:=L.a3;have z3:=L.z3;have v3:=L.v3;have u3:=run_underlying L.t3;have t9:=L.t9;have a9:=L.a9;have z9:=L.z9;have v9:=L.v9;have u9:=run_underlying L.t9
  have t5:=X.t5;have a5:=X.a5;have z5:=X.z5;have v5:=X.v5;have u5:=run_underlying X.t5
  go_enter L.f169,Body.n169_ntmps ρ
  go_wp2
  go_region_o
  all_goals (go_wp2;go_ret;exact⟨rfl,hch⟩)
theorem bs_of (L:Lays.n169 P ρ) (X:Builder.Extra P ρ):BsOK P (ρ.f 169) (ρ.t 72) (ρ.t 5):=by
  intro w b p v M xs hheap hne hown hb;rcases hown with ⟨rfl,⟨ao,rfl⟩,h0,h4⟩ | ⟨g,cap,cur,rfl,rfl,hh,h4,h5,h6,h7⟩
  · have hx:xs=[]:=List.length_eq_zero_iff.1 h0;subst hx;have:ao=none:=by
      rcases hne with h | ⟨a,n,c,h,hc⟩
      · simp at h;exact h
      · simp at h;exact absurd h.2.2.symm hc
    subst this;exact bs_nil L X w b p hheap
  · by_cases hx:xs=[]
    · subst hx;have hcap:cap≠0:=by
        rcases hne with h | ⟨a,n,c,h,hc⟩
        · simp at h
        · simp at h;rw[h.2.2];exact hc
      refine bs_row L X w b g 0 cap p (.string .empty) w.drew ((Chg.drewN w 1).mono (by simp)) hheap hcap ?_;exact Any.unsafeString_none L X w.drew (some ⟨g,0,none⟩)
    · have hpos:0<xs.length:=List.length_pos_iff.2 hx;rw[Nat.mul_one] at h6 h7;obtain⟨fz,hg,_⟩:=hh;refine bs_row L X w b g xs.length cap p (.string (strOf xs)) (w.drew.freeze ⟨g,0,none⟩ xs.length) (qim w g _) hheap (by omega) ?_;refine qik w.drew (ρ.t 127) (ρ.t 3) (ρ.t 9) (ρ.t 5) L.t127 X.cellsByte g cur.size (by have hg':w.drew.heap[g]?=some (.cells cur (ρ.t 5) fz):=hg;simp[World.shape?,hg']) xs hx (by omega) (by unfold maxLen at h5;omega) ?_;intro j x hj;have hlt:j<xs.length:=(List.getElem?_eq_some_iff.1 hj).1;rw[qaP,Nat.zero_add];have hg':w.drew.heap[g]?=some (.cells cur (ρ.t 5) fz):=hg;simp only[World.cell?,hg'];have:cur.toList[j]?=some (.int .u8 x):=by
        have h8:(cur.toList.take xs.length)[j]?=(xs.map (Value.int .u8))[j]?:=by rw[h7]
        rw[List.getElem?_take,if_pos hlt,List.getElem?_map,hj] at h8;exact h8
      simpa using this
end Go.Den
namespace Go.Den
set_option linter.unusedVariables false
set_option linter.unusedSimpArgs false

theorem qd2 {T α:Type} {f:T→Option (T ⊕ α)}:∀ {n m:Nat} {x:T} {r:α},iterN f n x=some r→n≤m→iterN f m x=some r
  | 0,_,_,_,h,_=>by simp[iterN] at h
  | n+1,0,_,_,_,h=>by omega
  | n+1,m+1,x,r,h,hm=>by
    simp only[iterN] at h ⊢
    match hf:f x with
    | none=>simp[hf] at h
    | some (.inr q)=>simp only[hf] at h ⊢;exact h
    | some (.inl y)=>simp only[hf] at h ⊢;exact qd2 h (by omega)
theorem qf5 {T α:Type} {f:T→Option (T ⊕ α)} {n:Nat} {x:T} {r:α} (h:iterN f n x=some r):iterW f x=some r:=by
  have hx:∃n,(iterN f n x).isSome=true:=⟨n,by rw[h];rfl⟩;unfold iterW;rw[dif_pos hx];obtain⟨q,hq⟩:=Option.isSome_iff_exists.1 (Classical.choose_spec hx);rw[hq];rcases Nat.le_total n (Classical.choose hx) with hl | hl
  · rw[←hq,qd2 h hl]
  · rw[←h,qd2 hq hl]
theorem qgU {T α:Type} {f:T→Option (T ⊕ α)} {x:T} {r:α} (h:iterW f x=some r):∃n,iterN f n x=some r:=by
  unfold iterW at h;split at h
  · exact⟨_,h⟩
  · cases h
theorem qC {T α:Type} {f:T→Option (T ⊕ α)} {x y:T} (h:f x=some (.inl y)):iterW f x=iterW f y:=by
  cases hy:iterW f y with
  | some r =>
    obtain⟨n,hn⟩:=qgU hy;exact qf5 (n:=n+1) (by simp[iterN,h,hn])
  | none =>
    cases hx:iterW f x with
    | none=>rfl
    | some r =>
      obtain⟨n,hn⟩:=qgU hx
      cases n with
      | zero=>simp[iterN] at hn
      | succ n =>
        simp only[iterN,h] at hn;rw[qf5 hn] at hy;cases hy
theorem qt {T α:Type} {f:T→Option (T ⊕ α)} {x:T} {r:α} (h:f x=some (.inr r)):iterW f x=some r:=qf5 (n:=1) (by simp[iterN,h])
theorem qaZ {n:Int} (h1 : -9223372036854775808≤n) (h2:n≤9223372036854775807):w64 n=n:=by
  simp[w64,IntKind.wrap,IntKind.signed,IntKind.bits];omega
theorem qdK {n b:Nat} (h:n*b≤140737488355328):room n b=true:=Nat.ble_eq_true_of_le h
theorem beq_f {α:Type} [BEq α] [LawfulBEq α] {a b:α} (h:¬a=b):(a==b)=false:=by simpa using h
theorem bne_t {α:Type} [BEq α] [LawfulBEq α] {a b:α} (h:¬a=b):(a !=b)=true:=by simpa using h
theorem bne_f {α:Type} [BEq α] [LawfulBEq α] {a b:α} (h:a=b):(a !=b)=false:=by simpa using h
theorem qe {α:Type} (x:Option α):req true x=x:=rfl
theorem at?_eq {α:Type} (xs:List α) (i:Int) (h0:0≤i) (h1:i<(xs.length:Int)):at? xs i=some (xs[i.toNat]'(by omega)):=by
  simp[at?,h0,List.getElem?_eq_getElem (show i.toNat<xs.length by omega)]
theorem inb_iff {i:Int} {n:Nat}:inb i n=true↔0≤i∧i<(n:Int):=by simp[inb]
end Go.Den
namespace Go.Proofs.YtlfpfiplndkofaaDoor
open Go.Den
set_option linter.unusedVariables false
set_option linter.unusedSimpArgs false
set_option maxRecDepth 100000

theorem agree_self {α:Type} (x:Option α):agree x x=x:=by simp[agree]
end Go.Proofs.YtlfpfiplndkofaaDoor
namespace Go.Proofs.YtlfpfiplndkofaaDoor
open Go.Den
set_option linter.unusedVariables false
set_option linter.unusedSimpArgs false
set_option maxRecDepth 100000

theorem ltd {A:Type} (xs:List A) (i:Nat) (hi:i<xs.length):decide ((i:Int)<((xs.length:Nat):Int))=true:=by simp;omega
theorem nltd {A:Type} (xs:List A):decide (((xs.length:Nat):Int)<((xs.length:Nat):Int))=false:=by simp
end Go.Proofs.YtlfpfiplndkofaaDoor
namespace Go.Proofs.YtlfpfiplndkofaaDoor
open Go.Den
set_option linter.unusedVariables false
set_option linter.unusedSimpArgs false
set_option maxRecDepth 100000

theorem qbN {A:Type} (xs:List A) (i:Nat) (h:i<xs.length):at? xs (i:Int)=some xs[i]:=by
  rw[at?_eq xs _ (Int.natCast_nonneg i) (Int.ofNat_lt.2 h)];simp only[Int.toNat_natCast]
end Go.Proofs.YtlfpfiplndkofaaDoor
namespace Go.Proofs.YtlfpfiplndkofaaDoor
open Go.Den
set_option linter.unusedVariables false
set_option linter.unusedSimpArgs false
set_option maxRecDepth 100000

theorem qd9 {a b:ByteArray} (h:a.data.toList=b.data.toList):a=b:=by
  obtain⟨⟨l⟩⟩:=a;obtain⟨⟨k⟩⟩:=b;simp only at h;rw[h]
theorem qbR (a b:ByteArray):(a++b).data.toList=a.data.toList++b.data.toList:=by simp[ByteArray.data_append]
theorem qo (a:ByteArray):a.size=a.data.toList.length:=by
  rw[Array.length_toList];rfl
theorem qia (s:ByteArray) (a b:Nat):(s.extract a b).data.toList=(s.data.toList.take b).drop a:=by
  rw[ByteArray.data_extract,Array.toList_extract];rw[List.extract_eq_take_drop,List.drop_take]
theorem ib_none (c:UInt8):∀l:List UInt8,c∉l→Go.Lib.indexByte l c = -1
  | [],_=>rfl
  | b::l,h=>by
    have hb:(b==c)=false:=by rw[beq_eq_false_iff_ne];exact fun e=>h (by simp[e])
    unfold Go.Lib.indexByte;rw[hb,ib_none c l (fun e=>h (List.mem_cons_of_mem _ e))];rfl
theorem qhM (c:UInt8) (r:List UInt8):∀l:List UInt8,c∉l→Go.Lib.indexByte (l++c::r) c=l.length
  | [],_=>by simp[Go.Lib.indexByte]
  | b::l,h=>by
    have hb:(b==c)=false:=by rw[beq_eq_false_iff_ne];exact fun e=>h (by simp[e])
    rw[List.cons_append];unfold Go.Lib.indexByte;rw[hb,qhM c r l (fun e=>h (List.mem_cons_of_mem _ e))]
    have:((l.length:Int) == -1)=false:=by rw[beq_eq_false_iff_ne];omega
    rw[this,if_neg (by decide),if_neg (by decide),List.length_cons];omega
end Go.Proofs.YtlfpfiplndkofaaDoor
namespace Go.Proofs.YtlfpfiplndkofaaDoor
open Go.Den
set_option linter.unusedVariables false
set_option linter.unusedSimpArgs false
set_option maxRecDepth 100000

def OKT (s:ByteArray):Prop:=s.size≤200∧∀c∈s.data.toList,32≤c.toNat∧c.toNat≤126
theorem qdG {s:ByteArray} (h:OKT s):qm s=0:=by
  unfold qm;rw[if_neg (by have:=h.1;omega)];have:∀(f pos:Nat),Go.Lib.idxFuncFrom qat true s f pos = -1:=by
    intro f
    induction f with
    | zero=>intro pos;rfl
    | succ f ih =>
      intro pos;unfold Go.Lib.idxFuncFrom;by_cases hp:pos<s.size
      · have hm:=h.2 s[pos] (by
          rw[List.mem_iff_getElem]
          exact⟨pos,by rw[←qo];exact hp,rfl⟩)
        have hd:=decode_ascii s pos hp (by omega);rw[if_pos hp,hd,ih];have:qat (s[pos]'hp).toNat=false:=by
          unfold qat;simp only[Bool.or_eq_false_iff,decide_eq_false_iff_not];omega
        rw[this];rfl
      · rw[if_neg hp]
  unfold Go.Lib.idxFunc;rw[this];rfl
abbrev Jn:=List (ByteArray×Int×Unit)
noncomputable def sumJ (b:Int) (s:ByteArray):Int:=(qZ b s).getD 0
theorem qbd (b:Int) (s:ByteArray) (hs:s.size≤1000000):qZ b s=some (sumJ b s):=by
  have:∃v,qZ b s=some v:=by
    unfold qZ;have key:∀(k i:Nat) (h:Int),i+k=s.size→∃h',iterW (qs s) ((h,(i:Int),()),())=some ((h',()),()):=by
      intro k
      induction k with
      | zero =>
        intro i h hi
        have:i=s.size:=by omega
        subst this;refine⟨h,qt ?_⟩;unfold qs;simp
      | succ k ih =>
        intro i h hi;obtain⟨c,hc⟩:∃c,strAt s (i:Int)=some c:=by
          have hi2:i<s.size:=by omega
          refine⟨s[i],?_⟩;unfold strAt;rw[show decide ((0:Int)≤(i:Int))=true by simp,cond_true,Int.toNat_natCast];simp[hi2]
        have e:qs s ((h,(i:Int),()),())=some (.inl ((wu64 ((ixor .u64 h (wu64 ((c.toNat:Nat):Int)))*1099511628211),((i+1:Nat):Int),()),())):=by
          unfold qs;simp only[show decide ((i:Int)<((s.size:Nat):Int))=true by simp;omega,cond_true];rw[hc,Option.bind_some,qaZ (by omega) (by omega)];rfl
        rw[qC e];exact ih (i+1) _ (by omega)
    obtain⟨h',hh⟩:=key s.size 0 (ixor .u64 b 14695981039346656037) (by omega);have hh':iterW (qs s) (((ixor .u64 b 14695981039346656037),(0:Int),()),())=_:=hh;rw[hh',Option.bind_some];exact⟨_,rfl⟩
  obtain⟨v,hv⟩:=this;unfold sumJ;rw[hv];rfl
def lastJ (l:Jn):Int:=match l.getLast? with
  | some x=>x.2.1
  | none=>0
theorem qaT (l:Jn) (hl:l.length≤1000000):qak l=some (lastJ l):=by
  unfold qak lastJ;by_cases h:l=[]
  · subst h;rfl
  · have h0:0<l.length:=List.length_pos_iff.2 h;rw[beq_f (by omega),cond_false,qaZ (by omega) (by omega),show((l.length:Nat):Int)-1=((l.length-1:Nat):Int) by omega,qbN l _ (by omega),Option.bind_some,List.getLast?_eq_getElem?,List.getElem?_eq_getElem (by omega)]
def JOK (l:Jn):Prop:=l.length≤1000∧∀i (hi:i<l.length),OKT l[i].1∧l[i].2.1=sumJ (lastJ (l.take i)) l[i].1
theorem good_ok {l:Jn} (h:JOK l):qJ l=some ((l.length:Nat):Int):=by
  unfold qJ;have hlen:=h.1;have step:∀i (hi:i<l.length),qr l (((i:Int),()),())=some (.inl ((((i+1:Nat):Int),()),())):=by
    intro i hi;obtain⟨h1,h2⟩:=h.2 i hi;unfold qr;have hne:((i:Int)==1000)=false:=beq_f (by omega);simp only[ltd l i hi,cond_true];rw[qbN l i hi,Option.bind_some];have hb:qh 0 (i:Int) l.length=true:=by
      simp only[qh,Bool.and_eq_true,decide_eq_true_eq];omega
    simp only[hne,Bool.not_false,imp,cond_true,hb,qe,gopt,Int.toNat_natCast,List.drop_zero];rw[qaT _ (by rw[List.length_take];omega),Option.bind_some];have hw:qk (lastJ (l.take i)) l[i]=some 0:=by
      unfold qk;rw[qdG h1,show((0:Int)!=0)=false from rfl,cond_false,qbd _ _ (by have:=h1.1;omega),Option.bind_some,h2,bne_f rfl,cond_false]
    rw[hw,Option.bind_some,qaZ (by omega) (by omega)];rfl
  have key:∀(k i:Nat),i+k=l.length→iterW (qr l) (((i:Int),()),())=some (.inl ((),())):=by
    intro k
    induction k with
    | zero =>
      intro i hi
      have:i=l.length:=by omega
      subst this;refine qt ?_;unfold qr;simp
    | succ k ih =>
      intro i hi;rw[qC (step i (by omega))];exact ih (i+1) (by omega)
  have h0:=key l.length 0 (by omega);have h0':iterW (qr l) (((0:Int),()),())=_:=h0;rw[h0',Option.bind_some,Sum.elim_inl]
theorem qe4 {l:Jn} (h:JOK l):qQ l=some 0:=by
  unfold qQ;have:=h.1;rw[show decide (((l.length:Nat):Int)>1000)=false by rw[decide_eq_false_iff_not];omega,cond_false,good_ok h,Option.bind_some,show decide (((l.length:Nat):Int)<((l.length:Nat):Int))=false by simp,cond_false]
theorem cloneJ (s:Jn) (h:s.length≤1000000):qz s=some s:=by
  unfold qz;have:room (([]:Jn).length+s.length) 24=true:=qdK (by simp;omega);rw[this]
  cases s with
  | nil=>simp[qe,agree_self]
  | cons a l=>simp[qe]
noncomputable def nextJ (l:Jn) (s:ByteArray):Jn:=l++[(s,(sumJ (lastJ l) s,()))]
theorem qfP {l:Jn} (h:JOK l) (hl:l.length<1000) {s:ByteArray} (hs:OKT s):qW l s=some (nextJ l s,(0,()))∧JOK (nextJ l s):=by
  have hlen:=h.1;constructor
  · unfold qW;rw[qe4 h,Option.bind_some,show((0:Int)!=0)=false from rfl,cond_false,qdG hs,show((0:Int)!=0)=false from rfl,cond_false,beq_f (by omega),cond_false,cloneJ l (by omega),Option.bind_some,qaT l (by omega),Option.bind_some,qbd _ _ (by have:=hs.1;omega),Option.bind_some,qdK (by simp only[List.length_cons,List.length_nil];omega),qe];rfl
  · refine⟨by unfold nextJ;rw[List.length_append,List.length_singleton];omega,fun i hi=>?_⟩;unfold nextJ at hi ⊢;rw[List.length_append,List.length_singleton] at hi;by_cases c:i<l.length
    · rw[List.getElem_append_left c,List.take_append_of_le_length (by omega)];exact h.2 i c
    · have:i=l.length:=by omega
      subst this;rw[List.getElem_append_right (by omega),List.take_left']
      · simp only[Nat.sub_self,List.getElem_cons_zero];exact⟨hs,trivial⟩
      · rfl
end Go.Proofs.YtlfpfiplndkofaaDoor
namespace Go.Proofs.YtlfpfiplndkofaaDoor
open Go.Den
set_option linter.unusedVariables false
set_option linter.unusedSimpArgs false
set_option maxRecDepth 100000

theorem qiv (ns:List Int):(strOf ns).data.toList=ns.map fun n=>UInt8.ofNat n.toNat:=by
  have key:∀(l:List Int) (r:ByteArray),(l.foldl (fun r n=>r.push (UInt8.ofNat n.toNat)) r).data.toList=r.data.toList++l.map fun n=>UInt8.ofNat n.toNat:=fun l=>by
    induction l with
    | nil=>intro r;simp
    | cons x l ih=>intro r;rw[List.foldl_cons,ih];simp[ByteArray.data_push]
  unfold strOf;rw[key];rfl
end Go.Proofs.YtlfpfiplndkofaaDoor
namespace Go.Proofs.YtlfpfiplndkofaaDoor
open Go.Den
set_option linter.unusedVariables false
set_option linter.unusedSimpArgs false
set_option maxRecDepth 100000

def dgs:Nat→Nat→List UInt8
  | 0,_=>[]
  | f+1,n=>qK (n % 16)::dgs f (n / 16)
theorem qhn:∀f n,(dgs f n).length=f
  | 0,_=>rfl
  | f+1,n=>by rw[dgs,List.length_cons,qhn f]
theorem qhE:∀f,dgs f 0=List.replicate f 48
  | 0=>rfl
  | f+1=>by rw[dgs,show(0:Nat) / 16=0 from rfl,qhE f];rfl
theorem qf7:∀f n,n<16 ^ (f+1)→1≤(hexR (f+1) n).length∧(hexR (f+1) n).length≤f+1∧hexR (f+1) n++List.replicate (f+1-(hexR (f+1) n).length) 48=dgs (f+1) n
  | 0,n,h=>by
    have h:n<16:=by simpa using h
    have e:hexR 1 n=[qK (n % 16)]:=by
      unfold hexR;rw[if_pos h]
    rw[e];exact⟨Nat.le_refl _,Nat.le_refl _,rfl⟩
  | f+1,n,h=>by
    by_cases c:n<16
    · have e:hexR (f+2) n=[qK (n % 16)]:=by
        unfold hexR;rw[if_pos c]
      rw[e];refine⟨Nat.le_refl _,by simp,?_⟩;show qK (n % 16)::List.replicate (f+1) 48=qK (n % 16)::dgs (f+1) (n / 16);rw[show n / 16=0 by omega,qhE]
    · have hd:n / 16<16 ^ (f+1):=by
        rw[Nat.pow_succ] at h;omega
      obtain⟨h1,h2,h3⟩:=qf7 f (n / 16) hd;have e:hexR (f+2) n=qK (n % 16)::hexR (f+1) (n / 16):=by
        conv=>lhs;unfold hexR
        rw[if_neg c]
      rw[e];refine⟨by simp,by simp;omega,?_⟩;rw[List.length_cons,List.cons_append,show f+1+1-((hexR (f+1) (n / 16)).length+1)=f+1-(hexR (f+1) (n / 16)).length by omega,h3];rfl
def hex16 (n:Nat):List UInt8:=(dgs 16 n).reverse
theorem qa5 (n:Nat):(hex16 n).length=16:=by unfold hex16;rw[List.length_reverse,qhn]
def qa1 (c:UInt8):Nat:=if c.toNat<58 then c.toNat-48 else c.toNat-87
def isHex (c:UInt8):Bool:=(decide (48≤c.toNat)&&decide (c.toNat≤57))||(decide (97≤c.toNat)&&decide (c.toNat≤102))
theorem dig_all:∀k,k<16→qa1 (qK k)=k∧isHex (qK k)=true:=by decide
theorem dgs_hex:∀f n,∀c∈dgs f n,isHex c=true
  | 0,_,c,h=>by cases h
  | f+1,n,c,h=>by
    rcases List.mem_cons.1 h with rfl | h
    · exact(dig_all _ (Nat.mod_lt _ (by decide))).2
    · exact dgs_hex f _ c h
theorem qgE (n:Nat):∀c∈hex16 n,isHex c=true:=fun c h=>dgs_hex 16 n c (List.mem_reverse.1 h)
def valH (l:List UInt8):Nat:=l.foldl (fun n c=>n*16+qa1 c) 0
theorem val_dgs:∀f n,(dgs f n).foldr (fun c n=>n*16+qa1 c) 0=n % 16 ^ f
  | 0,n=>by simp[dgs,Nat.mod_one]
  | f+1,n=>by
    rw[dgs,List.foldr_cons,val_dgs f,(dig_all _ (Nat.mod_lt _ (by decide))).1,Nat.pow_succ,Nat.mul_comm (16 ^ f) 16,Nat.mod_mul];omega
theorem val_hex16 {n:Nat} (h:n<16 ^ 16):valH (hex16 n)=n:=by
  unfold valH hex16;rw[List.foldl_reverse,val_dgs,Nat.mod_eq_of_lt h]
theorem qh7 (l:List UInt8) (c:UInt8):valH (l++[c])=valH l*16+qa1 c:=by unfold valH;rw[List.foldl_append];rfl
theorem qg5 {c:UInt8} (h:isHex c=true):qa1 c<16:=by
  unfold isHex at h;unfold qa1;simp only[Bool.or_eq_true,Bool.and_eq_true,decide_eq_true_eq] at h
  split<;>omega
theorem val_lt:∀(k:Nat) (l:List UInt8),l.length=k→(∀c∈l,isHex c=true)→valH l<16 ^ k
  | 0,l,h,_=>by
    rw[List.length_eq_zero_iff.1 h];decide
  | k+1,l,h,hl=>by
    obtain⟨m,c,rfl⟩:∃m c,l=m++[c]:=⟨l.dropLast,l.getLast (by intro e;subst e;cases h),(List.dropLast_concat_getLast _).symm⟩;rw[qh7,Nat.pow_succ];have h1:=val_lt k m (by simpa using h) (fun c hc=>hl c (List.mem_append_left _ hc));have h2:=qg5 (hl c (List.mem_append_right _ List.mem_cons_self));omega
theorem fmt_hex {n:Int} (h0:0≤n) (h1:n≤18446744073709551615):∃s,qfS n 16=some s∧1≤s.size∧s.size≤16∧s.data.toList=(hexR 16 n.toNat).reverse:=by
  obtain⟨l1,l2,l3⟩:=qf7 15 n.toNat (by omega);refine⟨⟨(hexR 16 n.toNat).reverse.toArray⟩,?_,?_,?_,rfl⟩
  · unfold qfS;rw[decide_eq_true h0,decide_eq_true h1];rfl
  · show 1≤(hexR 16 n.toNat).reverse.toArray.size;simpa using l1
  · show(hexR 16 n.toNat).reverse.toArray.size≤16;simpa using l2
theorem rep_zero (k:Nat) (hk:k≤16):∃s,qdZ (ByteArray.mk #[48]) ((k:Nat):Int)=some s∧s.data.toList=List.replicate k 48∧s.size=k:=by
  refine⟨⟨(Go.Lib.repeatL (ByteArray.mk #[48]).data.toList k).toArray⟩,?_,?_,?_⟩
  · unfold qdZ
    rw[Int.toNat_natCast,decide_eq_true (show(0:Int)≤(k:Int) by omega),decide_eq_true (show(k:Int)≤9223372036854775807 by omega),show Nat.ble ((ByteArray.mk #[48]).size*k) 140737488355328=true from Nat.ble_eq_true_of_le (by
      have:(ByteArray.mk #[48]).size=1:=rfl
      rw[this];omega)]
    rfl
  · have:∀k,Go.Lib.repeatL [48] k=List.replicate k (48:UInt8):=fun k=>by
      induction k with
      | zero=>rfl
      | succ k ih=>show [48]++Go.Lib.repeatL [48] k=_;rw[ih];rfl
    exact this k
  · show((Go.Lib.repeatL [48] k).toArray).size=k;rw[List.size_toArray,Go.Lib.repeatL_length];simp
def lineJ (x:ByteArray×Int×Unit):List UInt8:=hex16 x.2.1.toNat++32::x.1.data.toList
theorem pad_hex {n:Int} (h0:0≤n) (h1:n≤18446744073709551615):∃s z,qfS n 16=some s∧s.size≤16∧1≤s.size∧qdZ (ByteArray.mk #[48]) (w64 (16-((s.size:Nat):Int)))=some z∧z.size+s.size=16∧(z++s).data.toList=hex16 n.toNat:=by
  obtain⟨s,e1,e2,e3,e4⟩:=fmt_hex h0 h1;obtain⟨z,f1,f2,f3⟩:=rep_zero (16-s.size) (by omega);refine⟨s,z,e1,e3,e2,?_,by omega,?_⟩
  · rw[qaZ (by omega) (by omega),show(16:Int)-((s.size:Nat):Int)=((16-s.size:Nat):Int) by omega];exact f1
  · obtain⟨l1,l2,l3⟩:=qf7 15 n.toNat (by omega)
    have hs:s.size=(hexR 16 n.toNat).length:=by rw[qo,e4,List.length_reverse]
    rw[qbR,f2,e4];unfold hex16;rw[←l3,List.reverse_append,List.reverse_replicate,hs]
theorem bo_of (s:ByteArray):strOf (qg s)=s:=qd9 (by
  rw[qiv];unfold qg;rw[List.map_map];have:((fun n:Int=>UInt8.ofNat n.toNat)∘fun c:UInt8=>(c.toNat:Int))=id:=by
    funext c;simp
  rw[this,List.map_id])
theorem qbK (s:ByteArray):(qg s).length=s.size:=by unfold qg;rw[List.length_map,qo]
def textB (l:Jn):List UInt8:=l.flatMap fun x=>lineJ x++[10]
def SumR (l:Jn):Prop:=∀x∈l,0≤x.2.1∧x.2.1≤18446744073709551615
theorem qeD (x:ByteArray×Int×Unit):(lineJ x).length=17+x.1.size:=by
  unfold lineJ;rw[List.length_append,qa5,List.length_cons,qo];omega
theorem qdo {l:Jn} (h:∀x∈l,x.1.size≤200):(textB l).length≤218*l.length:=by
  unfold textB
  induction l with
  | nil=>simp
  | cons x l ih =>
    rw[List.flatMap_cons,List.length_append,List.length_append,qeD];have h1:=h x List.mem_cons_self;have h2:=ih fun y hy=>h y (List.mem_cons_of_mem _ hy);simp only[List.length_cons,List.length_nil];omega
theorem qfv (l:Jn) (hl:l.length≤1000) (hs:SumR l) (ht:∀x∈l,x.1.size≤200):∀(k i:Nat) (b:List Int),i+k=l.length→b=(textB (l.take i)).map (fun c=>(c.toNat:Int)) →
    iterW (qai l) (((i:Int),()),(b,()))=some ((),((textB l).map (fun c=>(c.toNat:Int)),()))
  | 0,i,b,hi,hb=>by
    have:i=l.length:=by omega
    subst this;rw[List.take_length] at hb;subst hb;refine qt ?_;unfold qai;simp only[nltd,cond_false]
  | k+1,i,b,hi,hb=>by
    have hil:i<l.length:=by omega
    have hm:=List.getElem_mem hil;obtain⟨s0,s1⟩:=hs _ hm;obtain⟨s,z,e1,e2,e3,e4,e5,e6⟩:=pad_hex s0 s1;have h200:=ht _ hm;have hbl:b.length≤218*i:=by
      rw[hb,List.length_map];have:=qdo (l:=l.take i) (fun x hx=>ht x (List.mem_of_mem_take hx));rw[List.length_take] at this;omega
    have z1:(ByteArray.mk #[32]).size=1:=rfl;have z2:(ByteArray.mk #[10]).size=1:=rfl;have r1:qH z s=true:=Nat.ble_eq_true_of_le (by omega);have r2:qH (z++s) (ByteArray.mk #[32])=true:=Nat.ble_eq_true_of_le (by rw[ByteArray.size_append];omega);have r3:qH ((z++s)++ByteArray.mk #[32]) l[i].1=true:=Nat.ble_eq_true_of_le (by rw[ByteArray.size_append,ByteArray.size_append];omega);have r4:qH (((z++s)++ByteArray.mk #[32])++l[i].1) (ByteArray.mk #[10])=true:=Nat.ble_eq_true_of_le (by rw[ByteArray.size_append,ByteArray.size_append,ByteArray.size_append];omega);have r5:room (b.length+((((z++s)++ByteArray.mk #[32])++l[i].1)++ByteArray.mk #[10]).size) 1=true:=qdK (by rw[ByteArray.size_append,ByteArray.size_append,ByteArray.size_append,ByteArray.size_append];omega)
    have r6:Nat.blt 0 (b++qg ((((z++s)++ByteArray.mk #[32])++l[i].1)++ByteArray.mk #[10])).length=true:=by
      rw[List.length_append,qbK,ByteArray.size_append,z2];exact Nat.ble_eq_true_of_le (by omega)
    have hst:qai l (((i:Int),()),(b,()))=some (.inl ((((i+1:Nat):Int),()),(b++qg ((((z++s)++ByteArray.mk #[32])++l[i].1)++ByteArray.mk #[10]),()))):=by
      unfold qai;simp only[ltd l i hil,cond_true];rw[qbN l i hil,Option.bind_some];refine(congrArg (fun q=>Option.bind q _) e1).trans ?_;rw[Option.bind_some];refine(congrArg (fun q=>Option.bind q _) e4).trans ?_;rw[Option.bind_some,r1,qe,r2,qe,r3,qe,r4,qe,r5,qe,r6,qe,qaZ (by omega) (by omega)];rfl
    rw[qC hst];refine qfv l hl hs ht k (i+1) _ (by omega) ?_;rw[hb,List.take_succ_eq_append_getElem hil];unfold textB;rw[List.flatMap_append,List.map_append];congr 1;rw[List.flatMap_cons,List.flatMap_nil,List.append_nil];unfold qg;rw[qbR,qbR,qbR,e6];unfold lineJ;simp
theorem qix {l:Jn} (h:JOK l) (hs:SumR l):qa4 l=some (⟨(textB l).toArray⟩,(0,())):=by
  have hl:=h.1;have ht:∀x∈l,x.1.size≤200:=fun x hx=>by
    obtain⟨i,hi,rfl⟩:=List.mem_iff_getElem.1 hx;exact(h.2 i hi).1.1
  unfold qa4;rw[qe4 h,Option.bind_some];simp only[bne_self_eq_false,cond_false];refine(congrArg (fun q=>Option.bind q _) (qfv l hl hs ht l.length 0 [] (Nat.zero_add _) rfl)).trans ?_;rw[Option.bind_some];have e:=bo_of ⟨(textB l).toArray⟩;unfold qg at e;have e':strOf ((textB l).map fun c=>(c.toNat:Int))=⟨(textB l).toArray⟩:=e;show some (strOf ((textB l).map fun c=>(c.toNat:Int)),((0:Int),()))=_;rw[e']
end Go.Proofs.YtlfpfiplndkofaaDoor
namespace Go.Proofs.YtlfpfiplndkofaaDoor
open Go.Den
set_option linter.unusedVariables false
set_option linter.unusedSimpArgs false
set_option maxRecDepth 100000
set_option maxHeartbeats 0

theorem lower_hex:∀n,n<256→97≤n→n≤102→qa ((n:Nat):Int)=((n:Nat):Int):=by decide +kernel
theorem qig (s:ByteArray) (hs:s.size=16) (hx:∀c∈s.data.toList,isHex c=true) (i:Nat) (hi:i<16) :
    qn ((s,((16:Int),())),()) 16 (((1152921504606846976:Int),()),()) (((64:Int),()),()) ((false,(((valH (s.data.toList.take i):Nat):Int),((i:Int),()))),()) =
      some (.inl ((false,(((valH (s.data.toList.take (i+1)):Nat):Int),(((i+1:Nat):Int),()))),())):=by
  have hl:s.data.toList.length=16:=by rw[←qo];exact hs
  have hil:i<s.data.toList.length:=by omega
  have hc:=hx _ (List.getElem_mem hil);have hval:=val_lt i (s.data.toList.take i) (by rw[List.length_take];omega) (fun c h=>hx c (List.mem_of_mem_take h));have hp:16 ^ i≤16 ^ 15:=Nat.pow_le_pow_right (by decide) (by omega)
  have hp15:16 ^ 15=1152921504606846976:=by decide
  have hbl:(qg s).length=16:=by rw[qbK];exact hs
  have hget:getD' (qg s) ((i:Int).toNat) (0:Int)=((s.data.toList[i].toNat:Nat):Int):=by
    rw[Int.toNat_natCast];unfold getD' qg;rw[List.getD_eq_getElem?_getD,List.getElem?_map,List.getElem?_eq_getElem hil];rfl
  have hsn:valH (s.data.toList.take (i+1))=valH (s.data.toList.take i)*16+qa1 s.data.toList[i]:=by
    rw[List.take_succ_eq_append_getElem hil,qh7]
  have hv16:=qg5 hc;rw[hsn];generalize valH (s.data.toList.take i)=n at hval ⊢
  have hn15:n<1152921504606846976:=by omega
  have hcn:s.data.toList[i].toNat<256:=s.data.toList[i].toNat_lt;generalize hce:s.data.toList[i]=c at *;unfold qn;simp only[hget,hbl];rw[show decide ((i:Int)<((16:Nat):Int))=true by rw[decide_eq_true_eq];omega,cond_true,show inb (i:Int) 16=true from inb_iff.2 ⟨by omega,by omega⟩,qe,show(((16:Int)==0))=false from rfl,Bool.and_false,cond_false]
  have hd:(bif ((decide ((48:Int)≤((c.toNat:Nat):Int)))&&(decide (((c.toNat:Nat):Int)≤(57:Int)))) then(some (Sum.inl (((wu8 (((c.toNat:Nat):Int)-(48:Int))),()),())):Option (((Int×Unit)×(Unit)) ⊕ (((Bool×Int×Unit)×(Unit)) ⊕ (((Bool×Int×Int×Unit)×(Unit)) ⊕ (((Bool×Int×Unit)×(Unit)) ⊕ (Int×Bool×Unit))))))
      else bif ((decide ((97:Int)≤(qa ((c.toNat:Nat):Int))))&&(decide ((qa ((c.toNat:Nat):Int))≤(122:Int)))) then some (Sum.inl (((wu8 ((wu8 ((qa ((c.toNat:Nat):Int))-(97:Int)))+(10:Int))),()),())) else none)=some (Sum.inl ((((qa1 c:Nat):Int),()),())):=by
    have hc':=hc;unfold isHex at hc';simp only[Bool.or_eq_true,Bool.and_eq_true,decide_eq_true_eq] at hc';rcases hc' with ⟨a,b⟩ | ⟨a,b⟩
    · rw[decide_eq_true (show(48:Int)≤((c.toNat:Nat):Int) by omega),decide_eq_true (show((c.toNat:Nat):Int)≤57 by omega)];simp only[Bool.and_self,cond_true];unfold qa1;rw[if_pos (by omega),show wu8 (((c.toNat:Nat):Int)-48)=((c.toNat-48:Nat):Int) by unfold wu8;rw[IntKind.wrap_u8];omega]
    · rw[decide_eq_false (show ¬((c.toNat:Nat):Int)≤57 by omega),Bool.and_false,cond_false,lower_hex c.toNat hcn a b,decide_eq_true (show(97:Int)≤((c.toNat:Nat):Int) by omega),decide_eq_true (show((c.toNat:Nat):Int)≤122 by omega)];simp only[Bool.and_self,cond_true];unfold qa1;rw[if_neg (by omega),show wu8 (wu8 (((c.toNat:Nat):Int)-97)+10)=((c.toNat-87:Nat):Int) by unfold wu8;rw[IntKind.wrap_u8,IntKind.wrap_u8];omega]
  refine(congrArg (fun z=>Option.bind (Option.bind z _) _) hd).trans ?_;rw[Option.bind_some,Sum.elim_inl]
  have e16:wu8 (16:Int)=16:=by decide
  have e16':wu64 (16:Int)=16:=by decide
  have eM:wu64 (shK .shl .u64 (1:Int) (wu64 (64:Int))-1)=18446744073709551615:=by decide
  have en:wu64 ((n:Int)*16)=(n:Int)*16:=by unfold wu64;rw[IntKind.wrap_u64];omega
  have ed:wu64 ((qa1 c:Nat):Int)=((qa1 c:Nat):Int):=by unfold wu64;rw[IntKind.wrap_u64];omega
  have es:wu64 ((n:Int)*16+((qa1 c:Nat):Int))=(n:Int)*16+((qa1 c:Nat):Int):=by unfold wu64;rw[IntKind.wrap_u64];omega
  simp only[e16,e16',eM,en,ed,es];rw[decide_eq_false (show ¬((qa1 c:Nat):Int)≥16 by omega),cond_false,decide_eq_false (show ¬(n:Int)≥1152921504606846976 by omega),cond_false,decide_eq_false (show ¬(n:Int)*16+((qa1 c:Nat):Int)<(n:Int)*16 by omega),decide_eq_false (show ¬(n:Int)*16+((qa1 c:Nat):Int)>18446744073709551615 by omega)];simp only[Bool.or_self,cond_false,Option.bind_some,Sum.elim_inl];rw[qaZ (by omega) (by omega)];congr 5
theorem parse16 (s:ByteArray) (hs:s.size=16) (hx:∀c∈s.data.toList,isHex c=true):qaz s 16 64=some (((valH s.data.toList:Nat):Int),(false,())):=by
  have hl:s.data.toList.length=16:=by rw[←qo];exact hs
  have hbl:(qg s).length=16:=by rw[qbK];exact hs
  have hloop:∀k i,i+k=16→iterW (qn ((s,((16:Int),())),()) 16 (((1152921504606846976:Int),()),()) (((64:Int),()),())) ((false,(((valH (s.data.toList.take i):Nat):Int),((i:Int),()))),())=some (.inl ((false,(((valH s.data.toList:Nat):Int),())),())):=by
    intro k
    induction k with
    | zero =>
      intro i hi
      have:i=16:=by omega
      subst this;rw[List.take_of_length_le (by omega)];refine qt ?_;unfold qn;simp only[hbl];rfl
    | succ k ih =>
      intro i hi;rw[qC (qig s hs hx i (by omega))];exact ih (i+1) (by omega)
  have h0:=hloop 16 0 rfl;have hne:(s.toList==(ByteArray.mk #[]).toList)=false:=by
    rw[beq_eq_false_iff_ne];intro e;rw[ByteArray.toList_eq,ByteArray.toList_eq] at e;have:=congrArg List.length e;rw[hl] at this;cases this
  have hin:qx s 16 64=some (((valH s.data.toList:Nat):Int),(false,())):=by
    unfold qx;rw[hne,cond_false];simp only[show(decide ((2:Int)≤16)&&decide ((16:Int)≤36))=true from rfl,cond_true,Option.bind_some,Sum.elim_inl,show((64:Int)==0)=false from rfl,cond_false,show(decide ((64:Int)<0)||decide ((64:Int)>64))=false from rfl,show((16:Int)==10)=false from rfl,show((16:Int)==16)=true from rfl];rw[show decide ((0:Int)≤wu64 64)=true from by decide,qe,show Nat.ble s.size 140737488355328=true from Nat.ble_eq_true_of_le (by omega),qe];refine(congrArg (fun z=>Option.bind z _) h0).trans ?_;rfl
  unfold qaz;rw[hin,Option.bind_some];rfl
abbrev hexSet:ByteArray:=ByteArray.mk #[48,49,50,51,52,53,54,55,56,57,97,98,99,100,101,102]
theorem set_hexN:∀n,n<256→(hexSet.data.toList.contains (UInt8.ofNat n))=isHex (UInt8.ofNat n):=by decide +kernel
theorem set_hex (c:UInt8):hexSet.data.toList.contains c=isHex c:=by
  have:=set_hexN c.toNat c.toNat_lt
  rwa [UInt8.ofNat_toNat] at this
theorem qeq {A:Type} (p:A→Bool):∀l:List A,l.dropWhile p=[]↔∀x∈l,p x=true
  | []=>by simp
  | x::l=>by
    rw[List.dropWhile_cons];split
    · rename_i h;rw[qeq p l];simp[h]
    · rename_i h;simp[h]
theorem trim_nil (l:List UInt8):((l.reverse.dropWhile fun b=>hexSet.data.toList.contains b).reverse).dropWhile (fun b=>hexSet.data.toList.contains b)=[]↔∀c∈l,isHex c=true:=by
  constructor
  · intro h;have h1:=(qeq _ _).1 h;by_cases e:l.reverse.dropWhile (fun b=>hexSet.data.toList.contains b)=[]
    · intro c hc;have:=(qeq _ _).1 e c (List.mem_reverse.2 hc)
      rwa [set_hex] at this
    · exfalso
      cases hq:l.reverse.dropWhile (fun b=>hexSet.data.toList.contains b) with
      | nil=>exact e hq
      | cons c r =>
        have h2:=h1 c (by rw[hq];simp);have h3:=List.head_dropWhile_not (p:=fun b=>hexSet.data.toList.contains b) (l:=l.reverse) (by rw[hq];simp);simp only[hq,List.head_cons] at h3;rw[h2] at h3;cases h3
  · intro h;have:l.reverse.dropWhile (fun b=>hexSet.data.toList.contains b)=[]:=(qeq _ _).2 fun c hc=>by
      rw[set_hex];exact h c (List.mem_reverse.1 hc)
    rw[this];rfl
theorem trim_hex (s:ByteArray) (hs:s.size≤16):∃t,trimS s hexSet=some t∧(t.toList==(ByteArray.mk #[]).toList)=s.data.toList.all isHex:=by
  refine⟨⟨(((s.data.toList.reverse.dropWhile fun b=>hexSet.data.toList.contains b).reverse).dropWhile fun b=>hexSet.data.toList.contains b).toArray⟩,?_,?_⟩
  · unfold trimS;rw[show Nat.ble s.size 9223372036854775807=true from Nat.ble_eq_true_of_le (by omega),show(Nat.ble hexSet.size 4294967280&&(hexSet.data.toList.all fun b=>decide (b.toNat<128)))=true by decide];rfl
  · rw[Bool.eq_iff_iff,beq_iff_eq,List.all_eq_true,←trim_nil];generalize ((s.data.toList.reverse.dropWhile fun b=>hexSet.data.toList.contains b).reverse).dropWhile (fun b=>hexSet.data.toList.contains b)=l;constructor
    · intro h;rw[ByteArray.toList_eq,ByteArray.toList_eq] at h;simpa using h
    · intro h;rw[h]
def fineL (s:ByteArray):Bool:=decide (17≤s.size)&&(decide (s.data.toList.getD 16 0=32)&&(s.data.toList.take 16).all isHex)
theorem qfH (s:ByteArray) (hs:s.size≤281474976710656):qaB s=some (if fineL s=true then((s.extract 17 s.size,(((valH (s.data.toList.take 16):Nat):Int),())),(true,())) else((ByteArray.mk #[],((0:Int),())),(false,()))):=by
  unfold qaB;by_cases h17:s.size<17
  · have:fineL s=false:=by
      unfold fineL;rw[decide_eq_false (by omega)];rfl
    rw[this,decide_eq_true (show((s.size:Nat):Int)<17 by omega)];rfl
  · have hl:s.data.toList.length=s.size:=(qo s).symm;have hst:strAt s 16=some (s.data.toList.getD 16 0):=by
      unfold strAt;rw[show decide ((0:Int)≤16)=true from rfl,cond_true];show s[16]?=_;rw[List.getD_eq_getElem?_getD,List.getElem?_eq_getElem (by omega)]
      have:s[16]?=some s[16]:=by simp
      rw[this];rfl
    rw[decide_eq_false (show ¬((s.size:Nat):Int)<17 by omega)];simp only[Bool.not_false,gopt,cond_true,Bool.false_or];rw[hst,Option.bind_some]
    have hb16:qh 0 16 s.size=true:=by simp only[qh,Bool.and_eq_true,decide_eq_true_eq];omega
    have hb17:qh 17 ((s.size:Nat):Int) s.size=true:=by simp only[qh,Bool.and_eq_true,decide_eq_true_eq];omega
    rw[hb16];generalize hc:s.data.toList.getD 16 0=c;by_cases h32:c=32
    · subst h32;have hne:((((32:UInt8).toNat:Nat):Int)!=32)=false:=rfl;simp only[hne,Bool.not_false,imp,cond_true,qe,Bool.false_or]
      have hx16:(s.extract 0 16).data.toList=s.data.toList.take 16:=by rw[qia,List.drop_zero]
      have hz16:(s.extract 0 16).size=16:=by rw[qo,hx16,List.length_take];omega
      obtain⟨t,ht,hte⟩:=trim_hex (s.extract 0 16) (by omega);refine(congrArg (fun z=>Option.bind z _) ht).trans ?_;rw[Option.bind_some,hte,hx16];have hf:fineL s=(s.data.toList.take 16).all isHex:=by
        unfold fineL;rw[hc,decide_eq_true (show 17≤s.size by omega)];rfl
      rw[hf]
      cases ha:(s.data.toList.take 16).all isHex with
      | false=>rfl
      | true =>
        have hall:∀x∈(s.extract 0 16).data.toList,isHex x=true:=by
          rw[hx16];exact List.all_eq_true.1 ha
        simp only[Bool.not_true,cond_false,if_true];rw[parse16 (s.extract 0 16) hz16 hall,Option.bind_some,hb17,qe,hx16];have hcl:qbI (s.extract 17 (((s.size:Nat):Int)).toNat)=some (s.extract 17 s.size):=by
          unfold qbI qhV;rw[Int.toNat_natCast,show Nat.ble (s.extract 17 s.size).size 281474976710656=true from Nat.ble_eq_true_of_le (by simp[ByteArray.size_extract];omega)];rfl
        refine(congrArg (fun z=>Option.bind z _) hcl).trans ?_;rfl
    · have hne:(((c.toNat:Nat):Int)!=32)=true:=bne_t (fun e=>h32 (UInt8.toNat_inj.1 (by show c.toNat=32;omega)));have hf:fineL s=false:=by
        unfold fineL;rw[hc,decide_eq_false h32];simp
      rw[hf,hne];rfl
theorem cut_none (s:ByteArray) (h:(10:UInt8)∉s.data.toList):qaO s (ByteArray.mk #[10])=some (s,(ByteArray.mk #[],(false,()))):=by
  unfold qaO qD;have:idx1S s (ByteArray.mk #[10])=some (-1):=by
    show some (Go.Lib.indexByte s.data.toList 10)=_;rw[ib_none 10 _ h]
  rw[this,Option.bind_some];rfl
theorem qg6 (s:ByteArray) (a b:List UInt8) (hs:s.data.toList=a++10::b) (ha:(10:UInt8)∉a) (hz:s.size≤9223372036854775807):qaO s (ByteArray.mk #[10])=some (⟨a.toArray⟩,(⟨b.toArray⟩,(true,()))):=by
  unfold qaO qD
  have hl:s.size=a.length+1+b.length:=by rw[qo,hs];simp;omega
  have:idx1S s (ByteArray.mk #[10])=some ((a.length:Nat):Int):=by
    show some (Go.Lib.indexByte s.data.toList 10)=_;rw[hs,qhM 10 b a ha]
  have z1:(ByteArray.mk #[10]).size=1:=rfl;rw[this,Option.bind_some,decide_eq_true (show((a.length:Nat):Int)≥0 by omega),cond_true,z1];rw[show qh 0 ((a.length:Nat):Int) s.size=true by simp only[qh,Bool.and_eq_true,decide_eq_true_eq];omega,qe];rw[qaZ (by omega) (by omega)];rw[show qh (((a.length:Nat):Int)+((1:Nat):Int)) ((s.size:Nat):Int) s.size=true by simp only[qh,Bool.and_eq_true,decide_eq_true_eq];omega,qe];have e1:s.extract 0 (((a.length:Nat):Int)).toNat=⟨a.toArray⟩:=qd9 (by rw[qia,hs];simp)
  have e2:s.extract ((((a.length:Nat):Int)+((1:Nat):Int)).toNat) (((s.size:Nat):Int)).toNat=⟨b.toArray⟩:=qd9 (by
    rw[qia,Int.toNat_natCast,List.take_of_length_le (by rw[←qo];exact Nat.le_refl _),hs,show(((a.length:Nat):Int)+((1:Nat):Int)).toNat=a.length+1 by omega,List.drop_append,List.drop_of_length_le (by omega),show a.length+1-a.length=1 by omega]
    simp)
  rw[e1,e2];rfl
end Go.Proofs.YtlfpfiplndkofaaDoor
namespace Go.Proofs.YtlfpfiplndkofaaDoor
open Go.Den
set_option linter.unusedVariables false
set_option linter.unusedSimpArgs false
set_option maxRecDepth 100000
set_option maxHeartbeats 0

theorem hex_no10 {c:UInt8} (h:isHex c=true):c≠10:=fun e=>by subst e;cases h
theorem qiy {x:ByteArray×Int×Unit} (h:OKT x.1):(10:UInt8)∉lineJ x:=by
  unfold lineJ;intro hc;rcases List.mem_append.1 hc with hc | hc
  · exact hex_no10 (qgE _ _ hc) rfl
  · rcases List.mem_cons.1 hc with hc | hc
    · cases hc
    · have:=h.2 _ hc;exact absurd this.1 (by decide)
theorem own_line {x:ByteArray×Int×Unit} (h0:0≤x.2.1) (h1:x.2.1≤18446744073709551615) (ht:x.1.size≤200):qaB ⟨(lineJ x).toArray⟩=some ((x.1,(x.2.1,())),(true,())):=by
  have hd:(⟨(lineJ x).toArray⟩:ByteArray).data.toList=lineJ x:=rfl
  have hz:(⟨(lineJ x).toArray⟩:ByteArray).size=17+x.1.size:=by rw[qo,hd,qeD]
  have hx:(lineJ x).take 16=hex16 x.2.1.toNat:=by
    unfold lineJ;rw[List.take_append_of_le_length (by rw[qa5];exact Nat.le_refl _),List.take_of_length_le (by rw[qa5];exact Nat.le_refl _)]
  rw[qfH _ (by omega)];have hf:fineL ⟨(lineJ x).toArray⟩=true:=by
    unfold fineL
    rw[hz,hd,hx,decide_eq_true (show 17≤17+x.1.size by omega),show(lineJ x).getD 16 0=32 by
      unfold lineJ;rw[List.getD_eq_getElem?_getD,List.getElem?_append_right (by rw[qa5];exact Nat.le_refl _),qa5]
      rfl,List.all_eq_true.2 (qgE _)]
    rfl
  rw[if_pos hf,hd,hx,val_hex16 (by omega)]
  have e1:(⟨(lineJ x).toArray⟩:ByteArray).extract 17 (⟨(lineJ x).toArray⟩:ByteArray).size=x.1:=qd9 (by
    rw[qia,hd,hz,List.take_of_length_le (by rw[qeD];exact Nat.le_refl _)];unfold lineJ;rw[List.drop_append,List.drop_of_length_le (by rw[qa5];omega),qa5]
    rfl)
  rw[e1,Int.toNat_of_nonneg h0]
theorem rec_step {l:Jn} (h:JOK l) (hs:SumR l) (i:Nat) (hi:i<l.length) (rest:List UInt8) (s:ByteArray) (hd:s.data.toList=lineJ l[i]++10::rest) (hz:s.size≤9223372036854775807) :
    qf ((s,(l.take i,())),())=some (.inl ((⟨rest.toArray⟩,(l.take (i+1),())),())):=by
  obtain⟨h1,h2⟩:=h.2 i hi;have hl:=h.1;obtain⟨s0,s1⟩:=hs _ (List.getElem_mem hi)
  have hlen:(l.take i).length=i:=by rw[List.length_take];omega
  unfold qf;simp only[hlen];rw[decide_eq_true (show((i:Nat):Int)<1000 by omega),cond_true];refine(congrArg (fun q=>Option.bind q _) (qg6 s (lineJ l[i]) rest hd (qiy h1) hz)).trans ?_;rw[Option.bind_some];simp only[Bool.not_true,cond_false];refine(congrArg (fun q=>Option.bind q _) (own_line s0 s1 h1.1)).trans ?_;rw[Option.bind_some];simp only[Bool.not_true,Bool.not_false,gopt,cond_true,Bool.false_or];rw[qaT _ (by omega),Option.bind_some];have hw:qk (lastJ (l.take i)) (l[i].1,(l[i].2.1,()))=some 0:=by
    unfold qk;simp only[qdG h1];rw[show((0:Int)!=0)=false from rfl,cond_false,qbd _ _ (by have:=h1.1;omega),Option.bind_some,h2,bne_f rfl,cond_false]
  rw[hw,Option.bind_some,bne_self_eq_false,cond_false];rw[qdK (by rw[List.length_singleton];omega),qe,List.take_succ_eq_append_getElem hi]
theorem qe5 {l:Jn} (h:JOK l) (hs:SumR l) (p:List UInt8) (hp:p.length≤4611686018427387904):∀(k i:Nat),i+k≤l.length→iterW qf ((⟨(textB ((l.drop i).take k)++p).toArray⟩,(l.take i,())),())=iterW qf ((⟨p.toArray⟩,(l.take (i+k),())),())
  | 0,i,hi=>by
    rw[List.take_zero];rfl
  | k+1,i,hi=>by
    have hil:i<l.length:=by omega
    have hl:=h.1;have ht:∀x∈l,x.1.size≤200:=fun x hx=>by
      obtain⟨j,hj,rfl⟩:=List.mem_iff_getElem.1 hx;exact(h.2 j hj).1.1
    have e:(l.drop i).take (k+1)=l[i]::(l.drop (i+1)).take k:=by
      rw[List.drop_eq_getElem_cons hil,List.take_succ_cons]
    have e2:textB ((l.drop i).take (k+1))++p=lineJ l[i]++10::(textB ((l.drop (i+1)).take k)++p):=by
      rw[e];unfold textB;rw[List.flatMap_cons];simp
    have hb:=qdo (l:=(l.drop i).take (k+1)) (fun x hx=>ht x (List.mem_of_mem_drop (List.mem_of_mem_take hx)))
    have hk:((l.drop i).take (k+1)).length≤1000:=by rw[List.length_take,List.length_drop];omega
    rw[qC (rec_step h hs i hil (textB ((l.drop (i+1)).take k)++p) ⟨(textB ((l.drop i).take (k+1))++p).toArray⟩ e2 (by
      rw[qo];show(textB ((l.drop i).take (k+1))++p).length≤_;rw[List.length_append]
      omega))]
    have:=qe5 h hs p hp k (i+1) (by omega);rw[this,show i+1+k=i+(k+1) by omega]
theorem qhv {l:Jn} (p:List UInt8) (hp:(10:UInt8)∉p):iterW qf ((⟨p.toArray⟩,(l,())),())=some ((⟨p.toArray⟩,(l,())),()):=by
  refine qt ?_;unfold qf;by_cases c:l.length<1000
  · rw[decide_eq_true (show((l.length:Nat):Int)<1000 by omega),cond_true];refine(congrArg (fun q=>Option.bind q _) (cut_none ⟨p.toArray⟩ hp)).trans ?_;rfl
  · rw[decide_eq_false (show ¬((l.length:Nat):Int)<1000 by omega),cond_false]
end Go.Proofs.YtlfpfiplndkofaaDoor
namespace Go.Proofs.YtlfpfiplndkofaaDoor
open Go.Den
set_option linter.unusedVariables false
set_option linter.unusedSimpArgs false
set_option maxRecDepth 100000
set_option maxHeartbeats 0

theorem qhS (b:Int) (s:ByteArray) (hs:s.size≤1000000):0≤sumJ b s∧sumJ b s≤18446744073709551615:=by
  have h:=qbd b s hs;unfold qZ at h;obtain⟨x,h1,h2⟩:=Option.bind_eq_some_iff.1 h;have h2:=Option.some.inj h2;rw[←h2];unfold wu64;rw[IntKind.wrap_u64];omega
theorem qep {l:Jn} (h:JOK l):SumR l:=fun x hx=>by
  obtain⟨i,hi,rfl⟩:=List.mem_iff_getElem.1 hx;obtain⟨h1,h2⟩:=h.2 i hi;rw[h2];exact qhS _ _ (by have:=h1.1;omega)
theorem qhN:JOK []:=⟨Nat.zero_le _,fun i hi=>absurd hi (Nat.not_lt_zero _)⟩
theorem mul_sum (x:Int):wu64 (wu64 (shK .shl .u64 x 40+shK .shl .u64 x 8)+wu64 (179*x))=wu64 (x*1099511628211):=by
  have e1:shK .shl .u64 x 40=(x*1099511627776) % 18446744073709551616:=by
    show IntKind.u64.wrap (x*1099511627776)=_;rw[IntKind.wrap_u64]
  have e2:shK .shl .u64 x 8=(x*256) % 18446744073709551616:=by
    show IntKind.u64.wrap (x*256)=_;rw[IntKind.wrap_u64]
  rw[e1,e2];unfold wu64;simp only[IntKind.wrap_u64];omega
theorem qhH (s:ByteArray) (i:Nat) (hi:i<s.size):∃c,strAt s (i:Int)=some c∧s.data.toList[i]?=some c:=by
  refine⟨s[i],?_,?_⟩
  · unfold strAt;rw[show decide ((0:Int)≤(i:Int))=true by simp,cond_true,Int.toNat_natCast];simp[hi]
  · rw[List.getElem?_eq_getElem (by rw[←qo];exact hi)];rfl
theorem sum_loops (s:ByteArray) (hs:s.size≤1000000):∀(k i:Nat) (h:Int),i+k=s.size →
    iterW (qaD s) ((h,(i:Int),()),())=Option.bind (iterW (qs s) ((h,(i:Int),()),())) fun x3=>some ((wu64 ((ixor .u64 x3.1.1 (wu64 ((s.size:Nat):Int)))*(1099511628211:Int)),()),()):=by
  intro k
  induction k with
  | zero =>
    intro i h hi
    have:i=s.size:=by omega
    subst this;have e1:iterW (qs s) ((h,((s.size:Nat):Int),()),())=some ((h,()),()):=qt (by unfold qs;simp);rw[e1,Option.bind_some];have e2:qaD s ((h,((s.size:Nat):Int),()),())=some (.inl ((wu64 ((ixor .u64 h (wu64 ((s.size:Nat):Int)))*1099511628211),((s.size+1:Nat):Int),()),())):=by
      unfold qaD;simp only[show decide (((s.size:Nat):Int)≤((s.size:Nat):Int))=true by simp,show decide (((s.size:Nat):Int)<((s.size:Nat):Int))=false by simp,cond_true,cond_false,Option.bind_some];rw[mul_sum,qaZ (by omega) (by omega)];rfl
    rw[qC e2];refine qt ?_;unfold qaD;rw[show decide (((s.size+1:Nat):Int)≤((s.size:Nat):Int))=false by simp;omega,cond_false]
  | succ k ih =>
    intro i h hi;obtain⟨c,hc,_⟩:=qhH s i (by omega);have e1:qs s ((h,(i:Int),()),())=some (.inl ((wu64 ((ixor .u64 h (wu64 ((c.toNat:Nat):Int)))*1099511628211),((i+1:Nat):Int),()),())):=by
      unfold qs;simp only[show decide ((i:Int)<((s.size:Nat):Int))=true by simp;omega,cond_true];rw[hc,Option.bind_some,qaZ (by omega) (by omega)];rfl
    have e2:qaD s ((h,(i:Int),()),())=some (.inl ((wu64 ((ixor .u64 h (wu64 ((c.toNat:Nat):Int)))*1099511628211),((i+1:Nat):Int),()),())):=by
      unfold qaD;simp only[show decide ((i:Int)≤((s.size:Nat):Int))=true by simp;omega,show decide ((i:Int)<((s.size:Nat):Int))=true by simp;omega,cond_true];rw[hc,Option.bind_some,Option.bind_some,mul_sum,qaZ (by omega) (by omega)];rfl
    rw[qC e1,qC e2];exact ih (i+1) _ (by omega)
theorem qgi (b:Int) (s:ByteArray) (hs:s.size≤1000000):qdJ b s=some (sumJ b s):=by
  rw[←qbd b s hs];unfold qdJ qZ;have:=sum_loops s hs s.size 0 (ixor .u64 b 14695981039346656037) (by omega);have this':iterW (qaD s) (((ixor .u64 b (14695981039346656037:Int)),(0:Int),()),())=_:=this;rw[this',Option.bind_assoc];rfl
theorem qiq {c:Int} (h:0≤c) (h':c<128):Go.Utf8.encode c=ByteArray.mk #[UInt8.ofNat c.toNat]:=by
  unfold Go.Utf8.encode
  have:Go.Utf8.valid c=true:=by unfold Go.Utf8.valid;simp;omega
  simp only[this,if_true];rw[if_pos (by omega)]
theorem hexd_list:∀k,k<16→([48,49,50,51,52,53,54,55,56,57,97,98,99,100,101,102]:List UInt8)[k]?=some (qK k)∧(qK k).toNat<128:=by decide
theorem hexd_at (k:Nat) (hk:k<16):strAt (ByteArray.mk #[48,49,50,51,52,53,54,55,56,57,97,98,99,100,101,102]) ((k:Nat):Int)=some (qK k)∧Go.Utf8.encode (((qK k).toNat:Nat):Int)=ByteArray.mk #[qK k]:=by
  obtain⟨h1,h2⟩:=hexd_list k hk;obtain⟨c,hc,hc2⟩:=qhH (ByteArray.mk #[48,49,50,51,52,53,54,55,56,57,97,98,99,100,101,102]) k hk;have hc3:([48,49,50,51,52,53,54,55,56,57,97,98,99,100,101,102]:List UInt8)[k]?=some c:=hc2;rw[h1] at hc3;obtain rfl:=Option.some.inj hc3;refine⟨hc,?_⟩;rw[qiq (by omega) (by omega),Int.toNat_natCast,UInt8.ofNat_toNat]
theorem qh8:∀(f n:Nat),dgs (f+1) n=dgs f n++[qK (n / 16 ^ f % 16)]
  | 0,n=>by simp[dgs]
  | f+1,n=>by
    have:=qh8 f (n / 16);rw[Nat.div_div_eq_div_mul,Nat.mul_comm,←Nat.pow_succ] at this;rw[show dgs (f+1+1) n=qK (n % 16)::dgs (f+1) (n / 16) from rfl,this];rfl
theorem ref3_hex {n:Nat} (h:n≤18446744073709551615):qex (n:Int)=some ⟨(hex16 n).toArray⟩:=by
  unfold qex;have step:∀i,i<16→qbS ((((n / 16 ^ i:Nat):Int),⟨(dgs i n).reverse.toArray⟩,(i:Int),()),())=some (.inl ((((n / 16 ^ (i+1):Nat):Int),⟨(dgs (i+1) n).reverse.toArray⟩,((i+1:Nat):Int),()),())):=by
    intro i hi;have hle:n / 16 ^ i≤n:=Nat.div_le_self _ _;obtain⟨h1,h2⟩:=hexd_at (n / 16 ^ i % 16) (Nat.mod_lt _ (by decide));have e1:((n / 16 ^ i:Nat):Int).tmod 16=((n / 16 ^ i % 16:Nat):Int):=by
      generalize n / 16 ^ i=q;rw[Int.tmod_eq_emod_of_nonneg (by omega)];omega
    have e2:wu64 (((n / 16 ^ i:Nat):Int).tdiv 16)=((n / 16 ^ (i+1):Nat):Int):=by
      rw[Nat.pow_succ,←Nat.div_div_eq_div_mul];generalize n / 16 ^ i=q at hle;rw[Int.tdiv_eq_ediv_of_nonneg (by omega)];unfold wu64;rw[IntKind.wrap_u64];omega
    have e3:(ByteArray.mk #[qK (n / 16 ^ i % 16)]++(⟨(dgs i n).reverse.toArray⟩:ByteArray))=⟨(dgs (i+1) n).reverse.toArray⟩:=qd9 (by
      rw[qbR,qh8,List.reverse_append]
      rfl)
    have hr:qH (ByteArray.mk #[qK (n / 16 ^ i % 16)]) (⟨(dgs i n).reverse.toArray⟩:ByteArray)=true:=Nat.ble_eq_true_of_le (by
      rw[qo,qo];show 1+(dgs i n).reverse.length≤_;rw[List.length_reverse,qhn]
      omega)
    unfold qbS;simp only;rw[decide_eq_true (show((i:Nat):Int)<16 by omega),cond_true,e1,h1,Option.bind_some,h2,hr,qe,e2,e3,qaZ (by omega) (by omega)];rfl
  have key:∀(k i:Nat),i+k=16→iterW qbS ((((n / 16 ^ i:Nat):Int),⟨(dgs i n).reverse.toArray⟩,(i:Int),()),())=some ((⟨(hex16 n).toArray⟩,()),()):=by
    intro k
    induction k with
    | zero =>
      intro i hi
      obtain rfl:i=16:=by omega
      refine qt ?_;rfl
    | succ k ih =>
      intro i hi;rw[qC (step i (by omega))];exact ih (i+1) (by omega)
  have h0:=key 16 0 (by omega);rw[Nat.pow_zero,Nat.div_one] at h0;have h0':iterW qbS (((n:Int),(ByteArray.mk #[]),(0:Int),()),())=_:=h0;rw[h0',Option.bind_some]
def fineB (c:UInt8):Bool:=decide (32≤c.toNat)&&decide (c.toNat≤126)
theorem ref3_fine (s:ByteArray) (hs:s.size≤1000000):qer s (ByteArray.mk #[])=some (s.data.toList.all fineB):=by
  unfold qer;rw[Nat.ble_eq_true_of_le (by omega),qe];have hlen:(qg s).length=s.size:=qbK s;have key:∀(k i:Nat),i+k=s.size→iterW (qaA s (ByteArray.mk #[])) (((i:Int),()),())=some (if (s.data.toList.drop i).all fineB=true then .inl ((),()) else .inr false):=by
    intro k
    induction k with
    | zero =>
      intro i hi
      have:i=s.size:=by omega
      subst this;rw[List.drop_of_length_le (by rw[←qo];exact Nat.le_refl _)];refine qt ?_;unfold qaA;simp only[hlen];rw[show decide (((s.size:Nat):Int)<((s.size:Nat):Int))=false by simp,cond_false];rfl
    | succ k ih =>
      intro i hi
      have hi2:i<s.data.toList.length:=by rw[←qo];omega
      have hd:s.data.toList.drop i=s.data.toList[i]::s.data.toList.drop (i+1):=List.drop_eq_getElem_cons hi2;have hg:getD' (qg s) i (0:Int)=((s.data.toList[i].toNat:Nat):Int):=by
        unfold getD' qg;rw[List.getD_eq_getElem?_getD,List.getElem?_map,List.getElem?_eq_getElem hi2];rfl
      have hin:iterW (qeF (ByteArray.mk #[]) s (((i:Int),()),())) (((0:Int),()),())=some (.inl ((),())):=qt rfl
      have hl1:decide ((i:Int)<((s.size:Nat):Int))=true:=by simp;omega
      have hl2:inb (i:Int) s.size=true:=by
        simp only[inb,Bool.and_eq_true,decide_eq_true_eq];omega
      rw[hd,List.all_cons];by_cases hf:fineB s.data.toList[i]=true
      · have hb:(decide (((s.data.toList[i].toNat:Nat):Int)<32)||decide (((s.data.toList[i].toNat:Nat):Int)>126))=false:=by
          unfold fineB at hf;simp only[Bool.and_eq_true,decide_eq_true_eq] at hf;simp only[Bool.or_eq_false_iff,decide_eq_false_iff_not];omega
        have e:qaA s (ByteArray.mk #[]) (((i:Int),()),())=some (.inl ((((i+1:Nat):Int),()),())):=by
          unfold qaA;simp only[hl2,qe,Int.toNat_natCast,hg,hb,hlen,hl1,cond_true,cond_false];rw[show Nat.ble (ByteArray.mk #[]).size 140737488355328=true from rfl,qe,hin,Option.bind_some,Sum.elim_inl,Option.bind_some,Sum.elim_inl,qaZ (by omega) (by omega)];rfl
        rw[qC e,ih (i+1) (by omega),hf,Bool.true_and]
      · have hb:(decide (((s.data.toList[i].toNat:Nat):Int)<32)||decide (((s.data.toList[i].toNat:Nat):Int)>126))=true:=by
          unfold fineB at hf;simp only[Bool.and_eq_true,decide_eq_true_eq] at hf;simp only[Bool.or_eq_true,decide_eq_true_eq];omega
        rw[Bool.not_eq_true _ |>.mp hf,Bool.false_and,if_neg (by decide)];refine qt ?_;unfold qaA;simp only[hl2,qe,Int.toNat_natCast,hg,hb,hlen,hl1,cond_true,cond_false];rw[show Nat.ble (ByteArray.mk #[]).size 140737488355328=true from rfl,qe,hin,Option.bind_some,Sum.elim_inl,Option.bind_some,Sum.elim_inr]
  have h0:=key s.size 0 (by omega);rw[List.drop_zero] at h0;have h0':iterW (qaA s (ByteArray.mk #[])) (((0:Int),()),())=_:=h0;rw[h0',Option.bind_some];by_cases hf:s.data.toList.all fineB=true
  · rw[if_pos hf,Sum.elim_inl,hf]
  · rw[if_neg hf,Sum.elim_inr,Bool.not_eq_true _ |>.mp hf]
theorem okt_of {s:ByteArray} (h:s.size≤200) (hf:s.data.toList.all fineB=true):OKT s:=by
  refine⟨h,fun c hc=>?_⟩;have:=List.all_eq_true.1 hf c hc;unfold fineB at this;simpa only[Bool.and_eq_true,decide_eq_true_eq] using this
theorem idx_bad (s:ByteArray):∀(f pos:Nat),s.size≤pos+f→(s.data.toList.drop pos).all fineB=false→0≤Go.Lib.idxFuncFrom qat true s f pos
  | 0,pos,h,hf=>by
    rw[List.drop_of_length_le (by rw[←qo];omega)] at hf;cases hf
  | f+1,pos,h,hf=>by
    by_cases hp:pos<s.size
    · have hp2:pos<s.data.toList.length:=by rw[←qo];exact hp
      have hg:s.data.toList[pos]=s[pos]:=rfl;rw[List.drop_eq_getElem_cons hp2,List.all_cons,hg] at hf;unfold Go.Lib.idxFuncFrom;rw[if_pos hp];by_cases ha:s[pos].toNat<128
      · rw[decode_ascii s pos hp ha];by_cases hb:fineB s[pos]=true
        · rw[hb,Bool.true_and] at hf;have hr:¬qat s[pos].toNat=true:=by
            unfold fineB at hb;unfold qat;simp only[Bool.and_eq_true,decide_eq_true_eq] at hb;simp only[Bool.or_eq_true,decide_eq_true_eq];omega
          rw[if_neg hr];exact idx_bad s f (pos+1) (by omega) hf
        · have hr:qat s[pos].toNat=true:=by
            unfold fineB at hb;unfold qat;simp only[Bool.and_eq_true,decide_eq_true_eq] at hb;simp only[Bool.or_eq_true,decide_eq_true_eq];omega
          rw[if_pos hr];omega
      · have h1:=(decode_high s pos hp (by omega)).1;have hr:qat (Utf8.decode s pos).1=true:=by
          unfold qat;simp only[Bool.or_eq_true,decide_eq_true_eq];omega
        rw[if_pos hr];omega
    · rw[List.drop_of_length_le (by rw[←qo];omega)] at hf;cases hf
theorem qf4 {s:ByteArray} (h:200<s.size):qm s=2:=by
  unfold qm;rw[if_pos h]
theorem text_form {s:ByteArray} (h:s.size≤200) (hf:s.data.toList.all fineB=false):qm s=3:=by
  unfold qm;rw[if_neg (by omega)];have:0≤Go.Lib.idxFunc qat true s:=idx_bad s s.size 0 (by omega) (by rw[List.drop_zero];exact hf);rw[if_pos this]
theorem qfO {l:Jn} (h:JOK l) {s:ByteArray} (v:Int) (hv:v≠0) (hs:qm s=v):qW l s=some ([],(v,())):=by
  unfold qW;rw[qe4 h,Option.bind_some,show((0:Int)!=0)=false from rfl,cond_false,hs,bne_t hv,cond_true]
theorem qfL (b:Int) (x:ByteArray×Int×Unit):∃v,qk b x=some v:=by
  unfold qk;by_cases h:qm x.1=0
  · have hs:x.1.size≤200:=by
      rcases Nat.lt_or_ge 200 x.1.size with c | c
      · rw[qf4 c] at h;cases h
      · exact c
    rw[h,show((0:Int)!=0)=false from rfl,cond_false,qbd _ _ (by omega),Option.bind_some];cases (x.2.1 !=sumJ b x.1)
    · exact⟨_,rfl⟩
    · exact⟨_,rfl⟩
  · rw[bne_t h,cond_true];exact⟨_,rfl⟩
theorem qgj (s:ByteArray):(⟨s.data.toList.toArray⟩:ByteArray)=s:=qd9 rfl
theorem rec_total:∀(n:Nat) (s:ByteArray) (l:Jn),s.size≤n→n≤140737488355328→l.length≤1000→∃(s':ByteArray) (l':Jn),iterW qf ((s,(l,())),())=some ((s',(l',())),())∧l.length≤l'.length∧(l'.length=l.length→s'=s):=by
  intro n
  induction n with
  | zero =>
    intro s l hs hn hl;have h10:(10:UInt8)∉s.data.toList:=by
      have:s.data.toList=[]:=List.length_eq_zero_iff.1 (by rw[←qo];omega);rw[this];exact List.not_mem_nil
    have:=qhv (l:=l) s.data.toList h10;rw[qgj] at this;exact⟨s,l,this,Nat.le_refl _,fun _=>rfl⟩
  | succ n ih =>
    intro s l hs hn hl;by_cases h10:(10:UInt8)∈s.data.toList
    · obtain⟨a,b,e,ha⟩:=List.eq_append_cons_of_mem h10;have hz:=congrArg List.length e;rw[←qo,List.length_append,List.length_cons] at hz;by_cases hc:l.length<1000
      · have hcut:=qg6 s a b e ha (by omega);have hja:=qfH ⟨a.toArray⟩ (by rw[qo];show a.length≤_;omega);have stop:∀(r3:(ByteArray×Int×Unit)×Bool×Unit) (v:Int),qaB ⟨a.toArray⟩=some r3→qk (lastJ l) r3.1=some v→(r3.2.1=false∨v≠0)→qf ((s,(l,())),())=some (.inr ((s,(l,())),())):=by
          intro r3 v h1 h2 h3;unfold qf;simp only;rw[decide_eq_true (show((l.length:Nat):Int)<1000 by omega),cond_true];refine(congrArg (fun q=>Option.bind q _) hcut).trans ?_;rw[Option.bind_some];simp only[Bool.not_true,cond_false];refine(congrArg (fun q=>Option.bind q _) h1).trans ?_;rw[Option.bind_some];cases hb:r3.2.1
          · simp[gopt]
          · rcases h3 with h3 | h3
            · rw[h3] at hb;cases hb
            · simp only[Bool.not_true,Bool.not_false,gopt,cond_true,Bool.false_or];rw[qaT l (by omega),Option.bind_some,h2,Option.bind_some,bne_t h3,cond_true]
        by_cases hf:fineL ⟨a.toArray⟩=true
        · rw[if_pos hf] at hja;obtain⟨v,hv⟩:=qfL (lastJ l) ((⟨a.toArray⟩:ByteArray).extract 17 (⟨a.toArray⟩:ByteArray).size,(((valH ((⟨a.toArray⟩:ByteArray).data.toList.take 16):Nat):Int),()));by_cases hv0:v=0
          · subst hv0;have step:qf ((s,(l,())),())=some (.inl ((⟨b.toArray⟩,(l++[((⟨a.toArray⟩:ByteArray).extract 17 (⟨a.toArray⟩:ByteArray).size,(((valH ((⟨a.toArray⟩:ByteArray).data.toList.take 16):Nat):Int),()))],())),())):=by
              unfold qf;simp only;rw[decide_eq_true (show((l.length:Nat):Int)<1000 by omega),cond_true];refine(congrArg (fun q=>Option.bind q _) hcut).trans ?_;rw[Option.bind_some];simp only[Bool.not_true,cond_false];refine(congrArg (fun q=>Option.bind q _) hja).trans ?_;rw[Option.bind_some];simp only[Bool.not_true,Bool.not_false,gopt,cond_true,Bool.false_or];rw[qaT l (by omega),Option.bind_some,hv,Option.bind_some,bne_self_eq_false,cond_false,qdK (by rw[List.length_singleton];omega),qe]
            obtain⟨s',l',h1,h2,h3⟩:=ih ⟨b.toArray⟩ (l++[((⟨a.toArray⟩:ByteArray).extract 17 (⟨a.toArray⟩:ByteArray).size,(((valH ((⟨a.toArray⟩:ByteArray).data.toList.take 16):Nat):Int),()))]) (by rw[qo];show b.length≤n;omega) (by omega) (by rw[List.length_append,List.length_singleton];omega);rw[List.length_append,List.length_singleton] at h2;exact⟨s',l',(qC step).trans h1,by omega,fun e=>by omega⟩
          · exact⟨s,l,qt (stop _ v hja hv (.inr hv0)),Nat.le_refl _,fun _=>rfl⟩
        · rw[if_neg hf] at hja;obtain⟨v,hv⟩:=qfL (lastJ l) ((ByteArray.mk #[],((0:Int),())));exact⟨s,l,qt (stop _ v hja hv (.inl rfl)),Nat.le_refl _,fun _=>rfl⟩
      · refine⟨s,l,qt ?_,Nat.le_refl _,fun _=>rfl⟩;unfold qf;rw[decide_eq_false (show ¬((l.length:Nat):Int)<1000 by omega),cond_false]
    · have:=qhv (l:=l) s.data.toList h10;rw[qgj] at this;exact⟨s,l,this,Nat.le_refl _,fun _=>rfl⟩
theorem qd5 {l:Jn} (h:JOK l) (s:ByteArray) (hs:s.size≤140737488355328):∃(s':ByteArray) (l':Jn),qI ((⟨(textB l).toArray⟩:ByteArray)++s)=some (l',(s',()))∧l.length≤l'.length∧(l'.length=l.length→s'=s):=by
  have e:(⟨(textB l).toArray⟩:ByteArray)++s=⟨(textB l++s.data.toList).toArray⟩:=qd9 (by rw[qbR]);obtain⟨s',l',h1,h2,h3⟩:=rec_total 140737488355328 s l hs (Nat.le_refl _) h.1;refine⟨s',l',?_,h2,h3⟩;have:=qe5 h (qep h) s.data.toList (by rw[←qo];omega) l.length 0 (by omega);rw[List.drop_zero,List.take_length,Nat.zero_add,List.take_length,List.take_zero,qgj,h1] at this;rw[e];unfold qI;refine(congrArg (fun q=>Option.bind q _) this).trans ?_;rfl
theorem read_own {l:Jn} (h:JOK l):qbt ⟨(textB l).toArray⟩=some (l,(0,())):=by
  obtain⟨s',l',h1,h2,h3⟩:=qd5 h (ByteArray.mk #[]) (by decide);have h4:qI ⟨(textB l).toArray⟩=some (l,(ByteArray.mk #[],())):=by
    have:=qe5 h (qep h) [] (by simp) l.length 0 (by omega);rw[List.drop_zero,List.take_length,Nat.zero_add,List.take_length,List.take_zero,List.append_nil,qhv (l:=l) [] (by simp)] at this;unfold qI;refine(congrArg (fun q=>Option.bind q _) this).trans ?_;rfl
  unfold qbt;rw[h4,Option.bind_some];simp only[beq_self_eq_true,cond_true]
theorem good_upto {l:Jn} (hl:l.length≤1000) (n:Nat) (hn:n<l.length) (hr:∀i (hi:i<l.length),i<n→OKT l[i].1∧l[i].2.1=sumJ (lastJ (l.take i)) l[i].1) (v:Int) (hw:qk (lastJ (l.take n)) l[n]=some v) (hv:v≠0):qJ l=some (n:Int):=by
  unfold qJ;have pre:∀i (hi:i<l.length),∀v,qk (lastJ (l.take i)) l[i]=some v→qr l (((i:Int),()),())=bif (v !=0) then some (.inr (.inr (i:Int))) else some (.inl ((((i+1:Nat):Int),()),())):=by
    intro i hi v hv;unfold qr;have hne:((i:Int)==1000)=false:=beq_f (by omega);simp only[ltd l i hi,cond_true];rw[qbN l i hi,Option.bind_some];have hb:qh 0 (i:Int) l.length=true:=by
      simp only[qh,Bool.and_eq_true,decide_eq_true_eq];omega
    simp only[hne,Bool.not_false,imp,cond_true,hb,qe,gopt,Int.toNat_natCast,List.drop_zero,Bool.false_or];rw[qaT _ (by rw[List.length_take];omega),Option.bind_some,hv,Option.bind_some,qaZ (by omega) (by omega)];rfl
  have key:∀(k i:Nat),i+k=n→iterW (qr l) (((i:Int),()),())=some (.inr (n:Int)):=by
    intro k
    induction k with
    | zero =>
      intro i hi
      obtain rfl:i=n:=by omega
      refine qt ?_;rw[pre i hn v hw,bne_t hv,cond_true]
    | succ k ih =>
      intro i hi;obtain⟨h1,h2⟩:=hr i (by omega) (by omega);have hw0:qk (lastJ (l.take i)) l[i]=some 0:=by
        unfold qk;rw[qdG h1,show((0:Int)!=0)=false from rfl,cond_false,qbd _ _ (by have:=h1.1;omega),Option.bind_some,h2,bne_f rfl,cond_false]
      have e:=pre i (by omega) 0 hw0;rw[show((0:Int)!=0)=false from rfl,cond_false] at e;rw[qC e];exact ih (i+1) (by omega)
  have h0:=key n 0 (by omega);have h0':iterW (qr l) (((0:Int),()),())=_:=h0;rw[h0',Option.bind_some,Sum.elim_inr]
theorem ba_beq (a b:ByteArray):(a==b)=true↔a=b:=by
  obtain⟨x⟩:=a;obtain⟨y⟩:=b;have:((⟨x⟩:ByteArray)==⟨y⟩)=(x==y):=rfl;rw[this,beq_iff_eq];constructor
  · intro h;rw[h]
  · intro h;exact congrArg ByteArray.data h
theorem ba_self (a:ByteArray):(a==a)=true:=(ba_beq a a).2 rfl
theorem qg8 (a b:Jn) (hl:a.length=b.length) (ha:a.length≤1000000) (i:Nat) (hi:i<a.length):qd a b (((i:Int),()),())=if a[i].1=(b[i]'(by omega)).1∧a[i].2.1=(b[i]'(by omega)).2.1 then some (.inl ((((i+1:Nat):Int),()),())) else some (.inr (.inr false)):=by
  unfold qd;simp only[ltd a i hi,cond_true];rw[qbN a i hi,Option.bind_some,qbN b i (by omega),Option.bind_some,qaZ (by omega) (by omega)];by_cases h:a[i].1=(b[i]'(by omega)).1∧a[i].2.1=(b[i]'(by omega)).2.1
  · rw[if_pos h,h.1,h.2,ba_self];simp
  · rw[if_neg h];have:((a[i].1==(b[i]'(by omega)).1)&&((a[i].2.1==(b[i]'(by omega)).2.1)&&true))=false:=by
      rw[Bool.and_true,Bool.eq_false_iff];intro c;rw[Bool.and_eq_true,ba_beq,beq_iff_eq] at c;exact h c
    rw[this];rfl
theorem eq_same (a:Jn) (ha:a.length≤1000000):qi a a=some true:=by
  unfold qi;rw[bne_f rfl,cond_false];have key:∀(k i:Nat),i+k=a.length→iterW (qd a a) (((i:Int),()),())=some (.inl ((),())):=by
    intro k
    induction k with
    | zero =>
      intro i hi
      obtain rfl:i=a.length:=by omega
      refine qt ?_;unfold qd;simp
    | succ k ih =>
      intro i hi;have e:=qg8 a a rfl ha i (by omega);rw[if_pos ⟨rfl,rfl⟩] at e;rw[qC e];exact ih (i+1) (by omega)
  have h0:=key a.length 0 (by omega);have h0':iterW (qd a a) (((0:Int),()),())=_:=h0;rw[h0',Option.bind_some,Sum.elim_inl]
theorem eq_diff (a b:Jn) (hl:a.length=b.length) (ha:a.length≤1000000) (n:Nat) (hn:n<a.length) (hs:∀i (hi:i<a.length),i<n→a[i]=b[i]'(by omega)) (hd:a[n].2.1≠(b[n]'(by omega)).2.1):qi a b=some false:=by
  unfold qi;rw[bne_f (by omega),cond_false];have key:∀(k i:Nat),i+k=n→iterW (qd a b) (((i:Int),()),())=some (.inr false):=by
    intro k
    induction k with
    | zero =>
      intro i hi
      obtain rfl:i=n:=by omega
      have e:=qg8 a b hl ha i hn;rw[if_neg (fun h=>hd h.2)] at e;exact qt e
    | succ k ih =>
      intro i hi;have e:=qg8 a b hl ha i (by omega);rw[if_pos (by rw[hs i (by omega) (by omega)];exact⟨rfl,rfl⟩)] at e;rw[qC e];exact ih (i+1) (by omega)
  have h0:=key n 0 (by omega);have h0':iterW (qd a b) (((0:Int),()),())=_:=h0;rw[h0',Option.bind_some,Sum.elim_inr]
theorem qf3 (l m:Jn) (h:m.length≤l.length):qB l m=qi (l.take m.length) m:=by
  unfold qB
  have hd:decide (((l.length:Nat):Int)≥((m.length:Nat):Int))=true:=by simp;omega
  have hb:qh 0 ((m.length:Nat):Int) l.length=true:=by
    simp only[qh,Bool.and_eq_true,decide_eq_true_eq];omega
  simp only[hd,hb,imp,cond_true,qe,gopt,Int.toNat_natCast,List.drop_zero,Bool.true_and]
  cases qi (l.take m.length) m<;>rfl
theorem xor_ne (a b:Int) (ha:0≤a∧a≤18446744073709551615) (hb:0≤b∧b≤18446744073709551615) (h:b≠0):ixor .u64 a b≠a:=by
  obtain⟨m,rfl⟩:=Int.eq_ofNat_of_zero_le ha.1;obtain⟨n,rfl⟩:=Int.eq_ofNat_of_zero_le hb.1;intro e;have hx:m ^^^ n<2 ^ 64:=Nat.xor_lt_two_pow (by omega) (by omega);have h1:(BitVec.ofInt 64 (m:Int)).toNat=m:=by
    rw[BitVec.ofInt_natCast,BitVec.toNat_ofNat];exact Nat.mod_eq_of_lt (by omega)
  have h2:(BitVec.ofInt 64 (n:Int)).toNat=n:=by
    rw[BitVec.ofInt_natCast,BitVec.toNat_ofNat];exact Nat.mod_eq_of_lt (by omega)
  have e2:IntKind.u64.wrap ((BitVec.ofInt 64 (m:Int) ^^^ BitVec.ofInt 64 (n:Int)).toNat:Int)=(m:Int):=e;rw[BitVec.toNat_xor,h1,h2,IntKind.wrap_u64] at e2
  have e3:m ^^^ n=m:=by omega
  have e4:=congrArg (m ^^^ ·) e3;simp only[←Nat.xor_assoc,Nat.xor_self,Nat.zero_xor] at e4;exact h (by omega)
theorem qhO {A:Type} (l:List A):(l.take (if (30:Int)<((l.length:Nat):Int) then(30:Int) else((l.length:Nat):Int)).toNat).drop 0=l.take 30:=by
  rw[List.drop_zero];split
  · rfl
  · rw[Int.toNat_natCast,List.take_length,List.take_of_length_le (by omega)]
theorem qif (l:Jn) (s:ByteArray):lastJ (nextJ l s)=sumJ (lastJ l) s:=by
  unfold nextJ;generalize sumJ (lastJ l) s=v;unfold lastJ;rw[List.getLast?_append];rfl
theorem qip (l:Jn) (s:ByteArray):textB (nextJ l s)=textB l++(hex16 (sumJ (lastJ l) s).toNat++32::s.data.toList++[10]):=by
  unfold nextJ textB lineJ;rw[List.flatMap_append];simp
theorem says_step (texts:List ByteArray) (i:Nat) (hi:i<(texts.take 30).length) (l:Jn) (h:JOK l) (hl:l.length=i) (want:ByteArray) (hwant:want=⟨(textB l).toArray⟩) :
    ql texts ((l,(lastJ l,(want,((i:Int),())))),())=some (.inr (.inr true)) ∨
    ∃s,JOK (nextJ l s)∧ql texts ((l,(lastJ l,(want,((i:Int),())))),())=some (.inl ((nextJ l s,(lastJ (nextJ l s),((⟨(textB (nextJ l s)).toArray⟩:ByteArray),(((i+1:Nat):Int),())))),())):=by
  have hi30:i<30:=by rw[List.length_take] at hi;omega
  have hlt:decide ((i:Int)<(((texts.take 30).length:Nat):Int))=true:=ltd _ i hi
  have hbt:=qdo (l:=l) (fun x hx=>by
    obtain⟨j,hj,rfl⟩:=List.mem_iff_getElem.1 hx
    exact(h.2 j hj).1.1)
  by_cases h200:200<(texts.take 30)[i].size
  · refine .inl ?_;unfold ql;simp only[qhO,hlt,cond_true];rw[qbN _ i hi,Option.bind_some,qfO h 2 (by decide) (qf4 h200),Option.bind_some,decide_eq_true (show(((texts.take 30)[i].size:Nat):Int)>200 by omega),cond_true];rfl
  · have hd200:decide ((((texts.take 30)[i].size:Nat):Int)>200)=false:=by rw[decide_eq_false_iff_not];omega
    have hfine:=ref3_fine (texts.take 30)[i] (by omega);cases hf:(texts.take 30)[i].data.toList.all fineB
    · refine .inl ?_;rw[hf] at hfine;unfold ql;simp only[qhO,hlt,cond_true];rw[qbN _ i hi,Option.bind_some,qfO h 3 (by decide) (text_form (by omega) hf),Option.bind_some,hd200,cond_false,hfine,Option.bind_some];rfl
    · rw[hf] at hfine;have hok:=okt_of (by omega) hf;obtain⟨ha,hj⟩:=qfP h (by omega) hok;obtain⟨t,hteq⟩:∃t,(texts.take 30)[i]=t:=⟨_,rfl⟩;have hap:=ha;rw[hteq] at h200 hd200 hfine hf hok hj;rw[show nextJ l (texts.take 30)[i]=nextJ l t by rw[hteq]] at hap;refine .inr ⟨t,hj,?_⟩;have hrng:=qhS (lastJ l) t (by omega);have hsum:=qgi (lastJ l) t (by omega);obtain⟨n,hn⟩:=Int.eq_ofNat_of_zero_le hrng.1;have hhex:qex (sumJ (lastJ l) t)=some ⟨(hex16 (sumJ (lastJ l) t).toNat).toArray⟩:=by
        rw[hn,Int.toNat_natCast];exact ref3_hex (by omega)
      have htb:=qip l t;have hlast:=qif l t
      have hz:(⟨(hex16 (sumJ (lastJ l) t).toNat).toArray⟩:ByteArray).size=16:=by rw[qo];exact qa5 _
      generalize hg:(⟨(hex16 (sumJ (lastJ l) t).toNat).toArray⟩:ByteArray)=hx at hhex hz
      have hxd:hx.data.toList=hex16 (sumJ (lastJ l) t).toNat:=by rw[←hg]
      have z1:(hx++ByteArray.mk #[32]).size=17:=by rw[qo,qbR,List.length_append,←qo,hz];rfl
      have z2:((hx++ByteArray.mk #[32])++t).size=17+t.size:=by rw[qo,qbR,List.length_append,←qo,←qo,z1]
      have z3:(((hx++ByteArray.mk #[32])++t)++ByteArray.mk #[10]).size=18+t.size:=by
        rw[qo,qbR,List.length_append,←qo,z2];show 17+t.size+1=_;omega
      have zw:want.size≤218*30:=by
        rw[hwant,qo];show(textB l).length≤_;omega
      have r1:qH hx (ByteArray.mk #[32])=true:=Nat.ble_eq_true_of_le (by rw[hz];decide);have r2:qH (hx++ByteArray.mk #[32]) t=true:=Nat.ble_eq_true_of_le (by omega);have r3:qH ((hx++ByteArray.mk #[32])++t) (ByteArray.mk #[10])=true:=Nat.ble_eq_true_of_le (by rw[z2];show 17+t.size+1≤_;omega);have r4:qH want (((hx++ByteArray.mk #[32])++t)++ByteArray.mk #[10])=true:=Nat.ble_eq_true_of_le (by omega)
      have hlen:(nextJ l t).length=l.length+1:=by unfold nextJ;rw[List.length_append,List.length_singleton]
      have hget:getD' (nextJ l t) l.length (ByteArray.empty,((0:Int),()))=(t,(sumJ (lastJ l) t,())):=by
        unfold getD' nextJ;rw[List.getD_eq_getElem?_getD,List.getElem?_append_right (Nat.le_refl _),Nat.sub_self];rfl
      have hin:inb ((l.length:Nat):Int) (nextJ l t).length=true:=by
        rw[hlen];simp only[inb,Bool.and_eq_true,decide_eq_true_eq];omega
      have b1:((((nextJ l t).length:Nat):Int)!=w64 (((l.length:Nat):Int)+1))=false:=by
        rw[hlen,qaZ (by omega) (by omega)];exact bne_f (by omega)
      have ew:want++(((hx++ByteArray.mk #[32])++t)++ByteArray.mk #[10])=⟨(textB (nextJ l t)).toArray⟩:=qd9 (by
        rw[qbR,qbR,qbR,qbR,hxd,hwant];show textB l++(hex16 _++[32]++t.data.toList++[10])=textB (nextJ l t);rw[htb]
        simp)
      unfold ql;simp only[qhO,hlt,cond_true];rw[qbN _ i hi,Option.bind_some];refine(congrArg (fun q=>Option.bind q _) hap).trans ?_;rw[Option.bind_some];simp only[hteq,hd200,cond_false];rw[hfine,Option.bind_some];simp only[Bool.not_true,cond_false];rw[hsum,Option.bind_some,hhex,Option.bind_some,r1,qe,r2,qe,r3,qe,r4,qe];simp only[b1,hget,Int.toNat_natCast,hin,ba_self,beq_self_eq_true,Bool.and_true,Bool.not_true,Bool.not_false,Bool.or_false,show((0:Int)!=0)=false from rfl,imp,cond_true,cond_false,qe,gopt];rw[qbd 0 t (by omega),Option.bind_some,qgi 0 t (by omega),Option.bind_some,bne_self_eq_false,Bool.or_false,cond_false,ew,hlast,qaZ (by omega) (by omega)];rfl
theorem says_loop (texts:List ByteArray):∀(k i:Nat) (l:Jn) (want:ByteArray),i+k=(texts.take 30).length→JOK l→l.length=i→want=⟨(textB l).toArray⟩ →
    (∃(l':Jn) (w':ByteArray),JOK l'∧l'.length≤30∧w'=⟨(textB l').toArray⟩∧iterW (ql texts) ((l,(lastJ l,(want,((i:Int),())))),())=some (.inl ((l',(w',())),()))) ∨
    iterW (ql texts) ((l,(lastJ l,(want,((i:Int),())))),())=some (.inr true):=by
  intro k
  induction k with
  | zero =>
    intro i l want hi h hl hw;refine .inl ⟨l,want,h,by rw[List.length_take] at hi;omega,hw,qt ?_⟩;unfold ql;simp only[qhO];rw[decide_eq_false (show ¬((i:Int)<(((texts.take 30).length:Nat):Int)) by omega),cond_false]
  | succ k ih =>
    intro i l want hi h hl hw;rcases says_step texts i (by omega) l h hl want hw with e | ⟨s,hj,e⟩
    · exact .inr (qt e)
    · rw[qC e];exact ih (i+1) (nextJ l s) _ (by omega) hj (by unfold nextJ;rw[List.length_append,List.length_singleton,hl]) rfl
theorem qgg:qbF=some true:=by
  have hok:OKT (ByteArray.mk #[97]):=⟨by decide,by decide⟩;unfold qbF;refine(congrArg (fun q=>Option.bind q _) (qfP qhN (Nat.zero_lt_succ _) hok).1).trans ?_;rw[Option.bind_some];have hn:nextJ [] (ByteArray.mk #[97])=[(ByteArray.mk #[97],(sumJ 0 (ByteArray.mk #[97]),()))]:=rfl;simp only[hn,List.length_singleton,beq_self_eq_true,Bool.true_and,show(((1:Nat):Int)==1)=true from rfl,imp,cond_true,gopt];rw[show inb 0 1=true from rfl,qe,qgi 0 _ (by decide),Option.bind_some];simp only[getD',List.getD_cons_zero,beq_self_eq_true]
theorem idx_in (a:Int) (ha : -9223372036854775808≤a∧a≤9223372036854775807) (z:Nat) (h0:0<z) (hz:z≤1000000):∃n:Nat,n<z∧(w64 ((a.tmod ((z:Nat):Int))+((z:Nat):Int))).tmod ((z:Nat):Int)=(n:Int):=by
  have h1:=Int.tmod_lt_of_pos a (show(0:Int)<((z:Nat):Int) by omega);have h2:=Int.lt_tmod_of_pos a (show(0:Int)<((z:Nat):Int) by omega);generalize a.tmod ((z:Nat):Int)=b at h1 h2;rw[qaZ (n:=b+((z:Nat):Int)) (by omega) (by omega)];have h3:=Int.tmod_lt_of_pos (b+((z:Nat):Int)) (show(0:Int)<((z:Nat):Int) by omega);have h4:=Int.tmod_nonneg ((z:Nat):Int) (show(0:Int)≤b+((z:Nat):Int) by omega);exact⟨((b+((z:Nat):Int)).tmod ((z:Nat):Int)).toNat,by omega,by omega⟩
theorem jwrong_15 {b:Int} {x:ByteArray×Int×Unit} (h:OKT x.1) (hd:x.2.1≠sumJ b x.1):qk b x=some 15:=by
  unfold qk;rw[qdG h,show((0:Int)!=0)=false from rfl,cond_false,qbd _ _ (by have:=h.1;omega),Option.bind_some,bne_t hd,cond_true]
theorem bad_facts {l:Jn} (h:JOK l) (n:Nat) (hn:n<l.length) (v:Int) (hv:v≠l[n].2.1) (bad:Jn) (hbad:bad=l.set n (l[n].1,(v,()))) :
    qJ bad=some (n:Int)∧qQ bad=some 15∧qB l bad=some false:=by
  have hl:=h.1
  have hlen:bad.length=l.length:=by rw[hbad,List.length_set]
  have htake:∀i,i≤n→bad.take i=l.take i:=fun i hi=>by rw[hbad,List.take_set_of_le (by omega)]
  have hat:bad[n]'(by omega)=(l[n].1,(v,())):=by simp[hbad]
  have hold:∀i (hi:i<l.length),i<n→bad[i]'(by omega)=l[i]:=fun i hi hin=>by
    simp only[hbad];rw[List.getElem_set_ne (by omega)]
  obtain⟨o1,o2⟩:=h.2 n hn;have hw:qk (lastJ (bad.take n)) (bad[n]'(by omega))=some 15:=by
    rw[hat,htake n (Nat.le_refl _)];exact jwrong_15 o1 (by rw[←o2];exact hv)
  have hgood:qJ bad=some (n:Int):=good_upto (by omega) n (by omega) (fun i hi hin=>by
    rw[hold i (by omega) hin,htake i (by omega)]
    exact h.2 i (by omega)) 15 hw (by decide)
  refine⟨hgood,?_,?_⟩
  · unfold qQ;have hb:qh 0 (n:Int) bad.length=true:=by
      simp only[qh,Bool.and_eq_true,decide_eq_true_eq];omega
    rw[decide_eq_false (show ¬(((bad.length:Nat):Int)>1000) by omega),cond_false,hgood,Option.bind_some,decide_eq_true (show(n:Int)<((bad.length:Nat):Int) by omega),cond_true,hb,qe,Int.toNat_natCast,List.drop_zero,qaT _ (by rw[List.length_take];omega),Option.bind_some,qbN bad n (by omega),Option.bind_some,hw,Option.bind_some]
  · rw[qf3 l bad (by omega),hlen,List.take_length];exact eq_diff l bad (by omega) (by omega) n hn (fun i hi hin=>(hold i hi hin).symm) (by rw[hat];exact fun e=>hv e.symm)
theorem law3JournalSays_true (texts:List ByteArray) (at':Int) (by':Int) (s:ByteArray) (ht:Rng (.sl .str) texts) (hat:Rng (.int .i64) at') (hby:Rng (.int .u64) by') (hs:Rng .str s) (hsz:s.size≤140737488355328):qbi texts at' by' s=some true:=by
  have hat' : -9223372036854775808≤at'∧at'≤9223372036854775807:=hat;have hby':0≤by'∧by'≤18446744073709551615:=hby;unfold qbi;have hb0:qh (0:Int) (if (30:Int)<((texts.length:Nat):Int) then(30:Int) else((texts.length:Nat):Int)) texts.length=true:=by
    simp only[qh,Bool.and_eq_true,decide_eq_true_eq]
    split<;>omega
  rw[qgg,Option.bind_some,Bool.not_true,cond_false,hb0,qe];have h0:=says_loop texts (texts.take 30).length 0 [] (ByteArray.mk #[]) (by omega) qhN rfl rfl;rcases h0 with ⟨l,w,h,hl,hw,e⟩ | e
  · have e':iterW (ql texts) ((([]:List (ByteArray×Int×Unit)),(0:Int),(ByteArray.mk #[]),(0:Int),()),())=_:=e;rw[e',Option.bind_some,Sum.elim_inl];simp only
    have hwr:qa4 l=some (w,(0,())):=by rw[hw];exact qix h (qep h)
    have hrd:qbt w=some (l,(0,())):=by rw[hw];exact read_own h
    obtain⟨s',y,hrc,hy1,hy2⟩:=qd5 h s hsz;rw[←hw] at hrc
    have hbt:=qdo (l:=l) (fun x hx=>by
      obtain⟨j,hj,rfl⟩:=List.mem_iff_getElem.1 hx
      exact(h.2 j hj).1.1)
    have hroom:qH w s=true:=Nat.ble_eq_true_of_le (by
      rw[hw,qo];show(textB l).length+_≤_
      omega)
    have hgood:=good_ok h;have c1:((((((((0:Int)!=(0:Int))||(!(w.toList==w.toList)))||((0:Int)!=(0:Int)))||(((l.length:Nat):Int)!=((l.length:Nat):Int)))||(decide (((y.length:Nat):Int)<((l.length:Nat):Int))))||((((y.length:Nat):Int)==((l.length:Nat):Int))&&(!(s'.toList==s.toList)))))=false:=by
      have d1:decide (((y.length:Nat):Int)<((l.length:Nat):Int))=false:=by rw[decide_eq_false_iff_not];omega
      have d2:((((y.length:Nat):Int)==((l.length:Nat):Int))&&(!(s'.toList==s.toList)))=false:=by
        by_cases c:y.length=l.length
        · rw[hy2 c,beq_self_eq_true,Bool.not_true,Bool.and_false]
        · rw[beq_f (by omega)];rfl
      rw[d1,d2,beq_self_eq_true,bne_self_eq_false,bne_self_eq_false];rfl
    rw[hwr,Option.bind_some];simp only;rw[hrd,Option.bind_some,hroom,qe,hrc,Option.bind_some];simp only[c1,Bool.not_false,gopt,cond_true,Bool.false_or];rw[hgood,Option.bind_some,bne_self_eq_false,cond_false];by_cases c0:(((l.length:Nat):Int)==0||by'==0)=true
    · rw[c0,cond_true]
    · rw[Bool.not_eq_true _ |>.mp c0,cond_false];rw[Bool.not_eq_true,Bool.or_eq_false_iff,beq_eq_false_iff_ne,beq_eq_false_iff_ne] at c0;obtain⟨cl,cb⟩:=c0
      have hpos:0<l.length:=by omega
      obtain⟨n,hn,hidx⟩:=idx_in at' hat' l.length hpos (by omega);obtain⟨g0,g1⟩:=qep h l[n] (List.getElem_mem hn);have hne:=xor_ne l[n].2.1 by' ⟨g0,g1⟩ hby' cb;obtain⟨f1,f2,f3⟩:=bad_facts h n hn _ hne _ rfl;have hinb:inb (n:Int) l.length=true:=by
        simp only[inb,Bool.and_eq_true,decide_eq_true_eq];omega
      have hroom2:room (([]:Jn).length+l.length) 24=true:=qdK (by simp;omega);have hgetD:getD' l n (ByteArray.empty,((0:Int),()))=l[n]:=by
        unfold getD';rw[List.getD_eq_getElem?_getD,List.getElem?_eq_getElem hn];rfl
      have hbd:qh (0:Int) (n:Int) l.length=true:=by
        simp only[qh,Bool.and_eq_true,decide_eq_true_eq];omega
      have hlz:(((l.length:Nat):Int)!=0)=true:=bne_t cl;have hext:qB l (l.take n)=some true:=by
        rw[qf3 l _ (by rw[List.length_take];omega),List.length_take,Nat.min_eq_left (by omega)];exact eq_same _ (by rw[List.length_take];omega)
      simp only[hidx,List.nil_append,Int.toNat_natCast,hgetD,hlz,qe,hinb,List.drop_zero];rw[hroom2,qe,f1,Option.bind_some];simp only[beq_self_eq_true,gopt,cond_true,Bool.true_and];rw[f2,Option.bind_some];simp only[beq_self_eq_true,cond_true];rw[hbd,qe,hext,Option.bind_some];simp only[cond_true];rw[f3,Option.bind_some];rfl
  · have e':iterW (ql texts) ((([]:List (ByteArray×Int×Unit)),(0:Int),(ByteArray.mk #[]),(0:Int),()),())=_:=e;rw[e',Option.bind_some,Sum.elim_inr]
end Go.Proofs.YtlfpfiplndkofaaDoor
