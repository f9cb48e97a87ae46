/- Several texts in one: CoreA, CoreB, Search, SearchP, SearchQ, SearchR, CoreT, RetA, RetB, RetC, RetD, RetE, RetF, RetG, RetH, RetI, RetJ, RetK, RetL, RetM. -/
import Derived.Test.YtkkoolcdonhoaaaGreatDoorMAE
import Derived.Test.YtkkoolcdonhoaaaGreatDoorMAD
namespace Go.Proofs.YtkkoolcdonhoaaaGreatDoor
open Go.Den
set_option linter.unusedVariables false
set_option linter.unusedSimpArgs false
set_option maxRecDepth 100000

def qlk (p:Place) (m:Mv):Int:=2*m.2.2.1+p.turn+1
def cellsA (p:Place) (m:Mv):List Int:=(bif decide (m.1≥0) then p.1.set m.1.toNat 0 else p.1).set m.2.1.toNat (qlk p m)
def handD (m:Mv) (h:List Int):List Int:=bif decide (m.1≥0) then h else h.set m.2.2.1.toNat (h.getD m.2.2.1.toNat 0-1)
def handK (r:Rules) (c:Int) (h:List Int):List Int:=bif decide (c>0)&&r.keeps then h.set (qb9 c).toNat (if 1000<h.getD (qb9 c).toNat 0+1 then 1000 else h.getD (qb9 c).toNat 0+1) else h
def handA (r:Rules) (p:Place) (m:Mv) (h:List Int):List Int:=handK r (cellI p m.2.1) (handD m h)
def qne (p:Place) (m:Mv):Int:=bif decide (cellI p m.2.1>0)||decide (m.1<0) then 0 else if 200<p.quiet+1 then 200 else p.quiet+1
def qd (r:Rules) (p:Place) (m:Mv):Place:=(cellsA p m,((bif p.turn==0 then handA r p m p.2.1.1 else p.2.1.1),(bif p.turn==0 then p.2.1.2.1 else handA r p m p.2.1.2.1),()),1-p.turn,qne p m,())
theorem qo2 {r:Rules} {p:Place} (h:Valid r p):qbY p=some p:=by
  have h64:=qch h;have ht:=h.r0.t6;have a0:p.2.1.1.length=r.pieces.length:=h.l0;have a1:p.2.1.2.1.length=r.pieces.length:=h.l1;unfold qbY;rw[qeL p.1 (by omega),qeL p.2.1.1 (by omega),qeL p.2.1.2.1 (by omega)];simp only[Option.bind_some,agree_self]
theorem qfM {r:Rules} {p:Place} {m:Mv} (ha:qN r p m=true):(-1≤m.1∧m.1<((p.1.length:Nat):Int))∧(0≤m.2.1∧m.2.1<((p.1.length:Nat):Int))∧(0≤m.2.2.1∧m.2.2.1<((r.pieces.length:Nat):Int)):=by
  unfold qN mvOk at ha;rw[Bool.and_eq_true,decide_eq_true_eq] at ha;exact ha.1
theorem qif {r:Rules} {p:Place} {m:Mv} (ha:qN r p m=true) (hm:m.1 = -1):handI p m.2.2.1>0∧cellI p m.2.1=0:=by
  unfold qN putOk at ha;rw[beq_t hm,cond_true] at ha;simp only[Bool.and_eq_true,decide_eq_true_eq,beq_iff_eq] at ha;exact⟨ha.2.1,ha.2.2.1⟩
theorem qmi (m:Mv) (h:List Int):(handD m h).length=h.length:=by unfold handD;cases decide (m.1≥0)<;>simp
theorem qo7 (r:Rules) (c:Int) (h:List Int):(handK r c h).length=h.length:=by unfold handK;cases (decide (c>0)&&r.keeps)<;>simp
theorem qla {l:List Int} {b:Int} (hb:0≤b) (h:∀c∈l,0≤c∧c≤b) (i:Nat):0≤l.getD i 0∧l.getD i 0≤b:=by
  rw[List.getD_eq_getElem?_getD]
  cases e:l[i]? with
  | none=>simp;exact hb
  | some c=>exact h c (List.mem_of_getElem? e)
theorem qpb {r:Rules} {p:Place} {m:Mv} (h:Valid r p) (ha:qN r p m=true):∀c∈handD m (qcI p),0≤c∧c≤1000:=by
  have hr:=qqV h;unfold handD
  cases hd:decide (m.1≥0) with
  | true=>exact hr
  | false =>
    intro c hc;rw[cond_false] at hc
    have hm:m.1 = -1:=by have:=(qfM ha).1.1;simp at hd;omega
    have hp:=(qif ha hm).1;have hg:=qla (by omega) hr m.2.2.1.toNat;rcases List.mem_or_eq_of_mem_set hc with h1 | h1
    · exact hr c h1
    · unfold handI at hp;omega
theorem handK_rng {r:Rules} {c:Int} {h:List Int} (hh:∀x∈h,0≤x∧x≤1000):∀x∈handK r c h,0≤x∧x≤1000:=by
  unfold handK
  cases (decide (c>0)&&r.keeps) with
  | false=>exact hh
  | true =>
    intro x hx;have hg:=qla (by omega) hh (qb9 c).toNat;rcases List.mem_or_eq_of_mem_set hx with h1 | h1
    · exact hh x h1
    · rw[h1];split<;>omega
theorem qpt {r:Rules} {p:Place} {m:Mv} (hv:Valid r p) (ha:qN r p m=true) (l:List Int) (hl:l=qcI p) :
    (decide (m.1≥0)=false→inb m.2.2.1 l.length=true∧w64 (getD' l m.2.2.1.toNat 0-1)=l.getD m.2.2.1.toNat 0-1) ∧
    (decide (cellI p m.2.1>0)=true→inb (qb9 (cellI p m.2.1)) (handD m l).length=true∧w64 (getD' (handD m l) (qb9 (cellI p m.2.1)).toNat 0+1)=(handD m l).getD (qb9 (cellI p m.2.1)).toNat 0+1):=by
  subst hl;have hr:=qqV hv;have hl:=qk1 hv;obtain⟨r1,r2,r3⟩:=qfM ha;refine⟨fun _=>⟨inb_iff.2 ⟨r3.1,by rw[hl];exact r3.2⟩,?_⟩,fun hc=>⟨?_,?_⟩⟩
  · have:=qla (by omega) hr m.2.2.1.toNat;exact qk (by show _≤(qcI p).getD m.2.2.1.toNat 0-1;omega) (by show(qcI p).getD m.2.2.1.toNat 0-1≤_;omega)
  · have hk:=qi2 hv (of_decide_eq_true hc);exact inb_iff.2 ⟨hk.2.1,by rw[qmi,hl];exact hk.2.2⟩
  · have:=qla (by omega) (qpb hv ha) (qb9 (cellI p m.2.1)).toNat;exact qk (by show _≤(handD m (qcI p)).getD (qb9 (cellI p m.2.1)).toNat 0+1;omega) (by show(handD m (qcI p)).getD (qb9 (cellI p m.2.1)).toNat 0+1≤_;omega)
theorem qbJ {r:Rules} {p:Place} {m:Mv} (h:Valid r p) (ha:qN r p m=true):qp r p m=some (qd r p m):=by
  obtain⟨r1,r2,r3⟩:=qfM ha;have ht6:=h.r0.t6;have hq:=h.quiet;have htn:=h.turn;have h64:=qch h;have hto:inb m.2.1 p.1.length=true:=inb_iff.2 r2;have wv:w64 (w64 (w64 (2*m.2.2.1)+p.2.2.1)+1)=qlk p m:=by
    unfold qlk;rw[show p.2.2.1=p.turn from rfl,qk (n:=2*m.2.2.1) (by omega) (by omega),qk (n:=2*m.2.2.1+p.turn) (by omega) (by omega),qk (by omega) (by omega)]
  have wq:w64 (p.2.2.2.1+1)=p.quiet+1:=qk (by show _≤p.quiet+1;omega) (by show p.quiet+1≤_;omega);have wt:w64 (1-p.2.2.1)=1-p.turn:=(turn_w h).1;have hcell:getD' p.1 m.2.1.toNat 0=cellI p m.2.1:=rfl;have hin:inb p.2.2.1 2=true:=inb_iff.2 (by show 0≤p.turn∧p.turn<((2:Nat):Int);omega);have wk:decide (cellI p m.2.1>0)=true→w64 ((w64 (cellI p m.2.1-1)).tdiv 2)=qb9 (cellI p m.2.1):=fun hc=>(qi2 h (of_decide_eq_true hc)).1;have hho:qcI p=if p.turn=0 then p.2.1.1 else p.2.1.2.1:=qje h;have hneg:decide (m.1<0) = !decide (m.1≥0):=by
    rw[Bool.eq_iff_iff];simp only[decide_eq_true_eq,Bool.not_eq_true',decide_eq_false_iff_not];omega
  unfold qp qd;rw[qo2 h,Option.bind_some];simp only[hcell,hto,qi,wv,wq,wt,hin,hneg];rcases htn with e | e
  · have e':p.2.2.1=0:=e;rw[if_pos e] at hho;obtain⟨k1,k2⟩:=qpt h ha p.2.1.1 hho.symm;simp only[e',e,show((0:Int)==0)=true from rfl,cond_true];unfold handA cellsA qne handK;simp only[hneg]
    cases hd:decide (m.1≥0) with
    | true =>
      have hf:inb m.1 p.1.length=true:=inb_iff.2 ⟨of_decide_eq_true hd,r1.2⟩
      have hD:handD m p.2.1.1=p.2.1.1:=by unfold handD;rw[hd];rfl
      rw[hD] at k2 ⊢;simp only[cond_true,hf,qi,Option.bind_some,List.length_set,hto]
      cases hc:decide (cellI p m.2.1>0) with
      | false=>rfl
      | true =>
        obtain⟨k3,k4⟩:=k2 hc
        cases hk:r.2.2.2.2.2.2.1 with
        | false=>rw[show r.keeps=false from hk];rfl
        | true =>
          rw[show r.keeps=true from hk];simp only[Bool.true_and,cond_true,wk hc,k3,qi,k4,Option.bind_some];rfl
    | false =>
      obtain⟨k5,k6⟩:=k1 hd
      have hD:handD m p.2.1.1=p.2.1.1.set m.2.2.1.toNat (p.2.1.1.getD m.2.2.1.toNat 0-1):=by unfold handD;rw[hd];rfl
      have hz:decide (cellI p m.2.1>0)=false:=by
        have:=(qif ha (by simp at hd;omega)).2;rw[this];rfl
      rw[hD];simp only[cond_false,k5,k6,qi,Option.bind_some,hz,Bool.false_and,hto];rfl
  · have e':p.2.2.1=1:=e;rw[if_neg (by omega)] at hho;obtain⟨k1,k2⟩:=qpt h ha p.2.1.2.1 hho.symm;simp only[e',e,show((1:Int)==0)=false from rfl,cond_false];unfold handA cellsA qne handK;simp only[hneg]
    cases hd:decide (m.1≥0) with
    | true =>
      have hf:inb m.1 p.1.length=true:=inb_iff.2 ⟨of_decide_eq_true hd,r1.2⟩
      have hD:handD m p.2.1.2.1=p.2.1.2.1:=by unfold handD;rw[hd];rfl
      rw[hD] at k2 ⊢;simp only[cond_true,hf,qi,Option.bind_some,List.length_set,hto]
      cases hc:decide (cellI p m.2.1>0) with
      | false=>rfl
      | true =>
        obtain⟨k3,k4⟩:=k2 hc
        cases hk:r.2.2.2.2.2.2.1 with
        | false=>rw[show r.keeps=false from hk];rfl
        | true =>
          rw[show r.keeps=true from hk];simp only[Bool.true_and,cond_true,wk hc,k3,qi,k4,Option.bind_some];rfl
    | false =>
      obtain⟨k5,k6⟩:=k1 hd
      have hD:handD m p.2.1.2.1=p.2.1.2.1.set m.2.2.1.toNat (p.2.1.2.1.getD m.2.2.1.toNat 0-1):=by unfold handD;rw[hd];rfl
      have hz:decide (cellI p m.2.1>0)=false:=by
        have:=(qif ha (by simp at hd;omega)).2;rw[this];rfl
      rw[hD];simp only[cond_false,k5,k6,qi,Option.bind_some,hz,Bool.false_and,hto];rfl
theorem qic {r:Rules} {p:Place} {m:Mv} (h:Valid r p) (ha:qN r p m=true):Valid r (qd r p m):=by
  obtain⟨r1,r2,r3⟩:=qfM ha;have htn:=h.turn;have hq:=h.quiet;have hK:=handK_rng (r:=r) (c:=cellI p m.2.1) (qpb h ha);have hho:=qje h;refine⟨h.r0,?_,?_,?_,?_,?_,?_,?_,?_⟩
  · show((((bif decide (m.1≥0) then p.1.set m.1.toNat 0 else p.1).set m.2.1.toNat (qlk p m)).length:Nat):Int)=_
    have:((bif decide (m.1≥0) then p.1.set m.1.toNat 0 else p.1).set m.2.1.toNat (qlk p m)).length=p.1.length:=by cases decide (m.1≥0)<;>simp
    rw[this];exact h.cells
  · show(bif p.turn==0 then handA r p m p.2.1.1 else p.2.1.1).length=_;cases (p.turn==0)
    · exact h.l0
    · rw[cond_true];unfold handA;rw[qo7,qmi];exact h.l0
  · show(bif p.turn==0 then p.2.1.2.1 else handA r p m p.2.1.2.1).length=_;cases (p.turn==0)
    · rw[cond_false];unfold handA;rw[qo7,qmi];exact h.l1
    · exact h.l1
  · intro c hc;have hc:c∈(bif decide (m.1≥0) then p.1.set m.1.toNat 0 else p.1).set m.2.1.toNat (qlk p m):=hc;rcases List.mem_or_eq_of_mem_set hc with h1 | h1
    · cases hd:decide (m.1≥0) with
      | false=>rw[hd,cond_false] at h1;exact h.cell c h1
      | true =>
        rw[hd,cond_true] at h1;rcases List.mem_or_eq_of_mem_set h1 with h2 | h2
        · exact h.cell c h2
        · have:=h.r0.t1;omega
    · rw[h1];unfold qlk;omega
  · intro c hc;have hc:c∈(bif p.turn==0 then handA r p m p.2.1.1 else p.2.1.1):=hc;rcases htn with e | e
    · rw[beq_t e,cond_true] at hc;rw[if_pos e] at hho;have hc:c∈handK r (cellI p m.2.1) (handD m p.h0):=hc;rw[←hho] at hc;exact hK c hc
    · rw[beq_f (by omega),cond_false] at hc;exact h.hand0 c hc
  · intro c hc;have hc:c∈(bif p.turn==0 then p.2.1.2.1 else handA r p m p.2.1.2.1):=hc;rcases htn with e | e
    · rw[beq_t e,cond_true] at hc;exact h.hand1 c hc
    · rw[beq_f (by omega),cond_false] at hc;rw[if_neg (by omega)] at hho;have hc:c∈handK r (cellI p m.2.1) (handD m p.h1):=hc;rw[←hho] at hc;exact hK c hc
  · show 1-p.turn=0∨1-p.turn=1;omega
  · show 0≤qne p m∧qne p m≤200;unfold qne;cases (decide (cellI p m.2.1>0)||decide (m.1<0))
    · rw[cond_false];split<;>omega
    · simp

def qia (r:Rules):List Int:=r.2.2.2.1.map fun x=>x.2.1
def qcv (r:Rules):Place:=(r.2.2.2.2.1,(qia r,qia r,()),0,0,())
theorem qh4 {r:Rules} (h:VR0 r):Valid r (qcv r):=by
  have hh:∀c∈qia r,0≤c∧c≤1000:=fun c hc=>by
    obtain⟨x,hx,rfl⟩:=List.mem_map.1 hc;have:=h.hand x hx;omega
  have hl:(qia r).length=r.pieces.length:=by unfold qia;simp
  exact⟨h,h.start,hl,hl,h.startC,hh,hh,.inl rfl,by show(0:Int)≤0∧(0:Int)≤200;omega⟩
theorem map_take {A B:Type} (l:List A) (f:A→B) (i:Nat) (hi:i<l.length):(l.take (i+1)).map f=(l.take i).map f++[f l[i]]:=by
  rw[List.take_succ_eq_append_getElem hi,List.map_append];rfl
theorem qj9 (r:Rules) (hr:Rng qb7 r):qar r=some (if qaT r=0 then(qcv r,0,()) else(([],([],[],()),0,0,()),qaT r,())):=by
  unfold qar;rw[qmQ r hr,Option.bind_some];by_cases c:qaT r=0
  · have h:=qbH c;have hs:((r.2.2.2.2.1.length:Nat):Int)=r.width*r.height:=h.start;have ha:=h.area;have ht:r.2.2.2.1.length≤6:=h.t6;rw[bne_f c,cond_false,if_pos c,qeL _ (by omega),Option.bind_some]
    have hL:=qZ (f:=qc8 r) r.2.2.2.1.length (fun i=>(((i:Int),()),((r.2.2.2.2.1,((r.2.2.2.1.take i).map (fun x=>x.2.1),((r.2.2.2.1.take i).map (fun x=>x.2.1),((0:Int),((0:Int),()))))),()))) ((),((r.2.2.2.2.1,(qia r,(qia r,((0:Int),((0:Int),()))))),())) (fun i hi=>by
      unfold qc8;simp only[show decide ((i:Int)<((r.2.2.2.1.length:Nat):Int))=true by simp;omega,cond_true];rw[at?_eq _ _ (by omega) (by omega),Option.bind_some];simp only[Int.toNat_natCast];have hroom:∀z:Int,room (((r.2.2.2.1.take i).map (fun x=>x.2.1)).length+[z].length) 8=true:=fun z=>qav (by simp;omega);simp only[hroom,qi,agree_self,Option.bind_some];rw[qk (n:=(i:Int)+1) (by omega) (by omega),map_take _ _ i hi]
      rfl) (by
      unfold qc8;simp only[show decide (((r.2.2.2.1.length:Nat):Int)<((r.2.2.2.1.length:Nat):Int))=false by simp,cond_false,List.take_length]
      rfl)
    have hL':iterW (qc8 r) (((0:Int),()),((r.2.2.2.2.1,(([]:List Int),(([]:List Int),((0:Int),((0:Int),()))))),()))=_:=hL;rw[hL',Option.bind_some];rfl
  · rw[bne_t c,cond_true,if_neg c]
theorem qsv (s:List Mv) (v:Mv) (hs:s.length≤1000000000):qL s v=some (decide (v∈s)):=by
  unfold qL qdJ
  have hL:=qm3 s.length (qbG s v) (fun i=>if v=s.getD i d0 then some (.inr (i:Int)) else none) (.inl ((),())) (fun i hi=>by
    unfold qbG;simp only[show decide ((i:Int)<((s.length:Nat):Int))=true by simp;omega,cond_true];rw[at?_eq s _ (by omega) (by omega),Option.bind_some,qk (n:=(i:Int)+1) (by omega) (by omega)];simp only[Int.toNat_natCast,List.getD_eq_getElem?_getD,List.getElem?_eq_getElem hi,Option.getD_some,mv_beq];by_cases e:v=s[i]
    · simp[e]
    · simp[e]) (by unfold qbG;simp)
  rw[hL];have key:∀k i,i+k=s.length→(Option.bind (Option.bind (some (scan (fun i=>if v=s.getD i d0 then some (Sum.inr (i:Int)) else none) (Sum.inl ((),())) i k)) (Sum.elim (fun _:Unit×Unit=>some (-1:Int)) some)) fun r2=>some (decide (r2≥(0:Int))))=some (decide (v∈s.drop i)):=by
    intro k
    induction k with
    | zero =>
      intro i hi;rw[show i=s.length by omega,List.drop_length];simp[scan]
    | succ k ih =>
      intro i hi
      have hil:i<s.length:=by omega
      have hmem:(v∈s.drop i)↔v=s[i]∨v∈s.drop (i+1):=by rw[List.drop_eq_getElem_cons hil,List.mem_cons]
      unfold scan
      have hg:s.getD i d0=s[i]:=by simp[List.getD_eq_getElem?_getD,hil]
      by_cases e:v=s[i]
      · rw[decide_eq_true (hmem.2 (.inl e))];simp only[hg,if_pos e,Option.bind_some,Sum.elim_inr];simp
      · simp only[hg,if_neg e];rw[ih (i+1) (by omega)];have h2:(v∈s.drop (i+1))↔v∈s.drop i:=⟨fun h=>hmem.2 (.inr h),fun h=>(hmem.1 h).resolve_left e⟩;simp only[h2]
  have:=key s.length 0 (by omega);simpa using this
theorem qS {r:Rules} {p:Place} (h:Valid r p):(qc r p).length≤100000:=by
  have h64:=qch h;refine Nat.le_trans (qca _ 384 _ fun i _=>at1_len h i) ?_;rw[List.length_range];omega

def qe (r:Rules) (p:Place):List Mv:=if qm r p=0 then qc r p else []
theorem qaX {r:Rules} {p:Place} (h:Valid r p):qaC r p=some (qe r p):=by
  unfold qaC qe;rw[qb5 h,Option.bind_some];by_cases c:qm r p=0
  · rw[bne_f c,cond_false,if_pos c,qdG h];rfl
  · rw[bne_t c,cond_true,if_neg c]
theorem qkp {r:Rules} {p:Place} {m:Mv} (hm:m∈qe r p):qN r p m=true:=by
  unfold qe at hm;split at hm
  · exact(qin m).1 hm
  · cases hm
theorem open_len {r:Rules} {p:Place} (h:Valid r p):(qe r p).length≤100000:=by
  unfold qe;split
  · exact qS h
  · simp
def treeN (r:Rules):Nat→Place→Nat
  | 0,_=>1
  | d+1,p=>1+((qe r p).map fun m=>treeN r d (qd r p m)).sum
def qkP (r:Rules):Nat→Place→Nat
  | 0,_=>1
  | d+1,p=>((qe r p).map fun m=>qkP r d (qd r p m)).sum
theorem sum_le {A:Type} {f g:A→Nat}:∀ {l:List A},(∀x∈l,f x≤g x)→(l.map f).sum≤(l.map g).sum
  | [],_=>Nat.le_refl _
  | x::l,h=>by
    have:=sum_le (l:=l) fun y hy=>h y (List.mem_cons_of_mem _ hy);have:=h x List.mem_cons_self;simp only[List.map_cons,List.sum_cons];omega
theorem qoy (r:Rules):∀(d:Nat) (p:Place),1≤treeN r d p
  | 0,_=>Nat.le_refl _
  | d+1,p=>by unfold treeN;omega
theorem qpA (r:Rules):∀(d:Nat) (p:Place),qkP r d p≤treeN r d p
  | 0,_=>Nat.le_refl _
  | d+1,p=>by
    unfold qkP treeN;have:=sum_le (l:=qe r p) fun m _=>qpA r d (qd r p m);omega
def walkS (r:Rules):Nat→Place→Int×Int→(Int×Int)×Bool
  | 0,p,s=>if s.1+1>50000 then((s.1+1,s.2),false) else((s.1+1,s.2+1),true)
  | d+1,p,s=>if s.1+1>50000 then((s.1+1,s.2),false) else
    scanL (fun acc m=>bif (walkS r d (qd r p m) acc).2 then .inl (walkS r d (qd r p m) acc).1 else .inr ((walkS r d (qd r p m) acc).1,false)) (fun acc=>(acc,true)) (qe r p) (s.1+1,s.2)
theorem qj7 (r:Rules):∀(d:Nat) (p:Place) (n l:Int),(n+treeN r d p≤50000→walkS r d p (n,l)=((n+treeN r d p,l+qkP r d p),true))∧(50000<n+treeN r d p→(walkS r d p (n,l)).2=false)
  | 0,p,n,l=>by
    unfold walkS treeN qkP;constructor
    · intro h;rw[if_neg (by simp at h ⊢;omega)];rfl
    · intro h;rw[if_pos (by simp at h ⊢;omega)]
  | d+1,p,n,l=>by
    have ih:=qj7 r d;have key:∀(ms:List Mv) (n l:Int),(n+((ms.map fun m=>treeN r d (qd r p m)).sum:Nat)≤50000→scanL (fun acc m=>bif (walkS r d (qd r p m) acc).2 then .inl (walkS r d (qd r p m) acc).1 else .inr ((walkS r d (qd r p m) acc).1,false)) (fun acc=>(acc,true)) ms (n,l)=((n+((ms.map fun m=>treeN r d (qd r p m)).sum:Nat),l+((ms.map fun m=>qkP r d (qd r p m)).sum:Nat)),true))
        ∧ (50000<n+((ms.map fun m=>treeN r d (qd r p m)).sum:Nat)→n≤50000→(scanL (fun acc m=>bif (walkS r d (qd r p m) acc).2 then .inl (walkS r d (qd r p m) acc).1 else .inr ((walkS r d (qd r p m) acc).1,false)) (fun acc=>(acc,true)) ms (n,l)).2=false):=by
      intro ms
      induction ms with
      | nil=>intro n l;simp[scanL]<;>omega
      | cons m ms ih2 =>
        intro n l;simp only[List.map_cons,List.sum_cons];have hp:=qoy r d (qd r p m);obtain⟨a1,a2⟩:=ih (qd r p m) n l;constructor
        · intro h;unfold scanL;rw[a1 (by omega)];simp only[cond_true];rw[(ih2 _ _).1 (by omega)];congr 2
          · push_cast;omega
          · push_cast;omega
        · intro h hn;unfold scanL;by_cases c:n+(treeN r d (qd r p m):Int)≤50000
          · rw[a1 c];simp only[cond_true];exact(ih2 _ _).2 (by omega) c
          · rw[a2 (by omega)];rfl
    unfold walkS treeN qkP;by_cases c:n+1>50000
    · rw[if_pos c];exact⟨fun h=>by push_cast at h;omega,fun _=>rfl⟩
    · rw[if_neg c];obtain⟨k1,k2⟩:=key (qe r p) (n+1) l;constructor
      · intro h;rw[k1 (by push_cast at h;omega)];congr 2
        push_cast
        omega
      · intro h;exact k2 (by push_cast at h;omega) (by omega)

theorem qaS {A:Type} (xs:List A) (i:Nat) (hi:i<xs.length) (d:A):getD' xs ((i:Int)).toNat d=xs[i]:=by
  simp[getD',hi]
theorem qax {A:Type} (xs:List A) (i:Nat) (hi:i<xs.length):decide ((i:Int)<((xs.length:Nat):Int))=true:=by simp;omega
theorem qbj {A:Type} (xs:List A):decide (((xs.length:Nat):Int)<((xs.length:Nat):Int))=false:=by simp
theorem qB {A:Type} (xs:List A) (i:Nat) (hi:i<xs.length):inb (i:Int) xs.length=true:=inb_iff.2 ⟨by omega,by omega⟩
theorem qev {r:Rules} {p:Place} (h:qm r p=0):qe r p=qc r p:=if_pos h
theorem qnj {r:Rules} {p:Place} (h:¬qm r p=0):qe r p=[]:=if_neg h
theorem qcs {r:Rules} {p:Place} {ms:List Mv} (h:Valid r p) (hm:ms=qe r p) {i:Nat} (hi:i<ms.length):qN r p ms[i]=true∧Valid r (qd r p ms[i]):=by
  have:ms[i]∈qe r p:=hm▸List.getElem_mem hi;exact⟨qkp this,qic h (qkp this)⟩
abbrev FlR:=ByteArray×Int×Int×(List (Int×Int×Int×(List (Int×Int×Int×Int×Unit))×Unit))×(List Int)×Bool×Bool×(List (Int×Int×Int×Bool×Unit))×Int×Int×Int×Int×Int×Unit
def fl (r:Rules) (s:Int×Int):FlR:=(r.1,(r.2.1,(r.2.2.1,(r.2.2.2.1,(r.2.2.2.2.1,(r.2.2.2.2.2.1,(r.2.2.2.2.2.2.1,(r.2.2.2.2.2.2.2.1,(r.2.2.2.2.2.2.2.2.1,(r.2.2.2.2.2.2.2.2.2.1,(r.2.2.2.2.2.2.2.2.2.2.1,(s.1,(s.2,())))))))))))))
abbrev CtT:=(Rules×Int×Int×Unit)×Place×Int×Unit
abbrev CtR:=(Rules×Int×Int×Unit)×Bool
theorem walk_L1 (ms:List Mv) (p:Place) (φ:CtT→Option CtR) (depth i:Int) (r:Rules) (s:Int×Int):qJ ms p φ depth ((i,()),(fl r s,())) =
    bif decide (i<((ms.length:Nat):Int)) then req (inb i ms.length) (Option.bind (qp r p (getD' ms i.toNat d0)) fun q=>Option.bind (φ ((r,s.1,s.2,()),q,w64 (depth-1),())) fun x =>
      bif (!x.2) then some (Sum.inr (Sum.inr (x.1,false))) else some (Sum.inl ((w64 (i+1),()),(fl x.1.1 (x.1.2.1,x.1.2.2.1),()))))
    else some (Sum.inr (Sum.inl ((),(fl r s,())))):=rfl
theorem walk_F (φ:CtT→Option CtR) (r:Rules) (n l:Int) (p:Place) (depth:Int):qbR φ (r,n,l,()) p depth =
    bif decide (w64 (n+1)>50000) then some ((r,w64 (n+1),l,()),false) else bif depth==0 then some ((r,w64 (n+1),w64 (l+1),()),true) else
    Option.bind (qaC r p) fun ms=>Option.bind (iterW (qJ ms p φ depth) (((0:Int),()),(fl r (w64 (n+1),l),()))) (Sum.elim (fun x=>some ((((x.2.1.1,(x.2.1.2.1,(x.2.1.2.2.1,(x.2.1.2.2.2.1,(x.2.1.2.2.2.2.1,(x.2.1.2.2.2.2.2.1,(x.2.1.2.2.2.2.2.2.1,(x.2.1.2.2.2.2.2.2.2.1,(x.2.1.2.2.2.2.2.2.2.2.1,(x.2.1.2.2.2.2.2.2.2.2.2.1,(x.2.1.2.2.2.2.2.2.2.2.2.2.1,())))))))))))),x.2.1.2.2.2.2.2.2.2.2.2.2.2),true)) some):=rfl
theorem walkS_rng (r:Rules) (d:Nat) (p:Place) (n l:Int) (h:(walkS r d p (n,l)).2=true) (hl:0≤l) (hln:l≤n):0≤(walkS r d p (n,l)).1.2∧(walkS r d p (n,l)).1.2≤(walkS r d p (n,l)).1.1∧(walkS r d p (n,l)).1.1≤50000:=by
  obtain⟨a1,a2⟩:=qj7 r d p n l;by_cases c:n+(treeN r d p:Int)≤50000
  · rw[a1 c];have:=qpA r d p;simp only;omega
  · rw[a2 (by omega)] at h;cases h
def ctOf (r:Rules) (w:(Int×Int)×Bool):CtR:=((r,w.1.1,w.1.2,()),w.2)
theorem walk_fix:∀x:CtT,(Valid x.1.1 x.2.1∧0≤x.2.2.1∧x.2.2.1≤12∧0≤x.1.2.2.1∧x.1.2.2.1≤x.1.2.1∧x.1.2.1≤50000)→fixW qau x=some (ctOf x.1.1 (walkS x.1.1 x.2.2.1.toNat x.2.1 (x.1.2.1,x.1.2.2.1))):=by
  refine qre qgE _ (fun x=>x.2.2.1.toNat) _ ?_
  rintro φ ⟨⟨r,n,l,⟨⟩⟩,p,depth,⟨⟩⟩ ⟨hv,hd0,hd1,hl0,hl1,hn⟩ ih
  show qbR φ (r,n,l,()) p depth=_;simp only at hv hd0 hd1 hl0 hl1 hn ih ⊢;rw[walk_F,qk (n:=n+1) (by omega) (by omega),qk (n:=l+1) (by omega) (by omega)];obtain⟨d,rfl⟩:=Int.eq_ofNat_of_zero_le hd0;simp only[Int.toNat_natCast] at ih ⊢;by_cases c:n+1>50000
  · rw[decide_eq_true c,cond_true]
    cases d with
    | zero=>unfold walkS;rw[if_pos c];rfl
    | succ d=>unfold walkS;rw[if_pos c];rfl
  rw[decide_eq_false c,cond_false]
  cases d with
  | zero=>unfold walkS;rw[if_neg c];rfl
  | succ d =>
    rw[beq_f (show ¬(((d+1:Nat):Int))=0 by omega),cond_false,qaX hv,Option.bind_some];have hlen:=open_len hv;unfold walkS;rw[if_neg c];generalize hms:qe r p=ms at hlen ⊢;have hL:=iter_scan ms (qJ ms p φ ((d+1:Nat):Int)) (fun i s=>(((i:Int),()),(fl r s,())))
      (fun acc m=>bif (walkS r d (qd r p m) acc).2 then .inl (walkS r d (qd r p m) acc).1 else .inr (.inr (ctOf r ((walkS r d (qd r p m) acc).1,false)))) (fun s => .inl ((),(fl r s,())))
      (fun _ s=>0≤s.2∧s.2≤s.1∧s.1≤50000) (fun i hi s hs=>by
        obtain⟨ha,va⟩:=qcs hv hms.symm hi;obtain⟨sn,sl⟩:=s;show qJ ms p φ _ (((i:Int),()),(fl r (sn,sl),()))=_
        rw[walk_L1,qax ms i hi,cond_true,qB ms i hi,qi,qaS ms i hi,qbJ hv ha,Option.bind_some,qk (n:=((d+1:Nat):Int)-1) (by omega) (by omega),
          ih ((r,sn,sl,()),qd r p ms[i],((d+1:Nat):Int)-1,()) ⟨va,by simp only;omega,by simp only;omega,hs.1,hs.2.1,hs.2.2⟩ (by simp only;omega),Option.bind_some]
        simp only[show(((d+1:Nat):Int)-1).toNat=d by omega];generalize walkS r d (qd r p ms[i]) (sn,sl)=w;obtain⟨⟨w1,w2⟩,w3⟩:=w;rw[qk (n:=(i:Int)+1) (by omega) (by omega)];cases w3<;>rfl) (fun i hi s s' hs hg=>by
        obtain⟨sn,sl⟩:=s
        cases hw:(walkS r d (qd r p ms[i]) (sn,sl)).2 with
        | false =>
          rw[hw] at hg;simp only[cond_false] at hg;cases hg
        | true =>
          rw[hw] at hg;simp only[cond_true] at hg;cases hg;exact walkS_rng r d _ sn sl hw hs.1 hs.2.1) (fun s hs=>by
        show qJ ms p φ _ ((((ms.length:Nat):Int),()),(fl r s,()))=_
        rw[walk_L1,qbj,cond_false]) (n+1,l) ⟨hl0,by simp only;omega,by simp only;omega⟩
    have hL':iterW (qJ ms p φ ((d+1:Nat):Int)) (((0:Int),()),(fl r (n+1,l),()))=_:=hL;rw[hL',Option.bind_some];clear hL hL' hms hlen;generalize (n+1,l)=s0
    induction ms generalizing s0 with
    | nil=>rfl
    | cons m ms ih2 =>
      unfold scanL
      cases hw:(walkS r d (qd r p m) s0).2 with
      | false=>rfl
      | true =>
        simp only[cond_true];exact ih2 _
theorem walk_spec {r:Rules} {p:Place} (h:Valid r p) {d:Nat} (hd:d≤12):qdM (r,0,0,()) p (d:Int)=some (ctOf r (walkS r d p (0,0))):=by
  have:=walk_fix ((r,0,0,()),p,(d:Int),()) ⟨h,by simp only;omega,by simp only;omega,by simp only;omega,by simp only;omega,by simp only;omega⟩;exact this
def qe6 (depth:Int):Bool:=decide (0≤depth)&&decide (depth≤12)
def qa3 (r:Rules) (p:Place) (depth:Int):Int:=if qP r p≠0 then qP r p else bif !qe6 depth then 1 else if 50000<treeN r depth.toNat p then 17 else 0
theorem qpm {r:Rules} {p:Place} (depth:Int) (c:¬qP r p=0):qa3 r p depth=qP r p:=if_pos c
theorem qlL {r:Rules} {p:Place} (depth:Int) (c:qP r p=0):qa3 r p depth=bif !qe6 depth then 1 else if 50000<treeN r depth.toNat p then 17 else 0:=by
  unfold qa3;rw[if_neg (fun h=>h c)]
theorem qpj {r:Rules} {p:Place} {depth:Int} (c:qP r p=0) (hd:qe6 depth=false):qa3 r p depth=1:=by rw[qlL depth c,hd];rfl
theorem qjy {r:Rules} {p:Place} {depth:Int} (c:qP r p=0) (hd:qe6 depth=true) (ht:50000<treeN r depth.toNat p):qa3 r p depth=17:=by rw[qlL depth c,hd,if_pos ht];rfl
theorem qgr {r:Rules} {p:Place} {depth:Int} (c:qP r p=0) (hd:qe6 depth=true) (ht:¬50000<treeN r depth.toNat p):qa3 r p depth=0:=by rw[qlL depth c,hd,if_neg ht];rfl
theorem okDepth_iff {depth:Int}:qe6 depth=true↔0≤depth∧depth≤12:=by simp[qe6]
theorem qpI (r:Rules) (p:Place) (depth:Int) (hr:Rng qb7 r) (hn:p.1.length≤9223372036854775807):qhp r p depth=some (if qa3 r p depth=0 then((treeN r depth.toNat p:Int),((qkP r depth.toNat p:Int),(0,()))) else(0,(0,(qa3 r p depth,())))):=by
  unfold qhp;rw[qfy r p hr hn,Option.bind_some];by_cases c:qP r p=0
  · have hv:=qhs c;rw[bne_f c,cond_false]
    cases e2:qe6 depth with
    | true =>
      have hd:=okDepth_iff.1 e2
      have e1:((decide (depth<0))||(decide (depth>12)))=false:=by simp;omega
      obtain⟨d,rfl⟩:=Int.eq_ofNat_of_zero_le hd.1;rw[e1,cond_false,walk_spec hv (by omega),Option.bind_some];obtain⟨a1,a2⟩:=qj7 r d p 0 0;by_cases ct:50000<treeN r d p
      · have:=a2 (by omega);rw[qjy c e2 ct];simp only[ctOf,this,Bool.not_false,cond_true];rfl
      · rw[a1 (by omega),qgr c e2 ct];simp only[ctOf,Bool.not_true,cond_false,Int.zero_add,Int.toNat_natCast,if_true]
    | false =>
      have e1:((decide (depth<0))||(decide (depth>12)))=true:=by
        have:¬(0≤depth∧depth≤12):=fun h=>by rw[okDepth_iff.2 h] at e2;cases e2
        simp;omega
      rw[e1,cond_true,qpj c e2];rfl
  · rw[bne_t c,cond_true,qpm depth c,if_neg c]
abbrev RT:=Rules×Place×Int×Unit

def qkC (p:Place) (x:Int):Int:=bif x==1+p.turn then 1000 else bif x==2-p.turn then -1000 else 0
def nearer (n:Int):Int:=if n>0 then n-1 else if n<0 then n+1 else 0
def better (b:Mv×Int) (m:Mv) (n:Int):Mv×Int:=bif decide (n>b.2) then(m,n) else b
def qa2 (r:Rules):Nat→Place→Int
  | 0,p=>if qm r p=0 then 0 else qkC p (qm r p)
  | d+1,p=>if qm r p=0 then((qc r p).foldl (fun b m=>better b m (nearer (0-qa2 r d (qd r p m)))) (d0,-2000)).2 else qkC p (qm r p)
def qqC (r:Rules) (d:Nat) (p:Place):Mv×Int:=(qc r p).foldl (fun b m=>better b m (nearer (0-qa2 r d (qd r p m)))) (d0,-2000)
theorem qqb {r:Rules} {d:Nat} {p:Place} (h:qm r p=0):qa2 r (d+1) p=(qqC r d p).2:=by
  unfold qa2 qqC;rw[if_pos h]
theorem qrT {r:Rules} {d:Nat} {p:Place} (h:¬qm r p=0):qa2 r d p=qkC p (qm r p):=by
  cases d<;>(unfold qa2;rw[if_neg h])
theorem qsh {n:Int} (h : -2000≤n∧n≤2000) : -2000≤nearer n∧nearer n≤2000:=by
  unfold nearer;split
  · omega
  · split<;>omega
theorem qon {A:Type} (f:A→Int) (B:List A→Prop):∀(l:List A) (g:A→Mv) (b:Mv×Int),(-2000≤b.2∧b.2≤2000)→(∀x∈l,-2000≤f x∧f x≤2000) → -2000≤(l.foldl (fun b x=>better b (g x) (f x)) b).2∧(l.foldl (fun b x=>better b (g x) (f x)) b).2≤2000
  | [],_,b,hb,_=>hb
  | x::l,g,b,hb,h=>by
    refine qon f B l g _ ?_ fun y hy=>h y (List.mem_cons_of_mem _ hy);show -2000≤(better b (g x) (f x)).2∧(better b (g x) (f x)).2≤2000;unfold better;have:=h x List.mem_cons_self;cases decide (f x>b.2)
    · exact hb
    · exact this
theorem qq8 (p:Place) (x:Int) : -1000≤qkC p x∧qkC p x≤1000:=by
  unfold qkC;cases x==1+p.turn
  · cases x==2-p.turn<;>simp
  · simp
theorem qov (r:Rules):∀(d:Nat) (p:Place),-2000≤qa2 r d p∧qa2 r d p≤2000
  | 0,p=>by
    unfold qa2;have:=qq8 p (qm r p)
    split<;>omega
  | d+1,p=>by
    unfold qa2;have:=qq8 p (qm r p);split
    · exact qon (fun m=>nearer (0-qa2 r d (qd r p m))) (fun _=>True) (qc r p) id _ (by simp) fun m _=>qsh (by have:=qov r d (qd r p m);omega)
    · omega
theorem nearer_w {n:Int} (h : -2000≤n∧n≤2000):qbb n=nearer n:=by
  unfold qbb nearer;by_cases c:n>0
  · rw[decide_eq_true c,cond_true,if_pos c,qk (by omega) (by omega)]
  · rw[decide_eq_false c,cond_false,if_neg c];by_cases c2:n<0
    · rw[decide_eq_true c2,cond_true,if_pos c2,qk (by omega) (by omega)]
    · rw[decide_eq_false c2,cond_false,if_neg c2]
theorem over_w {r:Rules} {p:Place} (h:Valid r p) (x:Int):qdg p x=qkC p x:=by
  have ht:=h.turn;unfold qdg qkC;rw[qk (by show _≤1+p.turn;omega) (by show 1+p.turn≤_;omega),qk (n:=2-p.2.2.1) (by show _≤2-p.turn;omega) (by show 2-p.turn≤_;omega)]
theorem take_fold {A B:Type} (g:B→A→B) (l:List A) (b:B) (i:Nat) (hi:i<l.length):(l.take (i+1)).foldl g b=g ((l.take i).foldl g b) l[i]:=by
  rw[List.take_succ_eq_append_getElem hi,List.foldl_append];rfl
theorem of_L1 (ms:List Mv) (r:Rules) (p:Place) (φ:RT→Option Int) (depth acc i:Int) (b:Mv):qbB ms r p φ depth ((acc,i,()),(b,())) =
    bif decide (i<((ms.length:Nat):Int)) then req (inb i ms.length) (Option.bind (Option.bind (qp r p (getD' ms i.toNat d0)) fun q=>Option.bind (φ (r,q,w64 (depth-1),())) fun v=>some ((qbb (w64 (0-v)),()),())) fun x:(Int×Unit)×Unit =>
      Option.bind (bif decide (x.1.1>acc) then some ((x.1.1,()),(getD' ms i.toNat d0,())) else some ((acc,()),(b,()))) fun z:(Int×Unit)×(Mv×Unit)=>some (Sum.inl ((z.1.1,w64 (i+1),()),(z.2.1,()))))
    else some (Sum.inr ((acc,()),(b,()))):=by
  unfold qbB;rw[agree_self]
theorem of_fix:∀x:RT,(Valid x.1 x.2.1∧0≤x.2.2.1∧x.2.2.1≤12)→fixW qcw x=some (qa2 x.1 x.2.2.1.toNat x.2.1):=by
  refine qre qmA _ (fun x=>x.2.2.1.toNat) _ ?_
  rintro φ ⟨r,p,depth,⟨⟩⟩ ⟨hv,hd0,hd1⟩ ih
  show qfJ φ r p depth=_;simp only at hv hd0 hd1 ih ⊢;obtain⟨d,rfl⟩:=Int.eq_ofNat_of_zero_le hd0;simp only[Int.toNat_natCast] at ih ⊢;unfold qfJ;rw[qb5 hv,Option.bind_some];by_cases c:qm r p=0
  · rw[bne_f c,cond_false]
    cases d with
    | zero=>unfold qa2;rw[if_pos c];rfl
    | succ d =>
      rw[beq_f (show ¬(((d+1:Nat):Int))=0 by omega),cond_false,qdG hv,Option.bind_some,qqb c];unfold qqC;have hlen:=qS hv;rw[←qev c] at hlen ⊢;generalize hms:qe r p=ms at hlen ⊢
      have hL:=qZ (f:=qbB ms r p φ ((d+1:Nat):Int)) ms.length (fun i=>((((ms.take i).foldl (fun b m=>better b m (nearer (0-qa2 r d (qd r p m)))) (d0,-2000)).2,(i:Int),()),(((ms.take i).foldl (fun b m=>better b m (nearer (0-qa2 r d (qd r p m)))) (d0,-2000)).1,()))) (((ms.foldl (fun b m=>better b m (nearer (0-qa2 r d (qd r p m)))) (d0,-2000)).2,()),((ms.foldl (fun b m=>better b m (nearer (0-qa2 r d (qd r p m)))) (d0,-2000)).1,())) (fun i hi=>by
          obtain⟨ha,va⟩:=qcs hv hms.symm hi;have hs:=qov r d (qd r p ms[i])
          rw[of_L1,qax ms i hi,cond_true,qB ms i hi,qi,qaS ms i hi,qbJ hv ha,Option.bind_some,qk (n:=((d+1:Nat):Int)-1) (by omega) (by omega),
            ih (r,qd r p ms[i],((d+1:Nat):Int)-1,()) ⟨va,by simp only;omega,by simp only;omega⟩ (by simp only;omega),Option.bind_some]
          simp only[show(((d+1:Nat):Int)-1).toNat=d by omega];rw[qk (by omega) (by omega),qk (n:=(i:Int)+1) (by omega) (by omega),Option.bind_some,nearer_w (by omega),take_fold _ _ _ i hi];simp only;generalize (ms.take i).foldl (fun b m=>better b m (nearer (0-qa2 r d (qd r p m)))) (d0,-2000)=w;unfold better
          cases decide (nearer (0-qa2 r d (qd r p ms[i]))>w.2)<;>rfl) (by
          rw[of_L1,qbj,cond_false,List.take_length])
      have hL':iterW (qbB ms r p φ ((d+1:Nat):Int)) (((-2000:Int),(0:Int),()),(d0,()))=_:=hL;rw[hL',Option.bind_some]
  · rw[bne_t c,cond_true,qrT c,over_w hv]
theorem of_spec {r:Rules} {p:Place} (h:Valid r p) {d:Nat} (hd:d≤12):qlh r p (d:Int)=some (qa2 r d p):=of_fix (r,p,(d:Int),()) ⟨h,by simp only;omega,by simp only;omega⟩

theorem qos (r:Rules) (p:Place) (depth:Int) (hr:Rng qb7 r) (hn:p.1.length≤9223372036854775807):qgW r p depth=some (if qa3 r p depth=0 then((treeN r depth.toNat p:Int),(0,())) else(0,(qa3 r p depth,()))):=by
  unfold qgW;rw[qpI r p depth hr hn];by_cases c:qa3 r p depth=0
  · simp only[if_pos c,Option.bind_some]
  · simp only[if_neg c,Option.bind_some]
theorem tree_ok {r:Rules} {p:Place} {depth:Int} (c:qa3 r p depth=0):Valid r p∧0≤depth∧depth≤12∧treeN r depth.toNat p≤50000:=by
  by_cases h1:qP r p=0
  · cases h2:qe6 depth with
    | false=>rw[qpj h1 h2] at c;omega
    | true =>
      have hd:=okDepth_iff.1 h2;by_cases h3:50000<treeN r depth.toNat p
      · rw[qjy h1 h2 h3] at c;omega
      · exact⟨qhs h1,hd.1,hd.2,by omega⟩
  · rw[qpm depth h1] at c;exact absurd c h1
theorem qsr (r:Rules) (p:Place) (depth:Int) (hr:Rng qb7 r) (hn:p.1.length≤9223372036854775807):qag r p depth=some (if qa3 r p depth=0 then(qa2 r depth.toNat p,(0,())) else(0,(qa3 r p depth,()))):=by
  unfold qag;rw[qos r p depth hr hn];by_cases c:qa3 r p depth=0
  · obtain⟨hv,hd0,hd1,_⟩:=tree_ok c;obtain⟨d,rfl⟩:=Int.eq_ofNat_of_zero_le hd0;simp only[if_pos c,Option.bind_some];rw[show((0:Int)!=0)=false from rfl,cond_false,of_spec hv (by omega)];rfl
  · simp only[if_neg c,Option.bind_some];rw[bne_t c,cond_true]

theorem qru (r:Rules) (p:Place) (hr:Rng qb7 r) (hn:p.1.length≤9223372036854775807):qdu r p=some (if qP r p=0 then qc r p else [],qP r p,()):=by
  unfold qdu;rw[qfy r p hr hn,Option.bind_some];by_cases c:qP r p=0
  · rw[bne_f c,cond_false,if_pos c,qdG (qhs c),c];rfl
  · rw[bne_t c,cond_true,if_neg c]

def q0 (p:Place):Place:=(p.1,(p.2.1,(p.2.2.1,((0:Int),()))))
theorem colF_q0 (p:Place) (W x0:Int):∀n,colF (q0 p) W x0 n=colF p W x0 n
  | 0=>rfl
  | n+1=>by
    unfold colF;rw[colF_q0 p W x0 n];rfl
theorem wayL_q0 (r:Rules) (p:Place) (w:RWay):∀(n:Nat) (x y:Int),wayL r (q0 p) w n x y=wayL r p w n x y
  | 0,x,y=>rfl
  | n+1,x,y=>by
    unfold wayL;simp only[wayL_q0 r p w n];rfl
theorem qsn (r:Rules) (p:Place) (m:Mv):qN r (q0 p) m=qN r p m:=by
  have e1:putOk r (q0 p) m.2.1=putOk r p m.2.1:=by
    unfold putOk qgZ;rw[colF_q0];rfl
  have e2:goOk r (q0 p) m=goOk r p m:=by
    unfold goOk wayS;simp only[wayL_q0];rfl
  unfold qN;rw[e1,e2];rfl
theorem qk3 (r:Rules) (p:Place):qc r (q0 p)=qc r p:=by
  have e:at1 r (q0 p)=at1 r p:=by
    funext i;unfold at1 at2 at3;simp only[qsn];rfl
  unfold qc;rw[e];rfl
theorem qoa (r:Rules) (p:Place) (m:Mv):q0 (qd r (q0 p) m)=q0 (qd r p m):=rfl
theorem endE_q0 (r:Rules) (p:Place):endE r (q0 p)=endE r p:=by
  funext i;unfold endE
  cases r.2.2.2.2.2.2.2.1[i]? with
  | none=>rfl
  | some x =>
    have:metB r (q0 p) x (1-(q0 p).turn)=metB r p x (1-p.turn):=by
      rfl
    simp only[this];rfl
theorem qha {r:Rules} (h:r.quiet=0) (p:Place):qm r (q0 p)=qm r p:=by
  have hb:qk8 r (q0 p)=qk8 r p:=rfl;unfold qm;rw[endE_q0,qk3,hb,h];rfl
theorem valid_q0 {r:Rules} {p:Place} (h:Valid r p):Valid r (q0 p):=by
  obtain⟨a1,a2,a3,a4,a5,a6,a7,a8,a9,a10⟩:=h;exact⟨a1,a2,a3,a4,a5,a6,a7,a8,(by show(0:Int)≤0;omega),(by show(0:Int)≤200;omega)⟩
theorem qiO {u:Nat} (h:u<10):(UInt8.ofNat (48+u)).toNat=48+u:=by
  rw[UInt8.toNat_ofNat'];omega
theorem dec_memR (u:Nat):∀c∈Go.Lib.decDigits u,48≤c.toNat∧c.toNat≤57:=by
  induction u using Nat.strongRecOn with
  | _ u ih =>
    intro c hc;rw[Go.Lib.decDigits] at hc;split at hc
    · rename_i h;rw[List.mem_singleton.1 hc,qiO h];omega
    · rename_i h;rcases List.mem_append.1 hc with hc | hc
      · exact ih (u / 10) (by omega) c hc
      · rw[List.mem_singleton.1 hc,qiO (by omega)];omega
def valD (l:List UInt8):Nat:=l.foldl (fun a c=>10*a+(c.toNat-48)) 0
theorem val_dec (u:Nat):valD (Go.Lib.decDigits u)=u:=by
  induction u using Nat.strongRecOn with
  | _ u ih =>
    rw[Go.Lib.decDigits];split
    · rename_i h;show 10*0+((UInt8.ofNat (48+u)).toNat-48)=u;rw[qiO h];omega
    · rename_i h;unfold valD;rw[List.foldl_append];show 10*valD (Go.Lib.decDigits (u / 10))+((UInt8.ofNat (48+u % 10)).toNat-48)=u;rw[ih (u / 10) (by omega),qiO (by omega)];omega
def numL (n:Int):List Int:=(Go.Lib.decDigits n.toNat).map fun b=>((b.toNat:Nat):Int)
theorem qnM {n c:Int} (h:c∈numL n):48≤c∧c≤57:=by
  unfold numL at h;rw[List.mem_map] at h;obtain⟨b,hb,rfl⟩:=h;have:=dec_memR _ b hb;omega
theorem map_inj {A B:Type} {f:A→B} (hf:∀a b,f a=f b→a=b):∀(l l':List A),l.map f=l'.map f→l=l'
  | [],[],_=>rfl
  | [],_::_,h=>by cases h
  | _::_,[],h=>by cases h
  | a::l,b::l',h=>by
    simp only[List.map_cons,List.cons.injEq] at h;rw[hf a b h.1,map_inj hf l l' h.2]
theorem numL_inj {a b:Int} (ha:0≤a) (hb:0≤b) (h:numL a=numL b):a=b:=by
  have:=map_inj (fun x y h=>by
    have h':((x.toNat:Nat):Int)=((y.toNat:Nat):Int):=h
    exact UInt8.toNat_inj.1 (by omega)) _ _ h
  have e1:=val_dec a.toNat;have e2:=val_dec b.toNat;rw[this] at e1;omega
theorem cut_inj {l l' r r':List Int} (h1:∀c∈l,c≠32) (h2:∀c∈l',c≠32) (h:l++32::r=l'++32::r'):l=l'∧r=r':=by
  induction l generalizing l' with
  | nil =>
    cases l' with
    | nil=>simp at h;exact⟨rfl,h⟩
    | cons b l' =>
      simp only[List.nil_append,List.cons_append,List.cons.injEq] at h;exact absurd h.1.symm (h2 b List.mem_cons_self)
  | cons a l ih =>
    cases l' with
    | nil =>
      simp only[List.nil_append,List.cons_append,List.cons.injEq] at h;exact absurd h.1 (h1 a List.mem_cons_self)
    | cons b l' =>
      simp only[List.cons_append,List.cons.injEq] at h;obtain⟨rfl,h⟩:=h;obtain⟨e1,e2⟩:=ih (fun c hc=>h1 c (List.mem_cons_of_mem _ hc)) (fun c hc=>h2 c (List.mem_cons_of_mem _ hc)) h;exact⟨by rw[e1],e2⟩
def numsL (l:List Int):List Int:=l.flatMap fun n=>numL n++[32]
theorem qfv (a:Int) (l:List Int):numsL (a::l)=numL a++32::numsL l:=by
  unfold numsL;rw[List.flatMap_cons,List.append_assoc];rfl
theorem qpi:∀(l l':List Int),(∀c∈l,0≤c)→(∀c∈l',0≤c)→numsL l=numsL l'→l=l'
  | [],[],_,_,_=>rfl
  | [],b::l',_,_,h=>by
    rw[qfv] at h;have:=congrArg List.length h;simp[numsL] at this
  | a::l,[],_,_,h=>by
    rw[qfv] at h;have:=congrArg List.length h;simp[numsL] at this
  | a::l,b::l',h1,h2,h=>by
    rw[qfv,qfv] at h;obtain⟨e1,e2⟩:=cut_inj (fun c hc=>by have:=qnM hc;omega) (fun c hc=>by have:=qnM hc;omega) h;rw[numL_inj (h1 a List.mem_cons_self) (h2 b List.mem_cons_self) e1,qpi l l' (fun c hc=>h1 c (List.mem_cons_of_mem _ hc)) (fun c hc=>h2 c (List.mem_cons_of_mem _ hc)) e2]
def keyL (p:Place):List Int:=(p.2.2.1::p.1)++numsL (p.2.1.1++p.2.1.2.1)
def keyOf (p:Place):ByteArray:=strOf (keyL p)
theorem qsd (l:List Int):(strOf l).data.toList=l.map fun n=>UInt8.ofNat n.toNat:=by
  have:∀(l:List Int) (b:ByteArray),(l.foldl (fun r n=>r.push (UInt8.ofNat n.toNat)) b).data.toList=b.data.toList++l.map fun n=>UInt8.ofNat n.toNat:=by
    intro l
    induction l with
    | nil=>intro b;simp
    | cons a l ih =>
      intro b;rw[List.foldl_cons,ih];simp[ByteArray.push]
  have h:=this l ByteArray.empty;unfold strOf;rw[h];rfl
theorem strOf_inj {l l':List Int} (h1:∀c∈l,0≤c∧c≤255) (h2:∀c∈l',0≤c∧c≤255) (h:strOf l=strOf l'):l=l':=by
  have e:=congrArg (fun b:ByteArray=>b.data.toList) h;simp only[qsd] at e;clear h
  induction l generalizing l' with
  | nil =>
    cases l' with
    | nil=>rfl
    | cons b l'=>cases e
  | cons a l ih =>
    cases l' with
    | nil=>cases e
    | cons b l' =>
      simp only[List.map_cons,List.cons.injEq] at e;have ha:=h1 a List.mem_cons_self;have hb:=h2 b List.mem_cons_self;have e1:=congrArg UInt8.toNat e.1;rw[UInt8.toNat_ofNat',UInt8.toNat_ofNat'] at e1;rw[ih (fun c hc=>h1 c (List.mem_cons_of_mem _ hc)) (fun c hc=>h2 c (List.mem_cons_of_mem _ hc)) e.2,show a=b by omega]
theorem numsL_rng {l:List Int}:∀c∈numsL l,0≤c∧c≤255:=by
  intro c hc;unfold numsL at hc;rw[List.mem_flatMap] at hc;obtain⟨n,_,hc⟩:=hc;rcases List.mem_append.1 hc with hc | hc
  · have:=qnM hc;omega
  · rw[List.mem_singleton] at hc;omega
theorem qqR {r:Rules} {p:Place} (h:Valid r p):∀c∈keyL p,0≤c∧c≤255:=by
  have ht:=h.turn;have h6:=h.r0.t6;intro c hc;unfold keyL at hc;rcases List.mem_append.1 hc with hc | hc
  · rcases List.mem_cons.1 hc with rfl | hc
    · show 0≤p.turn∧p.turn≤255;omega
    · have:=h.cell c hc;omega
  · exact numsL_rng c hc
theorem key_inj {r:Rules} {p p':Place} (h:Valid r p) (h':Valid r p') (hk:keyOf p=keyOf p'):q0 p=q0 p':=by
  have e:=strOf_inj (qqR h) (qqR h') hk;have hc:p.1.length=p'.1.length:=by
    have a1:=h.cells;have a2:=h'.cells
    have:((p.cells.length:Nat):Int)=((p'.cells.length:Nat):Int):=by rw[a1,a2]
    exact Int.ofNat.inj this
  unfold keyL at e;obtain⟨e1,e2⟩:=List.append_inj e (by simp[hc]);simp only[List.cons.injEq] at e1
  have e3:=qpi _ _ (fun c hc=>by
    rcases List.mem_append.1 hc with hc | hc
    · exact(h.hand0 c hc).1
    · exact(h.hand1 c hc).1) (fun c hc=>by
    rcases List.mem_append.1 hc with hc | hc
    · exact(h'.hand0 c hc).1
    · exact(h'.hand1 c hc).1) e2
  obtain⟨e4,e5⟩:=List.append_inj e3 (by
    have a1:p.2.1.1.length=r.pieces.length:=h.l0;have a2:p'.2.1.1.length=r.pieces.length:=h'.l0
    rw[a1,a2])
  obtain⟨p1,⟨p2,p3,⟨⟩⟩,p4,p5,⟨⟩⟩:=p;obtain⟨p1',⟨p2',p3',⟨⟩⟩,p4',p5',⟨⟩⟩:=p';simp only at e1 e4 e5;unfold q0;rw[e1.1,e1.2,e4,e5]

theorem wu8_idR {n:Int} (h0:0≤n) (h1:n≤255):wu8 n=n:=by
  show IntKind.wrap .u8 n=n;rw[IntKind.wrap_u8];omega
theorem qrw {n:Int} (h0:0≤n) (h1:n≤1000):(numL n).length≤4:=by
  unfold numL;rw[List.length_map,Go.Lib.decDigits_length];have:=Go.Lib.nDigits_big (u:=n.toNat);by_cases a:n.toNat<10
  · rw[Go.Lib.nDigits_small a];omega
  · rw[Go.Lib.nDigits_big a];by_cases b:n.toNat / 10<10
    · rw[Go.Lib.nDigits_small b];omega
    · rw[Go.Lib.nDigits_big b];by_cases c:n.toNat / 10 / 10<10
      · rw[Go.Lib.nDigits_small c];omega
      · rw[Go.Lib.nDigits_big c,Go.Lib.nDigits_small (by omega)];omega
theorem qoD:∀(l:List Int),(∀c∈l,0≤c∧c≤1000)→(numsL l).length≤5*l.length
  | [],_=>Nat.le_refl _
  | a::l,h=>by
    have h1:=qrw (h a List.mem_cons_self).1 (h a List.mem_cons_self).2;have h2:=qoD l fun c hc=>h c (List.mem_cons_of_mem _ hc);rw[qfv,List.length_append,List.length_cons,List.length_cons];omega
theorem qr2 (l:List Int) (a:Int):numsL (l++[a])=numsL l++(numL a++[32]):=by
  unfold numsL;rw[List.flatMap_append,List.flatMap_singleton]
theorem app_spec {xs:List Int} {n:Int} (h0:0≤n) (h1:n≤1000) (hx:0<xs.length) (hl:xs.length≤1000000):qlB xs n 10=some ((),(),xs++numL n):=by
  unfold qlB;rw[show((10:Int)==10)=true from rfl,decide_eq_true h0,decide_eq_true (show n≤9223372036854775807 by omega),show Nat.blt 0 xs.length=true by simpa using hx,show Nat.ble (xs.length+20) 140737488355328=true from by rw[Nat.ble_eq];omega];rfl
theorem qrz {r:Rules} {p:Place} (h:Valid r p):qf1 p=some (keyOf p):=by
  have ht:=h.turn;have h6:=h.r0.t6;have hal:=qch h;have a0:p.2.1.1.length=r.pieces.length:=h.l0;have a1:p.2.1.2.1.length=r.pieces.length:=h.l1;have hh:∀c∈p.2.1.1++p.2.1.2.1,0≤c∧c≤1000:=fun c hc=>by
    rcases List.mem_append.1 hc with hc | hc
    · exact h.hand0 c hc
    · exact h.hand1 c hc
  have hcl:p.1.length≤64:=hal;have w0:wu8 p.2.2.1=p.2.2.1:=wu8_idR (by show 0≤p.turn;omega) (by show p.turn≤255;omega)
  have l1:=qZ (f:=qd3 p) p.1.length (fun j=>((p.2.2.1::p.1.take j,((j:Int),())),())) (((p.2.2.1::p.1,()),())) (fun j hj=>by
    have hc:=h.cell p.1[j] (List.getElem_mem hj);have hat:at? p.1 (j:Int)=some p.1[j]:=by
      unfold at?;rw[show decide (0≤(j:Int))=true from decide_eq_true (by omega),cond_true,Int.toNat_natCast,List.getElem?_eq_getElem hj]
    have hr:room ((p.2.2.1::p.1.take j).length+[p.1[j]].length) 1=true:=qav (by rw[List.length_cons,List.length_take,List.length_singleton];omega)
    have hw:w64 ((j:Int)+1)=((j+1:Nat):Int):=by rw[qk (by omega) (by omega)];omega
    unfold qd3;simp only[qax p.1 j hj,cond_true,hat,Option.bind_some,wu8_idR hc.1 (by omega:p.1[j]≤255),hr,qi,hw];rw[List.take_succ_eq_append_getElem hj]
    rfl) (by
    unfold qd3
    simp only[qbj,cond_false,List.take_length])
  have l2:=qZ (f:=qej (p.2.1.1++p.2.1.2.1)) (p.2.1.1++p.2.1.2.1).length (fun j=>(((p.2.2.1::p.1)++numsL ((p.2.1.1++p.2.1.2.1).take j),((j:Int),())),())) (((keyL p,()),())) (fun j hj=>by
    have hc:=hh _ (List.getElem_mem hj);have hn:=qoD ((p.2.1.1++p.2.1.2.1).take j) (fun c hc=>hh c (List.mem_of_mem_take hc))
    have hll:((p.2.1.1++p.2.1.2.1).take j).length≤12:=by rw[List.length_take,List.length_append,a0,a1];omega
    have hjl:(p.2.1.1++p.2.1.2.1).length≤12:=by rw[List.length_append,a0,a1];omega
    have hap:=app_spec (xs:=(p.2.2.1::p.1)++numsL ((p.2.1.1++p.2.1.2.1).take j)) hc.1 hc.2 (by simp) (by rw[List.length_append,List.length_cons];omega);have hnl:=qrw hc.1 hc.2;have hr:room ((((p.2.2.1::p.1)++numsL ((p.2.1.1++p.2.1.2.1).take j))++numL (p.2.1.1++p.2.1.2.1)[j]).length+[(32:Int)].length) 1=true:=qav (by rw[List.length_append,List.length_append,List.length_cons,List.length_singleton];omega)
    have hw:w64 ((j:Int)+1)=((j+1:Nat):Int):=by rw[qk (by omega) (by omega)];omega
    unfold qej;simp only[qax _ j hj,cond_true,qB _ j hj,qi,qaS _ j hj,hap,Option.bind_some,hr,hw]
    rw[List.take_succ_eq_append_getElem hj,qr2,List.append_assoc,List.append_assoc]) (by
    unfold qej;simp only[qbj,cond_false,List.take_length]
    rfl)
  have l1':iterW (qd3 p) (([p.2.2.1],((0:Int),())),())=some (((p.2.2.1::p.1,()),())):=l1;have l2':iterW (qej (p.2.1.1++p.2.1.2.1)) ((p.2.2.1::p.1,((0:Int),())),())=some ((keyL p,()),()):=by
    have e:(p.2.2.1::p.1)++numsL ((p.2.1.1++p.2.1.2.1).take 0)=p.2.2.1::p.1:=by rw[List.take_zero];exact List.append_nil _
    have:=l2;simp only[e] at this;exact this
  unfold qf1;rw[w0,l1',Option.bind_some,concat2 _ _ (by rw[a0];omega) (by rw[a1];omega),Option.bind_some,l2',Option.bind_some];rfl
theorem ba_beqR (a b:ByteArray):(a==b)=true↔a=b:=by
  obtain⟨x⟩:=a;obtain⟨y⟩:=b;have:((⟨x⟩:ByteArray)==⟨y⟩)=(x==y):=rfl;rw[this,beq_iff_eq];constructor
  · intro h;rw[h]
  · intro h;exact congrArg ByteArray.data h
theorem eqS_iff {a b:ByteArray}:eqS a b=true↔a=b:=by
  unfold eqS;exact ba_beqR a b
def IxOK (l:List Place) (m:List (ByteArray×Int)):Prop:=∀k:ByteArray,(∀i,mpGet eqS m k=some i→∃j:Nat,i=(j:Int)∧∃h:j<l.length,keyOf l[j]=k)∧((∃p∈l,keyOf p=k)→∃i,mpGet eqS m k=some i)
theorem ql2 (m:List (ByteArray×Int)) (k:ByteArray) (v:Int):mpGet eqS (mpSet eqS m k v) k=some v:=by
  induction m with
  | nil =>
    show(bif eqS k k then some v else none)=some v;rw[eqS_iff.2 rfl];rfl
  | cons e m ih =>
    show mpGet eqS (bif eqS k e.1 then(k,v)::m else e::mpSet eqS m k v) k=some v
    cases h:eqS k e.1 with
    | true =>
      show(bif eqS k k then some v else _)=some v;rw[eqS_iff.2 rfl];rfl
    | false =>
      show(bif eqS k e.1 then some e.2 else mpGet eqS (mpSet eqS m k v) k)=some v;rw[h];exact ih
theorem qoX (m:List (ByteArray×Int)) (k k':ByteArray) (v:Int) (hne:k'≠k):mpGet eqS (mpSet eqS m k v) k'=mpGet eqS m k':=by
  have hf:∀ {a b:ByteArray},a≠b→eqS a b=false:=fun {a b} h=>by
    cases e:eqS a b with
    | false=>rfl
    | true=>exact absurd (eqS_iff.1 e) h
  induction m with
  | nil =>
    show(bif eqS k' k then some v else none)=none;rw[hf hne];rfl
  | cons e m ih =>
    show mpGet eqS (bif eqS k e.1 then(k,v)::m else e::mpSet eqS m k v) k'=(bif eqS k' e.1 then some e.2 else mpGet eqS m k')
    cases h:eqS k e.1 with
    | true =>
      have:e.1=k:=(eqS_iff.1 h).symm;show(bif eqS k' k then some v else mpGet eqS m k')=_;rw[this,hf hne];rfl
    | false =>
      show(bif eqS k' e.1 then some e.2 else mpGet eqS (mpSet eqS m k v) k')=_;rw[ih]
def numOf (l:List Place) (m:List (ByteArray×Int)) (p:Place):Int:=(mpGet eqS m (keyOf p)).getD ((l.length:Nat):Int)
def addL (l:List Place) (m:List (ByteArray×Int)) (p:Place):List Place:=bif (mpGet eqS m (keyOf p)).isSome then l else l++[q0 p]
def addM (l:List Place) (m:List (ByteArray×Int)) (p:Place):List (ByteArray×Int):=bif (mpGet eqS m (keyOf p)).isSome then m else mpSet eqS m (keyOf p) ((l.length:Nat):Int)
theorem add_fact {r:Rules} {l:List Place} {nx:List (List Int)} {es:List (Int×Int×Unit)} {m:List (ByteArray×Int)} {p:Place} {k:ByteArray} (hk:qf1 p=some k) (hroom:room (l.length+[q0 p].length) 88=true) :
    qu (r,(l,(nx,(es,(m,()))))) p=some ((r,((bif (mpGet eqS m k).isSome then l else l++[q0 p]),(nx,(es,((bif (mpGet eqS m k).isSome then m else mpSet eqS m k ((l.length:Nat):Int)),()))))),(mpGet eqS m k).getD ((l.length:Nat):Int)):=by
  obtain⟨r1,r2,r3,r4,r5,r6,r7,r8,r9,r10,r11,⟨⟩⟩:=r;obtain⟨p1,⟨p2,p3,⟨⟩⟩,⟨p4,p5,⟨⟩⟩⟩:=p;simp only[q0] at hroom ⊢;unfold qu
  cases hg:mpGet eqS m k with
  | none =>
    simp only[hk,Option.bind_some,hg,Option.isSome_none,Bool.not_false,cond_true,cond_false,hroom,qi,Option.getD_none]
  | some v =>
    simp only[hk,Option.bind_some,hg,Option.isSome_some,Bool.not_true,cond_false,cond_true,Option.getD_some]
theorem qfH {r rv:Rules} {l:List Place} {nx:List (List Int)} {es:List (Int×Int×Unit)} {m:List (ByteArray×Int)} {p:Place} (hv:Valid rv p) (hl:l.length≤1000000) :
    qu (r,(l,(nx,(es,(m,()))))) p=some ((r,(addL l m p,(nx,(es,(addM l m p,()))))),numOf l m p) :=
  add_fact (qrz hv) (qav (by rw[List.length_singleton];omega))
theorem qhl (l:List Place) (m:List (ByteArray×Int)) (p:Place):l.length≤(addL l m p).length∧(addL l m p).length≤l.length+1:=by
  unfold addL
  cases (mpGet eqS m (keyOf p)).isSome with
  | true=>exact⟨Nat.le_refl _,Nat.le_succ _⟩
  | false =>
    show _≤(l++[q0 p]).length∧(l++[q0 p]).length≤_;rw[List.length_append,List.length_singleton];omega
theorem qq3 (l:List Place) (m:List (ByteArray×Int)) (p:Place) {i:Nat} (h:i<l.length):(addL l m p)[i]?=l[i]?:=by
  unfold addL
  cases (mpGet eqS m (keyOf p)).isSome with
  | true=>rfl
  | false=>exact List.getElem?_append_left h
theorem addM_ok {l:List Place} {m:List (ByteArray×Int)} (h:IxOK l m) (p:Place):IxOK (addL l m p) (addM l m p):=by
  unfold addL addM
  cases hg:mpGet eqS m (keyOf p) with
  | some v=>exact h
  | none =>
    show IxOK (l++[q0 p]) (mpSet eqS m (keyOf p) ((l.length:Nat):Int));intro k;by_cases hk:k=keyOf p
    · subst hk;refine⟨fun i hi=>?_,fun _=>⟨_,ql2 _ _ _⟩⟩;rw[ql2] at hi;cases hi;refine⟨l.length,rfl,by simp,?_⟩;rw[List.getElem_append_right (Nat.le_refl _)];simp only[Nat.sub_self,List.getElem_singleton];rfl
    · obtain⟨h1,h2⟩:=h k;refine⟨fun i hi=>?_,fun ⟨p',hp',he⟩=>?_⟩
      · rw[qoX _ _ _ _ hk] at hi;obtain⟨j,rfl,hj,e⟩:=h1 i hi;exact⟨j,rfl,by rw[List.length_append];omega,by rw[List.getElem_append_left hj];exact e⟩
      · rw[qoX _ _ _ _ hk];rcases List.mem_append.1 hp' with hp' | hp'
        · exact h2 ⟨p',hp',he⟩
        · rw[List.mem_singleton] at hp';subst hp';exact absurd he.symm hk
theorem numOf_ok {r:Rules} {l:List Place} {m:List (ByteArray×Int)} (h:IxOK l m) (hl:∀p∈l,Valid r p∧q0 p=p) {p:Place} (hv:Valid r p):∃j:Nat,numOf l m p=(j:Int)∧(addL l m p)[j]?=some (q0 p):=by
  unfold numOf addL
  cases hg:mpGet eqS m (keyOf p) with
  | some v =>
    obtain⟨j,rfl,hj,e⟩:=(h (keyOf p)).1 v hg;refine⟨j,rfl,?_⟩;show l[j]?=_;have hm:=hl l[j] (List.getElem_mem hj);rw[List.getElem?_eq_getElem hj,←key_inj hm.1 hv e,hm.2]
  | none =>
    refine⟨l.length,rfl,?_⟩;show(l++[q0 p])[l.length]?=_;rw[List.getElem?_append_right (Nat.le_refl _),Nat.sub_self];rfl

abbrev Mp:=List (ByteArray×Int)
abbrev En:=Int×Int×Unit
def flT (r:Rules) (l:List Place) (nx:List (List Int)) (es:List En) (m:Mp):=(r.1,(r.2.1,(r.2.2.1,(r.2.2.2.1,(r.2.2.2.2.1,(r.2.2.2.2.2.1,(r.2.2.2.2.2.2.1,(r.2.2.2.2.2.2.2.1,(r.2.2.2.2.2.2.2.2.1,(r.2.2.2.2.2.2.2.2.2.1,(r.2.2.2.2.2.2.2.2.2.2.1,(l,(nx,(es,(m,())))))))))))))))
def rowS (r:Rules) (p:Place) (x:List Place×Mp×List Int) (mv:Mv):List Place×Mp×List Int:=(addL x.1 x.2.1 (qd r p mv),(addM x.1 x.2.1 (qd r p mv),x.2.2++[numOf x.1 x.2.1 (qd r p mv)]))
def rowM (r:Rules) (p:Place) (ms:List Mv) (x:List Place×Mp×List Int):List Place×Mp×List Int:=ms.foldl (rowS r p) x
theorem qdm (r:Rules) (p:Place):∀(ms:List Mv) (x:List Place×Mp×List Int),x.1.length≤(rowM r p ms x).1.length
  | [],x=>Nat.le_refl _
  | m::ms,x=>Nat.le_trans (qhl _ _ _).1 (qdm r p ms (rowS r p x m))
theorem qhf (r:Rules) (p:Place):∀(ms:List Mv) (x:List Place×Mp×List Int) {i:Nat},i<x.1.length→(rowM r p ms x).1[i]?=x.1[i]?
  | [],x,i,_=>rfl
  | m::ms,x,i,h=>(qhf r p ms (rowS r p x m) (Nat.lt_of_lt_of_le h (qhl _ _ _).1)).trans (qq3 _ _ _ h)
theorem qdA (r:Rules) (p:Place) (ms:List Mv) (m:Mv) (x:List Place×Mp×List Int):rowM r p (ms++[m]) x=rowS r p (rowM r p ms x) m:=by
  unfold rowM;rw[List.foldl_append];rfl
theorem qcS (r:Rules) (p:Place):∀(ms:List Mv) (x:List Place×Mp×List Int),(rowM r p ms x).2.2.length=x.2.2.length+ms.length
  | [],x=>rfl
  | m::ms,x=>by
    have:=qcS r p ms (rowS r p x m);show(rowM r p ms (rowS r p x m)).2.2.length=_;rw[this];show(x.2.2++[_]).length+ms.length=x.2.2.length+(ms.length+1);rw[List.length_append,List.length_singleton];omega
section
variable {r : Rules} {l l' : List Place} {nx : List (List Int)} {es : List En} {m m' : Mp} {acc : List Int} {ms : List Mv} {p q : Place} {i j num : Int} {x2 : (Rules × List Place × List (List Int) × List En × Mp × Unit)}
theorem nA_in (hj:decide (j<((ms.length:Nat):Int))=true) (hin:inb j ms.length=true) (hi:inb i l.length=true) (hp:getD' l i.toNat ([],(([],([],())),((0:Int),((0:Int),()))))=p) (hm:qp r p (getD' ms j.toNat ((0:Int),((0:Int),((0:Int),()))))=some q)
    (ha:qu (r,(l,(nx,(es,(m,()))))) q=some ((r,(l',(nx,(es,(m',()))))),num)) (hroom:room (acc.length+[num].length) 8=true) (hl:decide (((l'.length:Nat):Int)>3000)=false) {y} :
    qr ms ((i,()),y) ((acc,(j,())),(flT r l nx es m,()))=some (.inl ((acc++[num],(w64 (j+1),())),(flT r l' nx es m',()))):=by
  obtain⟨r1,r2,r3,r4,r5,r6,r7,r8,r9,r10,r11,⟨⟩⟩:=r;obtain⟨q1,⟨q2,q3,⟨⟩⟩,⟨q4,q5,⟨⟩⟩⟩:=q;simp only[flT];unfold qr;simp only[hj,cond_true,hin,qi,hi,hp,hm,Option.bind_some,ha,hroom,hl,cond_false]
theorem nA_out (hj:decide (j<((ms.length:Nat):Int))=false) {y} :
    qr ms ((i,()),y) ((acc,(j,())),(flT r l nx es m,()))=some (.inr (.inl ((acc,()),(flT r l nx es m,())))):=by
  obtain⟨r1,r2,r3,r4,r5,r6,r7,r8,r9,r10,r11,⟨⟩⟩:=r;simp only[flT];unfold qr;simp only[hj,cond_false]
theorem nA_big (hj:decide (j<((ms.length:Nat):Int))=true) (hin:inb j ms.length=true) (hi:inb i l.length=true) (hp:getD' l i.toNat ([],(([],([],())),((0:Int),((0:Int),()))))=p) (hm:qp r p (getD' ms j.toNat ((0:Int),((0:Int),((0:Int),()))))=some q)
    (ha:qu (r,(l,(nx,(es,(m,()))))) q=some ((r,(l',(nx,(es,(m',()))))),num)) (hroom:room (acc.length+[num].length) 8=true) (hl:decide (((l'.length:Nat):Int)>3000)=true) {y} :
    qr ms ((i,()),y) ((acc,(j,())),(flT r l nx es m,()))=some (.inr (.inr (.inr (.inr (.inr true))))):=by
  obtain⟨r1,r2,r3,r4,r5,r6,r7,r8,r9,r10,r11,⟨⟩⟩:=r;obtain⟨q1,⟨q2,q3,⟨⟩⟩,⟨q4,q5,⟨⟩⟩⟩:=q;simp only[flT];unfold qr;simp only[hj,cond_true,hin,qi,hi,hp,hm,Option.bind_some,ha,hroom,hl]
theorem nA_rowbig (hi0:decide (i<((l.length:Nat):Int))=true) (hi:inb i l.length=true) (hp:getD' l i.toNat ([],(([],([],())),((0:Int),((0:Int),()))))=p) (he:qaC r p=some ms)
    (hL:iterW (qr ms ((i,()),(flT r l nx es m,()))) (([],((0:Int),())),(flT r l nx es m,()))=some (.inr (.inr (.inr (.inr true))))) :
    qv ((i,()),(flT r l nx es m,()))=some (.inr (.inr true)):=by
  obtain⟨r1,r2,r3,r4,r5,r6,r7,r8,r9,r10,r11,⟨⟩⟩:=r;simp only[flT] at hL ⊢;unfold qv;simp only[hi0,cond_true,hi,qi,hp,he,Option.bind_some,hL,Sum.elim_inr]
theorem nA_row (hi0:decide (i<((l.length:Nat):Int))=true) (hi:inb i l.length=true) (hp:getD' l i.toNat ([],(([],([],())),((0:Int),((0:Int),()))))=p) (he:qaC r p=some ms)
    (hL:iterW (qr ms ((i,()),(flT r l nx es m,()))) (([],((0:Int),())),(flT r l nx es m,()))=some (.inl ((acc,()),(flT r l' nx es m',())))) (hroom:room (nx.length+[acc].length) 24=true) :
    qv ((i,()),(flT r l nx es m,()))=some (.inl ((w64 (i+1),()),(flT r l' (nx++[acc]) es m',()))):=by
  obtain⟨r1,r2,r3,r4,r5,r6,r7,r8,r9,r10,r11,⟨⟩⟩:=r;simp only[flT] at hL ⊢;unfold qv;simp only[hi0,cond_true,hi,qi,hp,he,Option.bind_some,hL,Sum.elim_inl,hroom]
theorem nA_end (hi0:decide (i<((l.length:Nat):Int))=false) :
    qv ((i,()),(flT r l nx es m,()))=some (.inr (.inl ((),(flT r l nx es m,())))):=by
  obtain⟨r1,r2,r3,r4,r5,r6,r7,r8,r9,r10,r11,⟨⟩⟩:=r;simp only[flT];unfold qv;simp only[hi0,cond_false]
end
theorem qq9 {r:Rules} {p:Place} (hv:Valid r p) {nx:List (List Int)} {es:List En} {l0:List Place} {m0:Mp} {i:Nat} (hi:l0[i]?=some p) (hc:qm r p=0) {y} (hfin:(rowM r p (qc r p) (l0,(m0,[]))).1.length≤3000):∀(f j:Nat),j+f=(qc r p).length →
    iterW (qr (qc r p) (((i:Int),()),y)) (((rowM r p ((qc r p).take j) (l0,(m0,[]))).2.2,((j:Int),())),(flT r (rowM r p ((qc r p).take j) (l0,(m0,[]))).1 nx es (rowM r p ((qc r p).take j) (l0,(m0,[]))).2.1,())) =
      some (.inl (((rowM r p (qc r p) (l0,(m0,[]))).2.2,()),(flT r (rowM r p (qc r p) (l0,(m0,[]))).1 nx es (rowM r p (qc r p) (l0,(m0,[]))).2.1,()))):=by
  have hml:=qS hv;have hil:i<l0.length:=(List.getElem?_eq_some_iff.1 hi).1;intro f
  induction f with
  | zero =>
    intro j hj
    obtain rfl:j=(qc r p).length:=by omega
    rw[List.take_length];exact qn (nA_out (qbj _))
  | succ f ih =>
    intro j hj
    have hj':j<(qc r p).length:=by omega
    have hma:=qcs hv (qev hc).symm hj';have hle:(rowM r p ((qc r p).take (j+1)) (l0,(m0,[]))).1.length≤3000:=by
      refine Nat.le_trans ?_ hfin;have:=qdm r p ((qc r p).drop (j+1)) (rowM r p ((qc r p).take (j+1)) (l0,(m0,[])));unfold rowM at this ⊢;rw[←List.foldl_append,List.take_append_drop] at this;exact this
    rw[List.take_succ_eq_append_getElem hj',qdA] at hle;have ih':=ih (j+1) (by omega);rw[List.take_succ_eq_append_getElem hj',qdA] at ih';have hacc:=qcS r p ((qc r p).take j) (l0,(m0,[]));have hlen0:=qdm r p ((qc r p).take j) (l0,(m0,[]));have hgp:=qhf r p ((qc r p).take j) (l0,(m0,[])) (i:=i) hil;generalize rowM r p ((qc r p).take j) (l0,(m0,[]))=x at hle ih' hacc hlen0 hgp ⊢;obtain⟨l,m,acc⟩:=x;have hle':(addL l m (qd r p (qc r p)[j])).length≤3000:=hle;have hll:=(qhl l m (qd r p (qc r p)[j])).1;have hacc':acc.length≤100000:=by
      have:acc.length=0+((qc r p).take j).length:=hacc;rw[List.length_take] at this;omega
    have hlen1:l0.length≤l.length:=hlen0;have hp:getD' l (i:Int).toNat ([],(([],([],())),((0:Int),((0:Int),()))))=p:=by
      have hg:l[i]?=some p:=hgp.trans hi;rw[Int.toNat_natCast];unfold getD';rw[List.getD_eq_getElem?_getD,hg];rfl
    have e:=nA_in (r:=r) (nx:=nx) (es:=es) (l:=l) (m:=m) (acc:=acc) (i:=(i:Int)) (j:=(j:Int)) (y:=y) (qax _ _ hj') (qB _ _ hj') (qB _ _ (by omega)) hp (by rw[qaS _ _ hj'];exact qbJ hv hma.1) (qfH hma.2 (by omega)) (qav (by rw[List.length_singleton];omega)) (decide_eq_false (by omega));rw[qk (by omega) (by omega)] at e;rw[qx e];rw[show(((j+1:Nat)):Int)=(j:Int)+1 by omega] at ih';exact ih'
section
variable {r : Rules} {l l' : List Place} {nx : List (List Int)} {es : List En} {m m' : Mp} {acc : List Int} {ms : List Mv} {p q : Place} {i j num : Int} {x2 : (Rules × List Place × List (List Int) × List En × Mp × Unit)}
theorem nB_in (hj:decide (j<((ms.length:Nat):Int))=true) (hin:inb j ms.length=true) (hi:inb i l.length=true) (hp:getD' l i.toNat ([],(([],([],())),((0:Int),((0:Int),()))))=p) (hm:qp r p (getD' ms j.toNat ((0:Int),((0:Int),((0:Int),()))))=some q)
    (ha:qu (r,(l,(nx,(es,(m,()))))) q=some ((r,(l',(nx,(es,(m',()))))),num)) (hroom:room (acc.length+[num].length) 8=true) (hl:decide (((l'.length:Nat):Int)>3000)=false) {y} :
    qC ms ((i,()),y) ((acc,(j,())),(flT r l nx es m,()))=some (.inl ((acc++[num],(w64 (j+1),())),(flT r l' nx es m',()))):=by
  obtain⟨r1,r2,r3,r4,r5,r6,r7,r8,r9,r10,r11,⟨⟩⟩:=r;obtain⟨q1,⟨q2,q3,⟨⟩⟩,⟨q4,q5,⟨⟩⟩⟩:=q;simp only[flT];unfold qC;simp only[hj,cond_true,hin,qi,hi,hp,hm,Option.bind_some,ha,hroom,hl,cond_false]
theorem nB_out (hj:decide (j<((ms.length:Nat):Int))=false) {y} :
    qC ms ((i,()),y) ((acc,(j,())),(flT r l nx es m,()))=some (.inr (.inl ((acc,()),(flT r l nx es m,())))):=by
  obtain⟨r1,r2,r3,r4,r5,r6,r7,r8,r9,r10,r11,⟨⟩⟩:=r;simp only[flT];unfold qC;simp only[hj,cond_false]
theorem nB_row (hi0:decide (i<((l.length:Nat):Int))=true) (hi:inb i l.length=true) (hp:getD' l i.toNat ([],(([],([],())),((0:Int),((0:Int),()))))=p) (he:qaC r p=some ms)
    (hL:iterW (qC ms ((i,()),(flT r l nx es m,()))) (([],((0:Int),())),(flT r l nx es m,()))=some (.inl ((acc,()),(flT r l' nx es m',())))) (hroom:room (nx.length+[acc].length) 24=true) :
    qK ((i,()),(flT r l nx es m,()))=some (.inl ((w64 (i+1),()),(flT r l' (nx++[acc]) es m',()))):=by
  obtain⟨r1,r2,r3,r4,r5,r6,r7,r8,r9,r10,r11,⟨⟩⟩:=r;simp only[flT] at hL ⊢;unfold qK;simp only[hi0,cond_true,hi,qi,hp,he,Option.bind_some,hL,Sum.elim_inl,hroom]
theorem nB_end (hi0:decide (i<((l.length:Nat):Int))=false) :
    qK ((i,()),(flT r l nx es m,()))=some (.inr (.inl ((),(flT r l nx es m,())))):=by
  obtain⟨r1,r2,r3,r4,r5,r6,r7,r8,r9,r10,r11,⟨⟩⟩:=r;simp only[flT];unfold qK;simp only[hi0,cond_false]
end
theorem nB_inner {r:Rules} {p:Place} (hv:Valid r p) {nx:List (List Int)} {es:List En} {l0:List Place} {m0:Mp} {i:Nat} (hi:l0[i]?=some p) (hc:qm r p=0) {y} (hfin:(rowM r p (qc r p) (l0,(m0,[]))).1.length≤3000):∀(f j:Nat),j+f=(qc r p).length →
    iterW (qC (qc r p) (((i:Int),()),y)) (((rowM r p ((qc r p).take j) (l0,(m0,[]))).2.2,((j:Int),())),(flT r (rowM r p ((qc r p).take j) (l0,(m0,[]))).1 nx es (rowM r p ((qc r p).take j) (l0,(m0,[]))).2.1,())) =
      some (.inl (((rowM r p (qc r p) (l0,(m0,[]))).2.2,()),(flT r (rowM r p (qc r p) (l0,(m0,[]))).1 nx es (rowM r p (qc r p) (l0,(m0,[]))).2.1,()))):=by
  have hml:=qS hv;have hil:i<l0.length:=(List.getElem?_eq_some_iff.1 hi).1;intro f
  induction f with
  | zero =>
    intro j hj
    obtain rfl:j=(qc r p).length:=by omega
    rw[List.take_length];exact qn (nB_out (qbj _))
  | succ f ih =>
    intro j hj
    have hj':j<(qc r p).length:=by omega
    have hma:=qcs hv (qev hc).symm hj';have hle:(rowM r p ((qc r p).take (j+1)) (l0,(m0,[]))).1.length≤3000:=by
      refine Nat.le_trans ?_ hfin;have:=qdm r p ((qc r p).drop (j+1)) (rowM r p ((qc r p).take (j+1)) (l0,(m0,[])));unfold rowM at this ⊢;rw[←List.foldl_append,List.take_append_drop] at this;exact this
    rw[List.take_succ_eq_append_getElem hj',qdA] at hle;have ih':=ih (j+1) (by omega);rw[List.take_succ_eq_append_getElem hj',qdA] at ih';have hacc:=qcS r p ((qc r p).take j) (l0,(m0,[]));have hlen0:=qdm r p ((qc r p).take j) (l0,(m0,[]));have hgp:=qhf r p ((qc r p).take j) (l0,(m0,[])) (i:=i) hil;generalize rowM r p ((qc r p).take j) (l0,(m0,[]))=x at hle ih' hacc hlen0 hgp ⊢;obtain⟨l,m,acc⟩:=x;have hle':(addL l m (qd r p (qc r p)[j])).length≤3000:=hle;have hll:=(qhl l m (qd r p (qc r p)[j])).1;have hacc':acc.length≤100000:=by
      have:acc.length=0+((qc r p).take j).length:=hacc;rw[List.length_take] at this;omega
    have hlen1:l0.length≤l.length:=hlen0;have hp:getD' l (i:Int).toNat ([],(([],([],())),((0:Int),((0:Int),()))))=p:=by
      have hg:l[i]?=some p:=hgp.trans hi;rw[Int.toNat_natCast];unfold getD';rw[List.getD_eq_getElem?_getD,hg];rfl
    have e:=nB_in (r:=r) (nx:=nx) (es:=es) (l:=l) (m:=m) (acc:=acc) (i:=(i:Int)) (j:=(j:Int)) (y:=y) (qax _ _ hj') (qB _ _ hj') (qB _ _ (by omega)) hp (by rw[qaS _ _ hj'];exact qbJ hv hma.1) (qfH hma.2 (by omega)) (qav (by rw[List.length_singleton];omega)) (decide_eq_false (by omega));rw[qk (by omega) (by omega)] at e;rw[qx e];rw[show(((j+1:Nat)):Int)=(j:Int)+1 by omega] at ih';exact ih'
section
variable {r : Rules} {l l' : List Place} {nx : List (List Int)} {es : List En} {m m' : Mp} {acc : List Int} {ms : List Mv} {p q : Place} {i j num : Int} {x2 : (Rules × List Place × List (List Int) × List En × Mp × Unit)}
theorem nC_in (hj:decide (j<((ms.length:Nat):Int))=true) (hin:inb j ms.length=true) (hi:inb i l.length=true) (hp:getD' l i.toNat ([],(([],([],())),((0:Int),((0:Int),()))))=p) (hm:qp r p (getD' ms j.toNat ((0:Int),((0:Int),((0:Int),()))))=some q)
    (ha:qu (r,(l,(nx,(es,(m,()))))) q=some ((r,(l',(nx,(es,(m',()))))),num)) (hroom:room (acc.length+[num].length) 8=true) (hl:decide (((l'.length:Nat):Int)>3000)=false) {y} :
    qE ms ((i,()),y) ((acc,(j,())),(flT r l nx es m,()))=some (.inl ((acc++[num],(w64 (j+1),())),(flT r l' nx es m',()))):=by
  obtain⟨r1,r2,r3,r4,r5,r6,r7,r8,r9,r10,r11,⟨⟩⟩:=r;obtain⟨q1,⟨q2,q3,⟨⟩⟩,⟨q4,q5,⟨⟩⟩⟩:=q;simp only[flT];unfold qE;simp only[hj,cond_true,hin,qi,hi,hp,hm,Option.bind_some,ha,hroom,hl,cond_false]
theorem nC_out (hj:decide (j<((ms.length:Nat):Int))=false) {y} :
    qE ms ((i,()),y) ((acc,(j,())),(flT r l nx es m,()))=some (.inr (.inl ((acc,()),(flT r l nx es m,())))):=by
  obtain⟨r1,r2,r3,r4,r5,r6,r7,r8,r9,r10,r11,⟨⟩⟩:=r;simp only[flT];unfold qE;simp only[hj,cond_false]
theorem nC_row (hi0:decide (i<((l.length:Nat):Int))=true) (hi:inb i l.length=true) (hp:getD' l i.toNat ([],(([],([],())),((0:Int),((0:Int),()))))=p) (he:qaC r p=some ms)
    (hL:iterW (qE ms ((i,()),(flT r l nx es m,()))) (([],((0:Int),())),(flT r l nx es m,()))=some (.inl ((acc,()),(flT r l' nx es m',())))) (hroom:room (nx.length+[acc].length) 24=true) :
    qD ((i,()),(flT r l nx es m,()))=some (.inl ((w64 (i+1),()),(flT r l' (nx++[acc]) es m',()))):=by
  obtain⟨r1,r2,r3,r4,r5,r6,r7,r8,r9,r10,r11,⟨⟩⟩:=r;simp only[flT] at hL ⊢;unfold qD;simp only[hi0,cond_true,hi,qi,hp,he,Option.bind_some,hL,Sum.elim_inl,hroom]
theorem nC_end (hi0:decide (i<((l.length:Nat):Int))=false) :
    qD ((i,()),(flT r l nx es m,()))=some (.inr (.inl ((),(flT r l nx es m,())))):=by
  obtain⟨r1,r2,r3,r4,r5,r6,r7,r8,r9,r10,r11,⟨⟩⟩:=r;simp only[flT];unfold qD;simp only[hi0,cond_false]
end
theorem nC_inner {r:Rules} {p:Place} (hv:Valid r p) {nx:List (List Int)} {es:List En} {l0:List Place} {m0:Mp} {i:Nat} (hi:l0[i]?=some p) (hc:qm r p=0) {y} (hfin:(rowM r p (qc r p) (l0,(m0,[]))).1.length≤3000):∀(f j:Nat),j+f=(qc r p).length →
    iterW (qE (qc r p) (((i:Int),()),y)) (((rowM r p ((qc r p).take j) (l0,(m0,[]))).2.2,((j:Int),())),(flT r (rowM r p ((qc r p).take j) (l0,(m0,[]))).1 nx es (rowM r p ((qc r p).take j) (l0,(m0,[]))).2.1,())) =
      some (.inl (((rowM r p (qc r p) (l0,(m0,[]))).2.2,()),(flT r (rowM r p (qc r p) (l0,(m0,[]))).1 nx es (rowM r p (qc r p) (l0,(m0,[]))).2.1,()))):=by
  have hml:=qS hv;have hil:i<l0.length:=(List.getElem?_eq_some_iff.1 hi).1;intro f
  induction f with
  | zero =>
    intro j hj
    obtain rfl:j=(qc r p).length:=by omega
    rw[List.take_length];exact qn (nC_out (qbj _))
  | succ f ih =>
    intro j hj
    have hj':j<(qc r p).length:=by omega
    have hma:=qcs hv (qev hc).symm hj';have hle:(rowM r p ((qc r p).take (j+1)) (l0,(m0,[]))).1.length≤3000:=by
      refine Nat.le_trans ?_ hfin;have:=qdm r p ((qc r p).drop (j+1)) (rowM r p ((qc r p).take (j+1)) (l0,(m0,[])));unfold rowM at this ⊢;rw[←List.foldl_append,List.take_append_drop] at this;exact this
    rw[List.take_succ_eq_append_getElem hj',qdA] at hle;have ih':=ih (j+1) (by omega);rw[List.take_succ_eq_append_getElem hj',qdA] at ih';have hacc:=qcS r p ((qc r p).take j) (l0,(m0,[]));have hlen0:=qdm r p ((qc r p).take j) (l0,(m0,[]));have hgp:=qhf r p ((qc r p).take j) (l0,(m0,[])) (i:=i) hil;generalize rowM r p ((qc r p).take j) (l0,(m0,[]))=x at hle ih' hacc hlen0 hgp ⊢;obtain⟨l,m,acc⟩:=x;have hle':(addL l m (qd r p (qc r p)[j])).length≤3000:=hle;have hll:=(qhl l m (qd r p (qc r p)[j])).1;have hacc':acc.length≤100000:=by
      have:acc.length=0+((qc r p).take j).length:=hacc;rw[List.length_take] at this;omega
    have hlen1:l0.length≤l.length:=hlen0;have hp:getD' l (i:Int).toNat ([],(([],([],())),((0:Int),((0:Int),()))))=p:=by
      have hg:l[i]?=some p:=hgp.trans hi;rw[Int.toNat_natCast];unfold getD';rw[List.getD_eq_getElem?_getD,hg];rfl
    have e:=nC_in (r:=r) (nx:=nx) (es:=es) (l:=l) (m:=m) (acc:=acc) (i:=(i:Int)) (j:=(j:Int)) (y:=y) (qax _ _ hj') (qB _ _ hj') (qB _ _ (by omega)) hp (by rw[qaS _ _ hj'];exact qbJ hv hma.1) (qfH hma.2 (by omega)) (qav (by rw[List.length_singleton];omega)) (decide_eq_false (by omega));rw[qk (by omega) (by omega)] at e;rw[qx e];rw[show(((j+1:Nat)):Int)=(j:Int)+1 by omega] at ih';exact ih'
end Go.Proofs.YtkkoolcdonhoaaaGreatDoor
namespace Go.Proofs.YtkkoolcdonhoaaaGreatDoor
open Go.Den
set_option linter.unusedVariables false
set_option linter.unusedSimpArgs false
set_option maxRecDepth 100000

structure PI (r:Rules) (l:List Place) (m:Mp):Prop where
  val:∀p∈l,Valid r p∧q0 p=p
  ix:IxOK l m
  kd:∀a b (ha:a<l.length) (hb:b<l.length),keyOf l[a]=keyOf l[b]→a=b
theorem PI.add {r:Rules} {l:List Place} {m:Mp} (h:PI r l m) {p:Place} (hv:Valid r p):PI r (addL l m p) (addM l m p):=by
  refine⟨fun q hq=>?_,addM_ok h.ix p,?_⟩
  · unfold addL at hq
    cases hg:(mpGet eqS m (keyOf p)).isSome with
    | true=>rw[hg] at hq;exact h.val q hq
    | false =>
      rw[hg] at hq;rcases List.mem_append.1 hq with hq | hq
      · exact h.val q hq
      · rw[List.mem_singleton] at hq;subst hq;exact⟨valid_q0 hv,rfl⟩
  · unfold addL
    cases hg:(mpGet eqS m (keyOf p)).isSome with
    | true=>exact h.kd
    | false =>
      have hnew:∀q∈l,keyOf q≠keyOf p:=fun q hq e=>by
        obtain⟨i,hi⟩:=(h.ix (keyOf p)).2 ⟨q,hq,e⟩;rw[hi] at hg;cases hg
      show ∀a b (ha:a<(l++[q0 p]).length) (hb:b<(l++[q0 p]).length),keyOf (l++[q0 p])[a]=keyOf (l++[q0 p])[b]→a=b;intro a b ha hb hk;rw[List.length_append,List.length_singleton] at ha hb;by_cases c1:a<l.length
      · by_cases c2:b<l.length
        · rw[List.getElem_append_left c1,List.getElem_append_left c2] at hk;exact h.kd a b c1 c2 hk
        · rw[List.getElem_append_left c1,List.getElem_append_right (by omega)] at hk;simp only[List.getElem_singleton] at hk;exact absurd hk (hnew _ (List.getElem_mem c1))
      · by_cases c2:b<l.length
        · rw[List.getElem_append_right (by omega),List.getElem_append_left c2] at hk;simp only[List.getElem_singleton] at hk;exact absurd hk.symm (hnew _ (List.getElem_mem c2))
        · omega
def RowOK (r:Rules) (l:List Place) (p:Place) (row:List Int):Prop:=row.length=(qe r p).length∧∀t (ht:t<(qe r p).length),∃c:Nat,row[t]?=some (c:Int)∧l[c]?=some (q0 (qd r p (qe r p)[t]))
theorem RowOK.grow {r:Rules} {l l':List Place} {p:Place} {row:List Int} (h:RowOK r l p row) (hl:∀i,i<l.length→l'[i]?=l[i]?):RowOK r l' p row:=by
  refine⟨h.1,fun t ht=>?_⟩;obtain⟨c,h1,h2⟩:=h.2 t ht;refine⟨c,h1,?_⟩;rw[hl c (List.getElem?_eq_some_iff.1 h2).1];exact h2
theorem row_ok {r:Rules} {p:Place} (hv:Valid r p) {l0:List Place} {m0:Mp} (h:PI r l0 m0):∀(f j:Nat),j+f=(qe r p).length →
    PI r (rowM r p ((qe r p).take j) (l0,(m0,[]))).1 (rowM r p ((qe r p).take j) (l0,(m0,[]))).2.1 ∧
    (∀t,t<j→∃c:Nat,(rowM r p ((qe r p).take j) (l0,(m0,[]))).2.2[t]?=some (c:Int)∧∃ht:t<(qe r p).length,(rowM r p ((qe r p).take j) (l0,(m0,[]))).1[c]?=some (q0 (qd r p (qe r p)[t]))) →
    PI r (rowM r p (qe r p) (l0,(m0,[]))).1 (rowM r p (qe r p) (l0,(m0,[]))).2.1∧RowOK r (rowM r p (qe r p) (l0,(m0,[]))).1 p (rowM r p (qe r p) (l0,(m0,[]))).2.2:=by
  intro f
  induction f with
  | zero =>
    intro j hj hh
    obtain rfl:j=(qe r p).length:=by omega
    rw[List.take_length] at hh;refine⟨hh.1,?_,fun t ht=>?_⟩
    · rw[qcS];exact Nat.zero_add _
    · obtain⟨c,h1,_,h2⟩:=hh.2 t ht;exact⟨c,h1,h2⟩
  | succ f ih =>
    intro j hj hh
    have hj':j<(qe r p).length:=by omega
    have hma:=qcs hv rfl hj';refine ih (j+1) (by omega) ?_;rw[List.take_succ_eq_append_getElem hj',qdA];have hacc:=qcS r p ((qe r p).take j) (l0,(m0,[]));have hacc':(rowM r p ((qe r p).take j) (l0,(m0,[]))).2.2.length=j:=by
      rw[hacc,List.length_take];show 0+min j _=j;omega
    generalize rowM r p ((qe r p).take j) (l0,(m0,[]))=x at hh hacc' ⊢;obtain⟨l,m,acc⟩:=x;obtain⟨hP,hR⟩:=hh;simp only at hP hR hacc';refine⟨hP.add hma.2,fun t ht=>?_⟩;show ∃c:Nat,(acc++[numOf l m (qd r p (qe r p)[j])])[t]?=some (c:Int)∧∃ht:t<(qe r p).length,(addL l m (qd r p (qe r p)[j]))[c]?=some (q0 (qd r p (qe r p)[t]));by_cases c:t<j
    · obtain⟨k,h1,ht',h2⟩:=hR t c;refine⟨k,?_,ht',?_⟩
      · rw[List.getElem?_append_left (by omega)];exact h1
      · rw[qq3 _ _ _ (List.getElem?_eq_some_iff.1 h2).1];exact h2
    · obtain rfl:t=j:=by omega
      obtain⟨k,h1,h2⟩:=numOf_ok hP.ix hP.val hma.2;refine⟨k,?_,hj',h2⟩;rw[List.getElem?_append_right (by omega),hacc',Nat.sub_self,h1];rfl
structure TI (r:Rules) (i:Nat) (x:List Place×List (List Int)×Mp):Prop where
  pi:PI r x.1 x.2.2
  n:x.2.1.length=i
  le:i≤x.1.length
  big:x.1.length≤3000
  row:∀k,k<i→∃p,x.1[k]?=some p∧RowOK r x.1 p (x.2.1.getD k [])
def newF (r:Rules):Nat→Nat→List Place×List (List Int)×Mp→Option (List Place×List (List Int)×Mp)
  | 0,_,_=>none
  | f+1,i,x=>match x.1[i]? with
    | none=>some x
    | some p=>if (rowM r p (qe r p) (x.1,(x.2.2,[]))).1.length≤3000 then newF r f (i+1) ((rowM r p (qe r p) (x.1,(x.2.2,[]))).1,(x.2.1++[(rowM r p (qe r p) (x.1,(x.2.2,[]))).2.2],(rowM r p (qe r p) (x.1,(x.2.2,[]))).2.1)) else none
theorem TI.next {r:Rules} {i:Nat} {x:List Place×List (List Int)×Mp} (h:TI r i x) {p:Place} (hp:x.1[i]?=some p) (hb:(rowM r p (qe r p) (x.1,(x.2.2,[]))).1.length≤3000) :
    TI r (i+1) ((rowM r p (qe r p) (x.1,(x.2.2,[]))).1,(x.2.1++[(rowM r p (qe r p) (x.1,(x.2.2,[]))).2.2],(rowM r p (qe r p) (x.1,(x.2.2,[]))).2.1)):=by
  obtain⟨hi,hpi⟩:=List.getElem?_eq_some_iff.1 hp;have hv:=(h.pi.val p (hpi▸List.getElem_mem hi)).1;have hr:=row_ok hv h.pi (qe r p).length 0 (by omega) ⟨h.pi,fun t ht=>by omega⟩;have hl:=qdm r p (qe r p) (x.1,(x.2.2,[]));have hg:=fun k (hk:k<x.1.length)=>qhf r p (qe r p) (x.1,(x.2.2,[])) (i:=k) hk;have hl':x.1.length≤(rowM r p (qe r p) (x.1,(x.2.2,[]))).1.length:=hl;refine⟨hr.1,?_,by show i+1≤_;exact Nat.le_trans hi hl',hb,fun k hk=>?_⟩
  · show(x.2.1++[_]).length=i+1;rw[List.length_append,List.length_singleton,h.n]
  · show ∃q,(rowM r p (qe r p) (x.1,(x.2.2,[]))).1[k]?=some q∧RowOK r _ q ((x.2.1++[(rowM r p (qe r p) (x.1,(x.2.2,[]))).2.2]).getD k []);by_cases c:k<i
    · obtain⟨q,h1,h2⟩:=h.row k c;refine⟨q,(hg k (by omega)).trans h1,?_⟩;rw[List.getD_eq_getElem?_getD,List.getElem?_append_left (by rw[h.n];exact c),←List.getD_eq_getElem?_getD];exact h2.grow hg
    · obtain rfl:k=i:=by omega
      refine⟨p,(hg k hi).trans hp,?_⟩;rw[List.getD_eq_getElem?_getD,List.getElem?_append_right (by rw[h.n];exact Nat.le_refl _),h.n,Nat.sub_self];exact hr.2
theorem newF_ok {r:Rules}:∀(f i:Nat) (x y:List Place×List (List Int)×Mp),TI r i x→newF r f i x=some y→TI r y.1.length y
  | 0,i,x,y,_,he=>by cases he
  | f+1,i,x,y,h,he=>by
    unfold newF at he
    cases hp:x.1[i]? with
    | none =>
      rw[hp] at he;cases he;have:=List.getElem?_eq_none_iff.1 hp
      have:x.1.length=i:=by have:=h.le;omega
      rw[this];exact h
    | some p =>
      rw[hp] at he;simp only at he;split at he
      · rename_i hb;exact newF_ok f (i+1) _ y (h.next hp hb) he
      · cases he
theorem qrC {r:Rules} {es:List En}:∀(f i:Nat) (x y:List Place×List (List Int)×Mp),TI r i x→newF r f i x=some y →
    iterW qv (((i:Int),()),(flT r x.1 x.2.1 es x.2.2,()))=some (.inl ((),(flT r y.1 y.2.1 es y.2.2,())))
  | 0,i,x,y,_,he=>by cases he
  | f+1,i,x,y,h,he=>by
    have hle:=h.le;have hbig:=h.big;unfold newF at he
    cases hp:x.1[i]? with
    | none =>
      rw[hp] at he;cases he;have h1:=List.getElem?_eq_none_iff.1 hp;exact qn (nA_end (decide_eq_false (by omega)))
    | some p =>
      rw[hp] at he;simp only at he;split at he
      · rename_i hb;obtain⟨hi,hpi⟩:=List.getElem?_eq_some_iff.1 hp;have hv:=(h.pi.val p (hpi▸List.getElem_mem hi)).1;have hml:=qS hv;have hgp:getD' x.1 (i:Int).toNat ([],(([],([],())),((0:Int),((0:Int),()))))=p:=by
          rw[qaS _ _ hi];exact hpi
        have hL:iterW (qr (qe r p) (((i:Int),()),(flT r x.1 x.2.1 es x.2.2,()))) (([],((0:Int),())),(flT r x.1 x.2.1 es x.2.2,())) =
            some (.inl (((rowM r p (qe r p) (x.1,(x.2.2,[]))).2.2,()),(flT r (rowM r p (qe r p) (x.1,(x.2.2,[]))).1 x.2.1 es (rowM r p (qe r p) (x.1,(x.2.2,[]))).2.1,()))):=by
          by_cases c:qm r p=0
          · rw[qev c] at hb ⊢;have:=qq9 hv (nx:=x.2.1) (es:=es) (l0:=x.1) (m0:=x.2.2) (i:=i) (y:=(flT r x.1 x.2.1 es x.2.2,())) hp c hb (qc r p).length 0 (by omega);exact this
          · rw[qnj c];exact qn (nA_out (by simp))
        have hrl:(rowM r p (qe r p) (x.1,(x.2.2,[]))).2.2.length≤100000:=by
          rw[qcS];show 0+_≤_;unfold qe;split
          · omega
          · show 0+0≤_;omega
        have e:=nA_row (i:=(i:Int)) (decide_eq_true (by omega)) (qB _ _ hi) hgp (qaX hv) hL (qav (by rw[h.n,List.length_singleton];omega));rw[qk (by omega) (by omega),show((i:Int)+1)=((i+1:Nat):Int) by omega] at e;rw[qx e];exact qrC f (i+1) _ y (h.next hp hb) he
      · cases he
theorem qqE {r:Rules} {p:Place} (hv:Valid r p) {nx:List (List Int)} {es:List En} {l0:List Place} {m0:Mp} (hl0:l0.length≤3000) {i:Nat} (hi:l0[i]?=some p) (hc:qm r p=0) {y}:∀(f j:Nat),j+f=(qc r p).length→(rowM r p ((qc r p).take j) (l0,(m0,[]))).1.length≤3000→¬(rowM r p (qc r p) (l0,(m0,[]))).1.length≤3000 →
    iterW (qr (qc r p) (((i:Int),()),y)) (((rowM r p ((qc r p).take j) (l0,(m0,[]))).2.2,((j:Int),())),(flT r (rowM r p ((qc r p).take j) (l0,(m0,[]))).1 nx es (rowM r p ((qc r p).take j) (l0,(m0,[]))).2.1,()))=some (.inr (.inr (.inr (.inr true)))):=by
  have hml:=qS hv;have hil:i<l0.length:=(List.getElem?_eq_some_iff.1 hi).1;intro f
  induction f with
  | zero =>
    intro j hj h1 h2
    obtain rfl:j=(qc r p).length:=by omega
    rw[List.take_length] at h1;exact absurd h1 h2
  | succ f ih =>
    intro j hj h1 h2
    have hj':j<(qc r p).length:=by omega
    have hma:=qcs hv (qev hc).symm hj';have ih':=ih (j+1) (by omega);rw[List.take_succ_eq_append_getElem hj',qdA] at ih';have hacc:=qcS r p ((qc r p).take j) (l0,(m0,[]));have hlen0:=qdm r p ((qc r p).take j) (l0,(m0,[]));have hgp:=qhf r p ((qc r p).take j) (l0,(m0,[])) (i:=i) hil;generalize rowM r p ((qc r p).take j) (l0,(m0,[]))=x at h1 ih' hacc hlen0 hgp ⊢;obtain⟨l,m,acc⟩:=x;have h1':l.length≤3000:=h1;have hacc':acc.length≤100000:=by
      have:acc.length=0+((qc r p).take j).length:=hacc;rw[List.length_take] at this;omega
    have hlen1:l0.length≤l.length:=hlen0;have hp:getD' l (i:Int).toNat ([],(([],([],())),((0:Int),((0:Int),()))))=p:=by
      have hg:l[i]?=some p:=hgp.trans hi;rw[Int.toNat_natCast];unfold getD';rw[List.getD_eq_getElem?_getD,hg];rfl
    by_cases c:(addL l m (qd r p (qc r p)[j])).length≤3000
    · have e:=nA_in (r:=r) (nx:=nx) (es:=es) (l:=l) (m:=m) (acc:=acc) (i:=(i:Int)) (j:=(j:Int)) (y:=y) (qax _ _ hj') (qB _ _ hj') (qB _ _ (by omega)) hp (by rw[qaS _ _ hj'];exact qbJ hv hma.1) (qfH hma.2 (by omega)) (qav (by rw[List.length_singleton];omega)) (decide_eq_false (by omega));rw[qk (by omega) (by omega)] at e;rw[qx e];rw[show(((j+1:Nat)):Int)=(j:Int)+1 by omega] at ih';exact ih' c h2
    · exact qn (nA_big (r:=r) (nx:=nx) (es:=es) (l:=l) (m:=m) (acc:=acc) (i:=(i:Int)) (j:=(j:Int)) (y:=y) (qax _ _ hj') (qB _ _ hj') (qB _ _ (by omega)) hp (by rw[qaS _ _ hj'];exact qbJ hv hma.1) (qfH hma.2 (by omega)) (qav (by rw[List.length_singleton];omega)) (decide_eq_true (by omega)))
theorem qmj {r:Rules} {es:List En}:∀(f i:Nat) (x:List Place×List (List Int)×Mp),TI r i x→3001≤f+i→newF r f i x=none →
    iterW qv (((i:Int),()),(flT r x.1 x.2.1 es x.2.2,()))=some (.inr true)
  | 0,i,x,h,hf,_=>by have:=h.le;have:=h.big;omega
  | f+1,i,x,h,hf,he=>by
    have hle:=h.le;have hbig:=h.big;unfold newF at he
    cases hp:x.1[i]? with
    | none =>
      rw[hp] at he;cases he
    | some p =>
      rw[hp] at he;simp only at he;obtain⟨hi,hpi⟩:=List.getElem?_eq_some_iff.1 hp;have hv:=(h.pi.val p (hpi▸List.getElem_mem hi)).1;have hml:=qS hv;have hgp:getD' x.1 (i:Int).toNat ([],(([],([],())),((0:Int),((0:Int),()))))=p:=by
        rw[qaS _ _ hi];exact hpi
      split at he
      · rename_i hb
        have hL:iterW (qr (qe r p) (((i:Int),()),(flT r x.1 x.2.1 es x.2.2,()))) (([],((0:Int),())),(flT r x.1 x.2.1 es x.2.2,())) =
            some (.inl (((rowM r p (qe r p) (x.1,(x.2.2,[]))).2.2,()),(flT r (rowM r p (qe r p) (x.1,(x.2.2,[]))).1 x.2.1 es (rowM r p (qe r p) (x.1,(x.2.2,[]))).2.1,()))):=by
          by_cases c:qm r p=0
          · rw[qev c] at hb ⊢;have:=qq9 hv (nx:=x.2.1) (es:=es) (l0:=x.1) (m0:=x.2.2) (i:=i) (y:=(flT r x.1 x.2.1 es x.2.2,())) hp c hb (qc r p).length 0 (by omega);exact this
          · rw[qnj c];exact qn (nA_out (by simp))
        have hrl:(rowM r p (qe r p) (x.1,(x.2.2,[]))).2.2.length≤100000:=by
          rw[qcS];show 0+_≤_;unfold qe;split
          · omega
          · show 0+0≤_;omega
        have e:=nA_row (i:=(i:Int)) (decide_eq_true (by omega)) (qB _ _ hi) hgp (qaX hv) hL (qav (by rw[h.n,List.length_singleton];omega));rw[qk (by omega) (by omega),show((i:Int)+1)=((i+1:Nat):Int) by omega] at e;rw[qx e];exact qmj f (i+1) _ (h.next hp hb) (by omega) he
      · rename_i hb;by_cases c:qm r p=0
        · have hom:=qev c;rw[hom] at hb;have hL:=qqE hv (nx:=x.2.1) (es:=es) (l0:=x.1) (m0:=x.2.2) hbig (i:=i) (y:=(flT r x.1 x.2.1 es x.2.2,())) hp c (qc r p).length 0 (by omega) hbig hb;exact qn (nA_rowbig (i:=(i:Int)) (ms:=qc r p) (decide_eq_true (by omega)) (qB _ _ hi) hgp (by rw[qaX hv,hom]) hL)
        · rw[qnj c] at hb;exact absurd hbig hb
theorem qqO {r:Rules} {es:List En}:∀(f i:Nat) (x y:List Place×List (List Int)×Mp),TI r i x→newF r f i x=some y →
    iterW qK (((i:Int),()),(flT r x.1 x.2.1 es x.2.2,()))=some (.inl ((),(flT r y.1 y.2.1 es y.2.2,())))
  | 0,i,x,y,_,he=>by cases he
  | f+1,i,x,y,h,he=>by
    have hle:=h.le;have hbig:=h.big;unfold newF at he
    cases hp:x.1[i]? with
    | none =>
      rw[hp] at he;cases he;have h1:=List.getElem?_eq_none_iff.1 hp;exact qn (nB_end (decide_eq_false (by omega)))
    | some p =>
      rw[hp] at he;simp only at he;split at he
      · rename_i hb;obtain⟨hi,hpi⟩:=List.getElem?_eq_some_iff.1 hp;have hv:=(h.pi.val p (hpi▸List.getElem_mem hi)).1;have hml:=qS hv;have hgp:getD' x.1 (i:Int).toNat ([],(([],([],())),((0:Int),((0:Int),()))))=p:=by
          rw[qaS _ _ hi];exact hpi
        have hL:iterW (qC (qe r p) (((i:Int),()),(flT r x.1 x.2.1 es x.2.2,()))) (([],((0:Int),())),(flT r x.1 x.2.1 es x.2.2,())) =
            some (.inl (((rowM r p (qe r p) (x.1,(x.2.2,[]))).2.2,()),(flT r (rowM r p (qe r p) (x.1,(x.2.2,[]))).1 x.2.1 es (rowM r p (qe r p) (x.1,(x.2.2,[]))).2.1,()))):=by
          by_cases c:qm r p=0
          · rw[qev c] at hb ⊢;have:=nB_inner hv (nx:=x.2.1) (es:=es) (l0:=x.1) (m0:=x.2.2) (i:=i) (y:=(flT r x.1 x.2.1 es x.2.2,())) hp c hb (qc r p).length 0 (by omega);exact this
          · rw[qnj c];exact qn (nB_out (by simp))
        have hrl:(rowM r p (qe r p) (x.1,(x.2.2,[]))).2.2.length≤100000:=by
          rw[qcS];show 0+_≤_;unfold qe;split
          · omega
          · show 0+0≤_;omega
        have e:=nB_row (i:=(i:Int)) (decide_eq_true (by omega)) (qB _ _ hi) hgp (qaX hv) hL (qav (by rw[h.n,List.length_singleton];omega));rw[qk (by omega) (by omega),show((i:Int)+1)=((i+1:Nat):Int) by omega] at e;rw[qx e];exact qqO f (i+1) _ y (h.next hp hb) he
      · cases he
theorem qrB {r:Rules} {es:List En}:∀(f i:Nat) (x y:List Place×List (List Int)×Mp),TI r i x→newF r f i x=some y →
    iterW qD (((i:Int),()),(flT r x.1 x.2.1 es x.2.2,()))=some (.inl ((),(flT r y.1 y.2.1 es y.2.2,())))
  | 0,i,x,y,_,he=>by cases he
  | f+1,i,x,y,h,he=>by
    have hle:=h.le;have hbig:=h.big;unfold newF at he
    cases hp:x.1[i]? with
    | none =>
      rw[hp] at he;cases he;have h1:=List.getElem?_eq_none_iff.1 hp;exact qn (nC_end (decide_eq_false (by omega)))
    | some p =>
      rw[hp] at he;simp only at he;split at he
      · rename_i hb;obtain⟨hi,hpi⟩:=List.getElem?_eq_some_iff.1 hp;have hv:=(h.pi.val p (hpi▸List.getElem_mem hi)).1;have hml:=qS hv;have hgp:getD' x.1 (i:Int).toNat ([],(([],([],())),((0:Int),((0:Int),()))))=p:=by
          rw[qaS _ _ hi];exact hpi
        have hL:iterW (qE (qe r p) (((i:Int),()),(flT r x.1 x.2.1 es x.2.2,()))) (([],((0:Int),())),(flT r x.1 x.2.1 es x.2.2,())) =
            some (.inl (((rowM r p (qe r p) (x.1,(x.2.2,[]))).2.2,()),(flT r (rowM r p (qe r p) (x.1,(x.2.2,[]))).1 x.2.1 es (rowM r p (qe r p) (x.1,(x.2.2,[]))).2.1,()))):=by
          by_cases c:qm r p=0
          · rw[qev c] at hb ⊢;have:=nC_inner hv (nx:=x.2.1) (es:=es) (l0:=x.1) (m0:=x.2.2) (i:=i) (y:=(flT r x.1 x.2.1 es x.2.2,())) hp c hb (qc r p).length 0 (by omega);exact this
          · rw[qnj c];exact qn (nC_out (by simp))
        have hrl:(rowM r p (qe r p) (x.1,(x.2.2,[]))).2.2.length≤100000:=by
          rw[qcS];show 0+_≤_;unfold qe;split
          · omega
          · show 0+0≤_;omega
        have e:=nC_row (i:=(i:Int)) (decide_eq_true (by omega)) (qB _ _ hi) hgp (qaX hv) hL (qav (by rw[h.n,List.length_singleton];omega));rw[qk (by omega) (by omega),show((i:Int)+1)=((i+1:Nat):Int) by omega] at e;rw[qx e];exact qrB f (i+1) _ y (h.next hp hb) he
      · cases he

abbrev eP:Place:=([],(([],([],())),((0:Int),((0:Int),()))))
abbrev eE:En:=((0:Int),((0:Int),()))
def rsl (es:List En) (c:Int):Int:=(getD' es c.toNat eE).1
def rowI (nx:List (List Int)) (i:Nat):List Int:=getD' nx i []
def trn (l:List Place) (i:Nat):Int:=(getD' l i eP).2.2.1
def winB (l:List Place) (nx:List (List Int)) (es:List En) (i:Nat):Bool:=(rowI nx i).any fun c=>rsl es c==1+trn l i
def losB (l:List Place) (nx:List (List Int)) (es:List En) (i:Nat):Bool:=(rowI nx i).all fun c=>rsl es c==2-trn l i
def fndB (l:List Place) (nx:List (List Int)) (es:List En) (i:Nat):Bool:=(rsl es (i:Int)==0)&&(winB l nx es i||losB l nx es i)
def qaQ (l:List Place) (nx:List (List Int)) (es:List En):List Nat:=(List.range l.length).filter (fndB l nx es)
def resN (l:List Place) (nx:List (List Int)) (es:List En) (i:Nat):Int:=if winB l nx es i=true then 1+trn l i else 2-trn l i
def qgJ (l:List Place) (nx:List (List Int)) (n:Int) (es:List En):List En:=(qaQ l nx es).foldl (fun e k=>e.set k (resN l nx es k,(n,()))) es
def drawM (es:List En):List En:=es.map fun e=>if e.1=0 then((3:Int),e.2) else e
structure WF (l:List Place) (nx:List (List Int)) (es:List En):Prop where
  ll:l.length≤3000
  nl:nx.length=l.length
  el:es.length=l.length
  row:∀i<l.length,∀c∈rowI nx i,0≤c∧c<((l.length:Nat):Int)
  rl:∀i<l.length,(rowI nx i).length≤100000
  turn:∀i<l.length,trn l i=0∨trn l i=1
section
variable {r : Rules} {l : List Place} {nx : List (List Int)} {es0 es : List En} {m : Mp} {fs : List Int} {i j d n v o : Int} {p : Place} {row : List Int}
theorem L4_hit (hr:getD' nx i.toNat []=row) (hp:getD' l i.toNat eP=p) (hj:decide (j<((row.length:Nat):Int))=true) (hat:at? row j=some d) (hin:inb d es.length=true) (hv:(getD' es d.toNat eE).1=v) (ho:w64 (1+p.2.2.1)=o) (h:(v==o)=true) (hj0:decide (j≥0)=true) :
    qF (r,(l,(nx,(es0,(m,()))))) ((fs,(i,())),()) ((n,()),(es,())) ((j,()),())=some (.inr (.inr ((true,()),()))):=by
  unfold qF;simp only[hr,hj,cond_true,hat,Option.bind_some,hin,qi,hv,hp,ho,h,hj0]
theorem L4_miss (hr:getD' nx i.toNat []=row) (hp:getD' l i.toNat eP=p) (hj:decide (j<((row.length:Nat):Int))=true) (hat:at? row j=some d) (hin:inb d es.length=true) (hv:(getD' es d.toNat eE).1=v) (ho:w64 (1+p.2.2.1)=o) (h:(v==o)=false) :
    qF (r,(l,(nx,(es0,(m,()))))) ((fs,(i,())),()) ((n,()),(es,())) ((j,()),())=some (.inl ((w64 (j+1),()),())):=by
  unfold qF;simp only[hr,hj,cond_true,hat,Option.bind_some,hin,qi,hv,hp,ho,h,cond_false]
theorem L4_end (hr:getD' nx i.toNat []=row) (hj:decide (j<((row.length:Nat):Int))=false) :
    qF (r,(l,(nx,(es0,(m,()))))) ((fs,(i,())),()) ((n,()),(es,())) ((j,()),())=some (.inr (.inl ((),()))):=by
  unfold qF;simp only[hr,hj,cond_false]
theorem L8_hit {w:Bool} (hr:getD' nx i.toNat []=row) (hp:getD' l i.toNat eP=p) (hj:decide (j<((row.length:Nat):Int))=true) (hat:at? row j=some d) (hin:inb d es.length=true) (hv:(getD' es d.toNat eE).1=v) (ho:w64 (2-p.2.2.1)=o) (h:(v !=o)=true) (hj0:decide (j≥0)=true) (hroom:room (fs.length+[i].length) 8=true) :
    qT (r,(l,(nx,(es0,(m,()))))) ((fs,(i,())),()) ((n,()),(es,())) ((w,()),()) ((j,()),())=some (.inr (.inr ((bif w then fs++[i] else fs,()),()))):=by
  unfold qT
  cases w with
  | true=>simp only[hr,hj,cond_true,hat,Option.bind_some,hin,qi,hv,hp,ho,h,hj0,Bool.true_or,hroom,Option.map_some]
  | false=>simp only[hr,hj,cond_true,hat,Option.bind_some,hin,qi,hv,hp,ho,h,hj0,Bool.not_true,Bool.or_self,cond_false,Option.map_some]
theorem L8_miss {w:Bool} (hr:getD' nx i.toNat []=row) (hp:getD' l i.toNat eP=p) (hj:decide (j<((row.length:Nat):Int))=true) (hat:at? row j=some d) (hin:inb d es.length=true) (hv:(getD' es d.toNat eE).1=v) (ho:w64 (2-p.2.2.1)=o) (h:(v !=o)=false) :
    qT (r,(l,(nx,(es0,(m,()))))) ((fs,(i,())),()) ((n,()),(es,())) ((w,()),()) ((j,()),())=some (.inl ((w64 (j+1),()),())):=by
  unfold qT;simp only[hr,hj,cond_true,hat,Option.bind_some,hin,qi,hv,hp,ho,h,cond_false]
theorem L8_end {w:Bool} (hr:getD' nx i.toNat []=row) (hj:decide (j<((row.length:Nat):Int))=false) :
    qT (r,(l,(nx,(es0,(m,()))))) ((fs,(i,())),()) ((n,()),(es,())) ((w,()),()) ((j,()),())=some (.inr (.inl ((),()))):=by
  unfold qT;simp only[hr,hj,cond_false]
end
theorem atI {xs:List Int} {j:Nat} (h:j<xs.length):at? xs (j:Int)=some xs[j]:=by
  unfold at?;rw[show decide (0≤(j:Int))=true from decide_eq_true (by omega),cond_true,Int.toNat_natCast,List.getElem?_eq_getElem h]
section
variable {r : Rules} {l : List Place} {nx : List (List Int)} {es0 es : List En} {m : Mp}
theorem L4_spec (h:WF l nx es) {i:Nat} (hi:i<l.length) (fs:List Int) (n:Int):∀(f j:Nat),j+f=(rowI nx i).length →
    (Option.bind (α:=((Unit)×(Unit)) ⊕ ((Bool×Unit)×(Unit))) (iterW (qF (r,(l,(nx,(es0,(m,()))))) ((fs,((i:Int),())),()) ((n,()),(es,()))) (((j:Int),()),())) (Sum.elim (fun x8=>some ((false,()),())) some))=some ((((rowI nx i).drop j).any (fun c=>rsl es c==1+trn l i),()),()):=by
  have hrl:=h.rl i hi;have ht:=h.turn i hi;have ho:w64 (1+(getD' l (i:Int).toNat eP).2.2.1)=1+trn l i:=by
    show w64 (1+trn l i)=_;exact qk (by omega) (by omega)
  intro f
  induction f with
  | zero =>
    intro j hj;rw[qn (L4_end (row:=rowI nx i) (by rw[Int.toNat_natCast];rfl) (decide_eq_false (by omega))),List.drop_eq_nil_of_le (by omega)];rfl
  | succ f ih =>
    intro j hj
    have hj':j<(rowI nx i).length:=by omega
    have hc:=h.row i hi _ (List.getElem_mem hj');have hin:inb (rowI nx i)[j] es.length=true:=inb_iff.2 ⟨hc.1,by rw[h.el];exact hc.2⟩;rw[List.drop_eq_getElem_cons hj',List.any_cons];by_cases c:rsl es (rowI nx i)[j]=1+trn l i
    · rw[qn (L4_hit (row:=rowI nx i) (by rw[Int.toNat_natCast];rfl) rfl (qax _ _ hj') (atI hj') hin rfl ho (beq_t c) (decide_eq_true (by omega))),beq_t c];rfl
    · have e:=L4_miss (r:=r) (es0:=es0) (m:=m) (fs:=fs) (n:=n) (row:=rowI nx i) (by rw[Int.toNat_natCast];rfl) rfl (qax _ _ hj') (atI hj') hin rfl ho (beq_f c);rw[qk (by omega) (by omega)] at e;have:=ih (j+1) (by omega);rw[show(((j+1:Nat)):Int)=(j:Int)+1 by omega] at this;rw[qx e,this,beq_f c,Bool.false_or]
theorem L8_spec (h:WF l nx es) {i:Nat} (hi:i<l.length) (fs:List Int) (hfs:fs.length≤100000) (n:Int) (w:Bool):∀(f j:Nat),j+f=(rowI nx i).length →
    (Option.bind (α:=((Unit)×(Unit)) ⊕ (((List Int)×Unit)×(Unit))) (iterW (qT (r,(l,(nx,(es0,(m,()))))) ((fs,((i:Int),())),()) ((n,()),(es,())) ((w,()),())) (((j:Int),()),())) (Sum.elim (fun x22=>Option.bind (bif (w||true) then req (room (fs.length+[(i:Int)].length) 8) (some (((fs++[(i:Int)]),()),())) else some ((fs,()),())) fun x23=>some ((x23.1.1,()),())) some)) =
      some ((bif w||((rowI nx i).drop j).all (fun c=>rsl es c==2-trn l i) then fs++[(i:Int)] else fs,()),()):=by
  have hrl:=h.rl i hi;have ht:=h.turn i hi;have ho:w64 (2-(getD' l (i:Int).toNat eP).2.2.1)=2-trn l i:=by
    show w64 (2-trn l i)=_;exact qk (by omega) (by omega)
  have hroom:room (fs.length+[(i:Int)].length) 8=true:=qav (by rw[List.length_singleton];omega);intro f
  induction f with
  | zero =>
    intro j hj;rw[qn (L8_end (row:=rowI nx i) (by rw[Int.toNat_natCast];rfl) (decide_eq_false (by omega))),List.drop_eq_nil_of_le (by omega),List.all_nil,Bool.or_true,Option.bind_some,Sum.elim_inl,cond_true,hroom,qi];rfl
  | succ f ih =>
    intro j hj
    have hj':j<(rowI nx i).length:=by omega
    have hc:=h.row i hi _ (List.getElem_mem hj');have hin:inb (rowI nx i)[j] es.length=true:=inb_iff.2 ⟨hc.1,by rw[h.el];exact hc.2⟩;rw[List.drop_eq_getElem_cons hj',List.all_cons];by_cases c:rsl es (rowI nx i)[j]=2-trn l i
    · have e:=L8_miss (r:=r) (es0:=es0) (m:=m) (fs:=fs) (n:=n) (w:=w) (row:=rowI nx i) (by rw[Int.toNat_natCast];rfl) rfl (qax _ _ hj') (atI hj') hin rfl ho (bne_f c);rw[qk (by omega) (by omega)] at e;have:=ih (j+1) (by omega);rw[show(((j+1:Nat)):Int)=(j:Int)+1 by omega] at this;rw[qx e,this,beq_t c,Bool.true_and]
    · rw[qn (L8_hit (row:=rowI nx i) (by rw[Int.toNat_natCast];rfl) rfl (qax _ _ hj') (atI hj') hin rfl ho (bne_t c) (decide_eq_true (by omega)) hroom),beq_f c,Bool.false_and,Bool.or_false];rfl
end
section
variable {r : Rules} {l : List Place} {nx : List (List Int)} {es0 es : List En} {m : Mp} {fs : List Int} {i n : Int}
theorem L3_done (hi:decide (i<((l.length:Nat):Int))=true) (hin:inb i l.length=true) (hin2:inb i es.length=true) (h0:((getD' es i.toNat eE).1 !=0)=true) :
    qI (r,(l,(nx,(es0,(m,()))))) ((n,()),(es,())) ((fs,(i,())),())=some (.inl ((fs,(w64 (i+1),())),())):=by
  unfold qI;simp only[hi,cond_true,hin,qi,hin2,h0,Option.bind_some]
theorem L3_open {w:Bool} {fs':List Int} (hi:decide (i<((l.length:Nat):Int))=true) (hin:inb i l.length=true) (hin2:inb i es.length=true) (hin3:inb i nx.length=true) (h0:((getD' es i.toNat eE).1 !=0)=false)
    (h4:(Option.bind (α:=((Unit)×(Unit)) ⊕ ((Bool×Unit)×(Unit))) (iterW (qF (r,(l,(nx,(es0,(m,()))))) ((fs,(i,())),()) ((n,()),(es,()))) (((0:Int),()),())) (Sum.elim (fun x8=>some ((false,()),())) some))=some ((w,()),()))
    (h8:(Option.bind (α:=((Unit)×(Unit)) ⊕ (((List Int)×Unit)×(Unit))) (iterW (qT (r,(l,(nx,(es0,(m,()))))) ((fs,(i,())),()) ((n,()),(es,())) ((w,()),())) (((0:Int),()),())) (Sum.elim (fun x22=>Option.bind (bif (w||true) then req (room (fs.length+[i].length) 8) (some (((fs++[i]),()),())) else some ((fs,()),())) fun x23=>some ((x23.1.1,()),())) some))=some ((fs',()),())) :
    qI (r,(l,(nx,(es0,(m,()))))) ((n,()),(es,())) ((fs,(i,())),())=some (.inl ((fs',(w64 (i+1),())),())):=by
  unfold qI;simp only[hi,cond_true,hin,qi,hin2,hin3,h0,cond_false,h4,agree_self,Option.bind_some,h8]
theorem L3_end (hi:decide (i<((l.length:Nat):Int))=false) :
    qI (r,(l,(nx,(es0,(m,()))))) ((n,()),(es,())) ((fs,(i,())),())=some (.inr ((fs,()),())):=by
  unfold qI;simp only[hi,cond_false]
end
theorem L3_spec {r:Rules} {l:List Place} {nx:List (List Int)} {es0 es:List En} {m:Mp} (h:WF l nx es) (n:Int) :
    iterW (qI (r,(l,(nx,(es0,(m,()))))) ((n,()),(es,()))) (([],((0:Int),())),())=some (((qaQ l nx es).map (fun k:Nat=>(k:Int)),()),()):=by
  have hll:=h.ll
  have st:=qZ (f:=qI (r,(l,(nx,(es0,(m,()))))) ((n,()),(es,()))) l.length (fun i=>(((((List.range i).filter (fndB l nx es)).map (fun k:Nat=>(k:Int)),((i:Int),())),()))) (((qaQ l nx es).map (fun k:Nat=>(k:Int)),()),()) (fun i hi=>by
    have hfl:(((List.range i).filter (fndB l nx es)).map (fun k:Nat=>(k:Int))).length≤100000:=by
      rw[List.length_map];refine Nat.le_trans (List.length_filter_le _ _) ?_;rw[List.length_range];omega
    have hw:w64 ((i:Int)+1)=((i+1:Nat):Int):=by rw[qk (by omega) (by omega)];omega
    have hes:i<es.length:=by rw[h.el];exact hi
    have hstep:((List.range (i+1)).filter (fndB l nx es)).map (fun k:Nat=>(k:Int))=bif fndB l nx es i then((List.range i).filter (fndB l nx es)).map (fun k:Nat=>(k:Int))++[(i:Int)] else((List.range i).filter (fndB l nx es)).map (fun k:Nat=>(k:Int)):=by
      rw[List.range_succ,List.filter_append,List.map_append]
      cases hf:fndB l nx es i with
      | true=>simp[hf]
      | false=>simp[hf]
    rw[hstep,←hw];by_cases c:rsl es (i:Int)=0
    · have e4:=L4_spec (r:=r) (es0:=es0) (m:=m) h hi (((List.range i).filter (fndB l nx es)).map (fun k:Nat=>(k:Int))) n (rowI nx i).length 0 (by omega);have e8:=L8_spec (r:=r) (es0:=es0) (m:=m) h hi (((List.range i).filter (fndB l nx es)).map (fun k:Nat=>(k:Int))) hfl n (winB l nx es i) (rowI nx i).length 0 (by omega);have hf:fndB l nx es i=(winB l nx es i||((rowI nx i).drop 0).all (fun c=>rsl es c==2-trn l i)):=by
        unfold fndB;rw[beq_t c,Bool.true_and];rfl
      rw[hf];exact L3_open (qax _ _ hi) (qB _ _ hi) (qB _ _ hes) (qB _ _ (by rw[h.nl];exact hi)) (bne_f c) e4 e8
    · have hf:fndB l nx es i=false:=by
        unfold fndB;rw[beq_f c,Bool.false_and]
      rw[hf]
      exact L3_done (qax _ _ hi) (qB _ _ hi) (qB _ _ hes) (bne_t c)) (L3_end (qbj _))
  exact st
end Go.Proofs.YtkkoolcdonhoaaaGreatDoor
namespace Go.Proofs.YtkkoolcdonhoaaaGreatDoor
open Go.Den
set_option linter.unusedVariables false
set_option linter.unusedSimpArgs false
set_option maxRecDepth 100000

section
variable {r : Rules} {l : List Place} {nx : List (List Int)} {es0 es : List En} {m : Mp} {fs rs : List Int} {a i j d n v o o2 : Int} {p : Place} {row : List Int}
theorem L11_hit (hf:getD' fs a.toNat 0=i) (hr:getD' nx i.toNat []=row) (hp:getD' l i.toNat eP=p) (hj:decide (j<((row.length:Nat):Int))=true) (hat:at? row j=some d) (hin:inb d es.length=true) (hin2:inb i l.length=true) (hv:(getD' es d.toNat eE).1=v) (ho:w64 (1+p.2.2.1)=o) (ho2:w64 (2-p.2.2.1)=o2)
    (h:(v==o)=true) (hj0:decide (j≥0)=true) (hin3:inb a (rs.set a.toNat o2).length=true) :
    qO (r,(l,(nx,(es0,(m,()))))) ((fs,()),()) ((a,()),(rs,())) ((n,()),(es,())) ((j,()),())=some (.inr (.inr (.inl ((w64 (a+1),()),((rs.set a.toNat o2).set a.toNat o,()))))):=by
  unfold qO;simp only[hf,hr,hj,cond_true,hat,Option.bind_some,hin,hin2,qi,hv,hp,ho,ho2,h,hj0,hin3,Option.map_some]
theorem L11_miss (hf:getD' fs a.toNat 0=i) (hr:getD' nx i.toNat []=row) (hp:getD' l i.toNat eP=p) (hj:decide (j<((row.length:Nat):Int))=true) (hat:at? row j=some d) (hin:inb d es.length=true) (hin2:inb i l.length=true) (hv:(getD' es d.toNat eE).1=v) (ho:w64 (1+p.2.2.1)=o)
    (h:(v==o)=false) :
    qO (r,(l,(nx,(es0,(m,()))))) ((fs,()),()) ((a,()),(rs,())) ((n,()),(es,())) ((j,()),())=some (.inl ((w64 (j+1),()),())):=by
  unfold qO;simp only[hf,hr,hj,cond_true,hat,Option.bind_some,hin,hin2,qi,hv,hp,ho,h,cond_false]
theorem L11_end (hf:getD' fs a.toNat 0=i) (hr:getD' nx i.toNat []=row) (hj:decide (j<((row.length:Nat):Int))=false) :
    qO (r,(l,(nx,(es0,(m,()))))) ((fs,()),()) ((a,()),(rs,())) ((n,()),(es,())) ((j,()),())=some (.inr (.inl ((),()))):=by
  unfold qO;simp only[hf,hr,hj,cond_false]
end
section
variable {r : Rules} {l : List Place} {nx : List (List Int)} {es0 es : List En} {m : Mp}
theorem L11_spec (h:WF l nx es) {fs rs:List Int} {a i:Nat} (hi:i<l.length) (hf:getD' fs a 0=(i:Int)) (ha:a<rs.length) (hrs:rs.length≤100000) (n:Int):∀(f j:Nat),j+f=(rowI nx i).length →
    Option.bind (α:=((Unit)×(Unit)) ⊕ (((Int×Unit)×((List Int)×Unit)) ⊕ ((Unit)×((List Int)×Unit)))) (iterW (qO (r,(l,(nx,(es0,(m,()))))) ((fs,()),()) (((a:Int),()),(rs,())) ((n,()),(es,()))) (((j:Int),()),())) (Sum.elim (fun x33=>some (Sum.inl (((w64 ((a:Int)+(1:Int))),()),((rs.set (a:Int).toNat (w64 (2-trn l i))),())))) some) =
      some (.inl ((w64 ((a:Int)+1),()),(rs.set a (if ((rowI nx i).drop j).any (fun c=>rsl es c==1+trn l i)=true then 1+trn l i else 2-trn l i),()))):=by
  have hrl:=h.rl i hi;have ht:=h.turn i hi;have ho:w64 (1+(getD' l (i:Int).toNat eP).2.2.1)=1+trn l i:=by
    show w64 (1+trn l i)=_;exact qk (by omega) (by omega)
  have ho2:w64 (2-(getD' l (i:Int).toNat eP).2.2.1)=2-trn l i:=by
    show w64 (2-trn l i)=_;exact qk (by omega) (by omega)
  have ho3:w64 (2-trn l i)=2-trn l i:=ho2
  have hf':getD' fs (a:Int).toNat 0=(i:Int):=by rw[Int.toNat_natCast];exact hf
  intro f
  induction f with
  | zero =>
    intro j hj;rw[qn (L11_end (row:=rowI nx i) hf' (by rw[Int.toNat_natCast];rfl) (decide_eq_false (by omega))),List.drop_eq_nil_of_le (by omega),Option.bind_some,Sum.elim_inl,ho3,Int.toNat_natCast];rfl
  | succ f ih =>
    intro j hj
    have hj':j<(rowI nx i).length:=by omega
    have hc:=h.row i hi _ (List.getElem_mem hj');have hin:inb (rowI nx i)[j] es.length=true:=inb_iff.2 ⟨hc.1,by rw[h.el];exact hc.2⟩;rw[List.drop_eq_getElem_cons hj',List.any_cons];by_cases c:rsl es (rowI nx i)[j]=1+trn l i
    · rw[qn (L11_hit (row:=rowI nx i) hf' (by rw[Int.toNat_natCast];rfl) rfl (qax _ _ hj') (atI hj') hin (qB _ _ hi) rfl ho ho2 (beq_t c) (decide_eq_true (by omega)) (qB _ _ (by rw[List.length_set];exact ha))),beq_t c,Bool.true_or,if_pos rfl,Option.bind_some,Sum.elim_inr,Int.toNat_natCast,List.set_set]
    · have e:=L11_miss (r:=r) (es0:=es0) (m:=m) (fs:=fs) (rs:=rs) (n:=n) (row:=rowI nx i) hf' (by rw[Int.toNat_natCast];rfl) rfl (qax _ _ hj') (atI hj') hin (qB _ _ hi) rfl ho (beq_f c);rw[qk (n:=(j:Int)+1) (by omega) (by omega)] at e;have:=ih (j+1) (by omega);rw[show(((j+1:Nat)):Int)=(j:Int)+1 by omega] at this;rw[qx e,this,beq_f c,Bool.false_or]
end
section
variable {r : Rules} {l : List Place} {nx : List (List Int)} {es0 es : List En} {m : Mp} {fs rs : List Int} {a i n : Int} {y : ((Int × Unit) × ((List Int) × Unit)) ⊕ ((Unit) × ((List Int) × Unit))}
theorem L10_step (ha:decide (a<((fs.length:Nat):Int))=true) (hin:inb a fs.length=true) (hf:getD' fs a.toNat 0=i) (hi:inb i l.length=true) (hin2:inb a rs.length=true) (hi2:inb i nx.length=true)
    (h11:Option.bind (α:=((Unit)×(Unit)) ⊕ (((Int×Unit)×((List Int)×Unit)) ⊕ ((Unit)×((List Int)×Unit)))) (iterW (qO (r,(l,(nx,(es0,(m,()))))) ((fs,()),()) ((a,()),(rs,())) ((n,()),(es,()))) (((0:Int),()),())) (Sum.elim (fun x33=>some (Sum.inl (((w64 (a+(1:Int))),()),((rs.set a.toNat (w64 (2-(getD' l i.toNat eP).2.2.1))),())))) some)=some y) :
    qab ((fs,()),()) (r,(l,(nx,(es0,(m,()))))) ((n,()),(es,())) ((a,()),(rs,()))=some y:=by
  unfold qab;simp only[ha,cond_true,hin,qi,hf,hi,hin2,hi2,h11]
theorem L10_end (ha:decide (a<((fs.length:Nat):Int))=false):qab ((fs,()),()) (r,(l,(nx,(es0,(m,()))))) ((n,()),(es,())) ((a,()),(rs,()))=some (.inr ((),(rs,()))):=by
  unfold qab;simp only[ha,cond_false]
theorem L12_step {rv:Int} (ha:decide (a<((fs.length:Nat):Int))=true) (hin:inb a fs.length=true) (hin2:inb a rs.length=true) (hf:getD' fs a.toNat 0=i) (hi:inb i es.length=true) (hr:getD' rs a.toNat 0=rv) {es1:List En} :
    qaa ((fs,()),()) ((),(rs,())) ((n,()),(es1,())) ((a,()),(es,()))=some (.inl ((w64 (a+1),()),(es.set i.toNat (rv,(n,())),()))):=by
  unfold qaa;simp only[ha,cond_true,hin,qi,hin2,hf,hi,hr]
theorem L12_end (ha:decide (a<((fs.length:Nat):Int))=false) {es1:List En}:qaa ((fs,()),()) ((),(rs,())) ((n,()),(es1,())) ((a,()),(es,()))=some (.inr ((),(es,()))):=by
  unfold qaa;simp only[ha,cond_false]
end
def rsS (l:List Place) (nx:List (List Int)) (es:List En) (fs:List Nat) (j:Nat):List Int:=(fs.take j).map (resN l nx es)++List.replicate (fs.length-j) 0
theorem rsS_len (l:List Place) (nx:List (List Int)) (es:List En) (fs:List Nat) {j:Nat} (h:j≤fs.length):(rsS l nx es fs j).length=fs.length:=by
  unfold rsS;rw[List.length_append,List.length_map,List.length_take,List.length_replicate];omega
theorem rsS_set (l:List Place) (nx:List (List Int)) (es:List En) (fs:List Nat) {j:Nat} (h:j<fs.length):(rsS l nx es fs j).set j (resN l nx es fs[j])=rsS l nx es fs (j+1):=by
  unfold rsS
  have e:fs.length-j=(fs.length-(j+1))+1:=by omega
  rw[List.take_succ_eq_append_getElem h,List.map_append,e,List.replicate_succ,List.set_append_right _ _ (by rw[List.length_map,List.length_take];omega),List.length_map,List.length_take,show j-min j fs.length=0 by omega,List.append_assoc];rfl
theorem natGet {fs:List Nat} {a:Nat} (h:a<fs.length):getD' (fs.map (fun k:Nat=>(k:Int))) a 0=((fs[a]:Nat):Int):=by
  unfold getD';rw[List.getD_eq_getElem?_getD,List.getElem?_map,List.getElem?_eq_getElem h];rfl
theorem L10_spec {r:Rules} {l:List Place} {nx:List (List Int)} {es0 es:List En} {m:Mp} (h:WF l nx es) (fs:List Nat) (hfl:fs.length≤3000) (hfs:∀k∈fs,k<l.length) (n:Int) :
    iterW (qab ((fs.map (fun k:Nat=>(k:Int)),()),()) (r,(l,(nx,(es0,(m,()))))) ((n,()),(es,()))) (((0:Int),()),(List.replicate fs.length 0,()))=some ((),(fs.map (resN l nx es),())):=by
  have hml:(fs.map (fun k:Nat=>(k:Int))).length=fs.length:=List.length_map _
  have st:=qZ (f:=qab ((fs.map (fun k:Nat=>(k:Int)),()),()) (r,(l,(nx,(es0,(m,()))))) ((n,()),(es,()))) fs.length (fun a=>(((a:Int),()),(rsS l nx es fs a,()))) ((),(fs.map (resN l nx es),())) (fun a ha=>by
    have hk:=hfs _ (List.getElem_mem ha);have hrl:=rsS_len l nx es fs (Nat.le_of_lt ha);have e11:=L11_spec (r:=r) (es0:=es0) (m:=m) h (fs:=fs.map (fun k:Nat=>(k:Int))) (rs:=rsS l nx es fs a) (a:=a) hk (natGet ha) (by rw[hrl];exact ha) (by rw[hrl];omega) n (rowI nx fs[a]).length 0 (by omega);have e:=L10_step (r:=r) (l:=l) (nx:=nx) (es0:=es0) (es:=es) (m:=m) (n:=n) (a:=(a:Int)) (i:=((fs[a]:Nat):Int)) (by rw[hml];exact qax _ _ ha) (by rw[hml];exact qB _ _ ha) (by rw[Int.toNat_natCast];exact natGet ha) (qB _ _ hk) (qB _ _ (by rw[hrl];exact ha)) (qB _ _ (by rw[h.nl];exact hk)) e11;rw[e,qk (by omega) (by omega),show((a:Int)+1)=((a+1:Nat):Int) by omega]
    have:(rsS l nx es fs a).set a (if ((rowI nx fs[a]).drop 0).any (fun c=>rsl es c==1+trn l fs[a])=true then 1+trn l fs[a] else 2-trn l fs[a])=rsS l nx es fs (a+1):=rsS_set l nx es fs ha
    rw[this]) (by
    have e:rsS l nx es fs fs.length=fs.map (resN l nx es):=by
      unfold rsS;rw[List.take_length,Nat.sub_self];exact List.append_nil _
    rw[e]
    exact L10_end (by rw[hml];exact qbj _))
  have e0:rsS l nx es fs 0=List.replicate fs.length 0:=by
    unfold rsS;rw[List.take_zero];rfl
  rw[←e0];exact st
theorem L12_spec {l:List Place} {nx:List (List Int)} {es:List En} (h:WF l nx es) (fs:List Nat) (hfl:fs.length≤3000) (hfs:∀k∈fs,k<l.length) (n:Int) :
    iterW (qaa ((fs.map (fun k:Nat=>(k:Int)),()),()) ((),(fs.map (resN l nx es),())) ((n,()),(es,()))) (((0:Int),()),(es,()))=some ((),(fs.foldl (fun e k=>e.set k (resN l nx es k,(n,()))) es,())):=by
  have hml:(fs.map (fun k:Nat=>(k:Int))).length=fs.length:=List.length_map _;have hrl:(fs.map (resN l nx es)).length=fs.length:=List.length_map _;have hlen:∀(g:List Nat) (e:List En),(g.foldl (fun e k=>e.set k (resN l nx es k,(n,()))) e).length=e.length:=by
    intro g
    induction g with
    | nil=>intro e;rfl
    | cons k g ih=>intro e;rw[List.foldl_cons,ih,List.length_set]
  have st:=qZ (f:=qaa ((fs.map (fun k:Nat=>(k:Int)),()),()) ((),(fs.map (resN l nx es),())) ((n,()),(es,()))) fs.length (fun a=>(((a:Int),()),((fs.take a).foldl (fun e k=>e.set k (resN l nx es k,(n,()))) es,()))) ((),(fs.foldl (fun e k=>e.set k (resN l nx es k,(n,()))) es,())) (fun a ha=>by
    have hk:=hfs _ (List.getElem_mem ha)
    have e:=L12_step (n:=n) (a:=(a:Int)) (i:=((fs[a]:Nat):Int)) (es1:=es) (es:=(fs.take a).foldl (fun e k=>e.set k (resN l nx es k,(n,()))) es) (rv:=resN l nx es fs[a]) (by rw[hml];exact qax _ _ ha) (by rw[hml];exact qB _ _ ha) (by rw[hrl];exact qB _ _ ha) (by rw[Int.toNat_natCast];exact natGet ha) (qB _ _ (by rw[hlen,h.el];exact hk)) (by
      rw[Int.toNat_natCast];unfold getD';rw[List.getD_eq_getElem?_getD,List.getElem?_map,List.getElem?_eq_getElem ha]
      rfl)
    rw[e,qk (by omega) (by omega),show((a:Int)+1)=((a+1:Nat):Int) by omega,List.take_succ_eq_append_getElem ha,List.foldl_append,Int.toNat_natCast]
    rfl) (by
    rw[List.take_length]
    exact L12_end (by rw[hml];exact qbj _))
  exact st
theorem L1_spec {r:Rules} {l:List Place} {nx:List (List Int)} {es0:List En} {m:Mp} (hl:l.length≤3000) (hv:∀p∈l,Valid r p) :
    iterW (qaJ (r,(l,(nx,(es0,(m,()))))) ) (((0:Int),()),(List.replicate l.length eE,()))=some ((),(l.map (fun p=>(qm r p,((0:Int),()))),())):=by
  have st:=qZ (f:=qaJ (r,(l,(nx,(es0,(m,()))))) ) l.length (fun i=>(((i:Int),()),((l.take i).map (fun p=>(qm r p,((0:Int),())))++List.replicate (l.length-i) eE,()))) ((),(l.map (fun p=>(qm r p,((0:Int),()))),())) (fun i hi=>by
    have hp:=hv _ (List.getElem_mem hi)
    have hw:w64 ((i:Int)+1)=((i+1:Nat):Int):=by rw[qk (by omega) (by omega)];omega
    have hlen:((l.take i).map (fun p=>((qm r p,((0:Int),())):En))++List.replicate (l.length-i) eE).length=l.length:=by
      rw[List.length_append,List.length_map,List.length_take,List.length_replicate];omega
    have hg:getD' ((l.take i).map (fun p=>((qm r p,((0:Int),())):En))++List.replicate (l.length-i) eE) i eE=eE:=by
      unfold getD';rw[List.getD_eq_getElem?_getD,List.getElem?_append_right (by rw[List.length_map,List.length_take];omega),List.getElem?_replicate]
      split<;>rfl
    have hset:((l.take i).map (fun p=>((qm r p,((0:Int),())):En))++List.replicate (l.length-i) eE).set i (qm r l[i],((0:Int),()))=(l.take (i+1)).map (fun p=>((qm r p,((0:Int),())):En))++List.replicate (l.length-(i+1)) eE:=by
      have e:l.length-i=(l.length-(i+1))+1:=by omega
      rw[List.take_succ_eq_append_getElem hi,List.map_append,e,List.replicate_succ,List.set_append_right _ _ (by rw[List.length_map,List.length_take];omega),List.length_map,List.length_take,show i-min i l.length=0 by omega,List.append_assoc];rfl
    have hgl:getD' l i eP=l[i]:=qaS l i hi eP;unfold qaJ
    simp only[qax l i hi,cond_true,qB l i hi,qi,Int.toNat_natCast,hgl,qb5 hp,Option.bind_some,hlen,hg,hset,hw]) (by
    unfold qaJ
    simp only[qbj,cond_false,List.take_length,Nat.sub_self,List.replicate_zero,List.append_nil])
  exact st
theorem L9_spec {es1 es:List En} {n:Int} (hl:es.length≤3000) :
    iterW (qaK ((n,()),(es,()))) (((0:Int),()),(es,()))=some ((),(drawM es,())):=by
  have st:=qZ (f:=qaK ((n,()),(es,()))) es.length (fun i=>(((i:Int),()),(drawM (es.take i)++es.drop i,()))) ((),(drawM es,())) (fun i hi=>by
    have hw:w64 ((i:Int)+1)=((i+1:Nat):Int):=by rw[qk (by omega) (by omega)];omega
    have hdl:(drawM (es.take i)).length=i:=by
      unfold drawM;rw[List.length_map,List.length_take];omega
    have hlen:(drawM (es.take i)++es.drop i).length=es.length:=by
      rw[List.length_append,hdl,List.length_drop];omega
    have hg:getD' (drawM (es.take i)++es.drop i) i eE=es[i]:=by
      unfold getD';rw[List.getD_eq_getElem?_getD,List.getElem?_append_right (by omega),hdl,Nat.sub_self,List.getElem?_drop,Nat.add_zero,List.getElem?_eq_getElem hi];rfl
    have hnext:drawM (es.take (i+1))++es.drop (i+1)=(drawM (es.take i)++es.drop i).set i (if es[i].1=0 then((3:Int),es[i].2) else es[i]):=by
      rw[List.set_append_right _ _ (by omega),hdl,Nat.sub_self,List.drop_eq_getElem_cons hi,List.set_cons_zero,List.take_succ_eq_append_getElem hi];unfold drawM;rw[List.map_append,List.append_assoc];rfl
    rw[hnext];unfold qaK;by_cases c:es[i].1=0
    · simp only[qax es i hi,cond_true,hlen,qB es i hi,qi,Int.toNat_natCast,hg,beq_t c,Option.bind_some,hw,if_pos c]
    · have hsame:(drawM (es.take i)++es.drop i).set i es[i]=drawM (es.take i)++es.drop i:=by
        rw[List.set_append_right _ _ (by omega),hdl,Nat.sub_self,List.drop_eq_getElem_cons hi,List.set_cons_zero]
      simp only[qax es i hi,cond_true,hlen,qB es i hi,qi,Int.toNat_natCast,hg,beq_f c,cond_false,Option.bind_some,hw,if_neg c,hsame]) (by
    unfold qaK
    simp only[qbj,cond_false,List.take_length,List.drop_length,List.append_nil])
  exact st
end Go.Proofs.YtkkoolcdonhoaaaGreatDoor
namespace Go.Proofs.YtkkoolcdonhoaaaGreatDoor
open Go.Den
set_option linter.unusedVariables false
set_option linter.unusedSimpArgs false
set_option maxRecDepth 100000

theorem qiY {g:Nat→En}:∀(fs:List Nat) (es:List En) (i:Nat),i<es.length→(fs.foldl (fun e k=>e.set k (g k)) es)[i]?=if i∈fs then some (g i) else es[i]?
  | [],es,i,_=>by simp
  | k::fs,es,i,h=>by
    rw[List.foldl_cons,qiY fs _ i (by rw[List.length_set];exact h)];by_cases c:i∈fs
    · rw[if_pos c,if_pos (List.mem_cons_of_mem _ c)]
    · rw[if_neg c];by_cases e:k=i
      · subst e;rw[List.getElem?_set_self h,if_pos List.mem_cons_self]
      · rw[List.getElem?_set_ne e,if_neg (by rw[List.mem_cons,not_or];exact⟨Ne.symm e,c⟩)]
theorem qjw {g:Nat→En}:∀(fs:List Nat) (es:List En),(fs.foldl (fun e k=>e.set k (g k)) es).length=es.length
  | [],es=>rfl
  | k::fs,es=>by rw[List.foldl_cons,qjw fs,List.length_set]
section
variable {l : List Place} {nx : List (List Int)} {es : List En}
theorem mem_found {i:Nat}:i∈qaQ l nx es↔i<l.length∧fndB l nx es i=true:=by
  unfold qaQ;rw[List.mem_filter,List.mem_range]
theorem round_len (n:Int):(qgJ l nx n es).length=es.length:=qjw _ _
theorem qpH (h:WF l nx es) (n:Int) {i:Nat} (hi:i<l.length):getD' (qgJ l nx n es) i eE=if fndB l nx es i=true then(resN l nx es i,(n,())) else getD' es i eE:=by
  have:=qiY (g:=fun k=>(resN l nx es k,(n,()))) (qaQ l nx es) es i (by rw[h.el];exact hi);unfold getD';rw[List.getD_eq_getElem?_getD];show((qaQ l nx es).foldl (fun e k=>e.set k (resN l nx es k,(n,()))) es)[i]?.getD eE=_;rw[this];by_cases c:fndB l nx es i=true
  · rw[if_pos (mem_found.2 ⟨hi,c⟩),if_pos c];rfl
  · rw[if_neg (fun hh=>c (mem_found.1 hh).2),if_neg c,List.getD_eq_getElem?_getD]
theorem WF.round (h:WF l nx es) (n:Int):WF l nx (qgJ l nx n es):=⟨h.ll,h.nl,by rw[round_len];exact h.el,h.row,h.rl,h.turn⟩
theorem qk7 (h:WF l nx es) {i:Nat} (hi:i<l.length):resN l nx es i=1∨resN l nx es i=2:=by
  have ht:=h.turn i hi;unfold resN
  split<;>omega
def cnt (l:List Place) (es:List En):Nat:=((List.range l.length).filter fun i:Nat=>rsl es (i:Int)==0).length
theorem qkq {p q s:Nat→Bool}:∀(L:List Nat),(∀i∈L,s i=(p i && !q i))→(∀i∈L,q i=true→p i=true)→(L.filter s).length+(L.filter q).length=(L.filter p).length
  | [],_,_=>rfl
  | a::L,h1,h2=>by
    have ih:=qkq L (fun i hi=>h1 i (List.mem_cons_of_mem _ hi)) (fun i hi=>h2 i (List.mem_cons_of_mem _ hi));have e1:=h1 a List.mem_cons_self;have e2:=h2 a List.mem_cons_self
    cases hp:p a with
    | true =>
      cases hq:q a with
      | true =>
        rw[hp,hq] at e1;rw[List.filter_cons_of_neg (by rw[e1];decide),List.filter_cons_of_pos hq,List.filter_cons_of_pos hp,List.length_cons,List.length_cons];omega
      | false =>
        rw[hp,hq] at e1;rw[List.filter_cons_of_pos e1,List.filter_cons_of_neg (by rw[hq];decide),List.filter_cons_of_pos hp,List.length_cons,List.length_cons];omega
    | false =>
      have hq:q a=false:=by
        cases hq:q a with
        | true=>rw[e2 hq] at hp;cases hp
        | false=>rfl
      rw[hp,hq] at e1;rw[List.filter_cons_of_neg (by rw[e1];decide),List.filter_cons_of_neg (by rw[hq];decide),List.filter_cons_of_neg (by rw[hp];decide)];exact ih
theorem qj2 (es:List En) (i:Nat):rsl es (i:Int)=(getD' es i eE).1:=rfl
theorem qjf (h:WF l nx es) (n:Int):cnt l (qgJ l nx n es)+(qaQ l nx es).length=cnt l es:=by
  unfold cnt qaQ;refine qkq _ (fun i hi=>?_) (fun i hi hf=>?_)
  · rw[List.mem_range] at hi;rw[qj2,qpH h n hi];by_cases c:fndB l nx es i=true
    · rw[if_pos c,c,Bool.not_true,Bool.and_false];have:=qk7 h hi;exact beq_f (by show ¬resN l nx es i=0;omega)
    · have c':fndB l nx es i=false:=by simpa using c
      rw[if_neg c,c',Bool.not_false,Bool.and_true];rfl
  · unfold fndB at hf;rw[Bool.and_eq_true] at hf;exact hf.1
end
def qku (l:List Place) (nx:List (List Int)):Nat→Nat→List En→List En
  | 0,n,es=>drawM es
  | f+1,n,es=>if qaQ l nx es=[] then drawM es else qku l nx f (n+1) (qgJ l nx (n:Int) es)
section
variable {r : Rules} {l : List Place} {nx : List (List Int)} {es0 es es' : List En} {m : Mp} {fs rs : List Int} {n : Int}
theorem L2_end (h3:iterW (qI (r,(l,(nx,(es0,(m,()))))) ((n,()),(es,()))) (([],((0:Int),())),())=some (([],()),())) (h9:iterW (qaK ((n,()),(es,()))) (((0:Int),()),(es,()))=some ((),(es',()))) :
    qaz (r,(l,(nx,(es0,(m,()))))) ((n,()),(es,()))=some (.inr ((r,(l,(nx,(es',(m,()))))),())):=by
  unfold qaz;simp only[h3,Option.bind_some,h9];rfl
theorem L2_go (h3:iterW (qI (r,(l,(nx,(es0,(m,()))))) ((n,()),(es,()))) (([],((0:Int),())),())=some ((fs,()),())) (hne:(((fs.length:Nat):Int)==0)=false) (hg:(decide (0≤((fs.length:Nat):Int))&&(((fs.length:Nat):Int)==((fs.length:Nat):Int)&&room (((fs.length:Nat):Int)).toNat 8))=true)
    (h10:iterW (qab ((fs,()),()) (r,(l,(nx,(es0,(m,()))))) ((n,()),(es,()))) (((0:Int),()),(List.replicate (((fs.length:Nat):Int)).toNat (0:Int),()))=some ((),(rs,())))
    (h12:iterW (qaa ((fs,()),()) ((),(rs,())) ((n,()),(es,()))) (((0:Int),()),(es,()))=some ((),(es',()))) :
    qaz (r,(l,(nx,(es0,(m,()))))) ((n,()),(es,()))=some (.inl ((w64 (n+1),()),(es',()))):=by
  unfold qaz;simp only[h3,Option.bind_some,hne,cond_false,hg,qi,h10,h12,Sum.elim_inl]
end
theorem L2_spec {r:Rules} {l:List Place} {nx:List (List Int)} {es0:List En} {m:Mp}:∀(f n:Nat) (es:List En),WF l nx es→cnt l es≤f→n+f≤3002 →
    iterW (qaz (r,(l,(nx,(es0,(m,()))))) ) (((n:Int),()),(es,()))=some ((r,(l,(nx,(qku l nx f n es,(m,()))))),()):=by
  intro f
  induction f with
  | zero =>
    intro n es h hc hn;have hcr:=qjf h (n:Int);have hf:qaQ l nx es=[]:=List.eq_nil_of_length_eq_zero (by omega);have h3:=L3_spec (r:=r) (es0:=es0) (m:=m) h (n:Int);rw[hf] at h3;exact qn (L2_end h3 (L9_spec (es1:=es) (by rw[h.el];exact h.ll)))
  | succ f ih =>
    intro n es h hc hn;have hcr:=qjf h (n:Int);have h3:=L3_spec (r:=r) (es0:=es0) (m:=m) h (n:Int);unfold qku;by_cases hf:qaQ l nx es=[]
    · rw[if_pos hf];rw[hf] at h3;exact qn (L2_end h3 (L9_spec (es1:=es) (by rw[h.el];exact h.ll)))
    · rw[if_neg hf];have hfl:(qaQ l nx es).length≤3000:=by
        unfold qaQ;refine Nat.le_trans (List.length_filter_le _ _) ?_;rw[List.length_range];exact h.ll
      have hpos:=List.length_pos_iff.2 hf;have hml:((qaQ l nx es).map (fun k:Nat=>(k:Int))).length=(qaQ l nx es).length:=List.length_map _;have hmem:∀k∈qaQ l nx es,k<l.length:=fun k hk=>(mem_found.1 hk).1;have h10:=L10_spec (r:=r) (es0:=es0) (m:=m) h (qaQ l nx es) hfl hmem (n:Int);have h12:=L12_spec h (qaQ l nx es) hfl hmem (n:Int)
      have e:=L2_go (r:=r) (l:=l) (nx:=nx) (es0:=es0) (m:=m) (n:=(n:Int)) h3 (by rw[hml];exact beq_f (by omega)) (by
        rw[hml,decide_eq_true (by omega),beq_self_eq_true,Int.toNat_natCast];show room _ 8=true
        exact qav (by omega)) (by rw[hml,Int.toNat_natCast];exact h10) h12
      rw[qk (by omega) (by omega),show((n:Int)+1)=((n+1:Nat):Int) by omega] at e;rw[qx e];exact ih (n+1) (qgJ l nx (n:Int) es) (h.round (n:Int)) (by omega) (by omega)
theorem qr4 {r:Rules} {l:List Place} {nx:List (List Int)} {es0 e0:List En} {m:Mp} {R} (hg:(decide (0≤((l.length:Nat):Int))&&(((l.length:Nat):Int)==((l.length:Nat):Int)&&room (((l.length:Nat):Int)).toNat 16))=true)
    (h1:iterW (qaJ (r,(l,(nx,(es0,(m,()))))) ) (((0:Int),()),(List.replicate (((l.length:Nat):Int)).toNat eE,()))=some ((),(e0,()))) (h2:iterW (qaz (r,(l,(nx,(es0,(m,()))))) ) (((1:Int),()),(e0,()))=some R) :
    qH (r,(l,(nx,(es0,(m,())))))=some R:=by
  unfold qH;simp only[hg,qi,h1,Option.bind_some,h2]
def qbw (r:Rules) (l:List Place):List En:=l.map fun p=>(qm r p,((0:Int),()))
theorem cnt_le (l:List Place) (es:List En):cnt l es≤l.length:=by
  unfold cnt;refine Nat.le_trans (List.length_filter_le _ _) ?_;rw[List.length_range];exact Nat.le_refl _
theorem qmI {r:Rules} {l:List Place} {nx:List (List Int)} {es0:List En} {m:Mp} (h:WF l nx (qbw r l)) (hv:∀p∈l,Valid r p) :
    qH (r,(l,(nx,(es0,(m,())))))=some ((r,(l,(nx,(qku l nx l.length 1 (qbw r l),(m,()))))),()):=by
  have hll:=h.ll;refine qr4 ?_ (by rw[Int.toNat_natCast];exact L1_spec hll hv) (L2_spec l.length 1 (qbw r l) h (cnt_le _ _) (by omega));rw[decide_eq_true (by omega),beq_self_eq_true,Int.toNat_natCast];show room _ 16=true;exact qav (by omega)
end Go.Proofs.YtkkoolcdonhoaaaGreatDoor
namespace Go.Proofs.YtkkoolcdonhoaaaGreatDoor
open Go.Den
set_option linter.unusedVariables false
set_option linter.unusedSimpArgs false
set_option maxRecDepth 100000

def Es (r:Rules) (l:List Place) (nx:List (List Int)):Nat→List En
  | 0=>qbw r l
  | k+1=>qgJ l nx ((k+1:Nat):Int) (Es r l nx k)
def R0 (r:Rules) (l:List Place) (i:Nat):Int:=qm r (getD' l i eP)
section
variable {r : Rules} {l : List Place} {nx : List (List Int)}
theorem Es_wf (h:WF l nx (qbw r l)):∀k,WF l nx (Es r l nx k)
  | 0=>h
  | k+1=>(Es_wf h k).round _
theorem Es_0 {i:Nat} (hi:i<l.length):getD' (Es r l nx 0) i eE=(R0 r l i,((0:Int),())):=by
  show getD' (qbw r l) i eE=_;unfold qbw getD' R0 getD';rw[List.getD_eq_getElem?_getD,List.getElem?_map,List.getElem?_eq_getElem hi,List.getD_eq_getElem?_getD,List.getElem?_eq_getElem hi];rfl
theorem qli (h:WF l nx (qbw r l)) (k:Nat) {i:Nat} (hi:i<l.length):getD' (Es r l nx (k+1)) i eE=if fndB l nx (Es r l nx k) i=true then(resN l nx (Es r l nx k) i,(((k+1:Nat):Int),())) else getD' (Es r l nx k) i eE:=qpH (Es_wf h k) _ hi
theorem qrD {es:List En} {i:Nat} (h:fndB l nx es i=true):rsl es (i:Int)=0:=by
  unfold fndB at h;rw[Bool.and_eq_true,beq_iff_eq] at h;exact h.1
theorem qn1 (h:WF l nx (qbw r l)) {i:Nat} (hi:i<l.length):∀k,(∀j<k,fndB l nx (Es r l nx j) i=false)→getD' (Es r l nx k) i eE=(R0 r l i,((0:Int),()))
  | 0,_=>Es_0 hi
  | k+1,hk=>by
    rw[qli h k hi,if_neg (by rw[hk k (Nat.lt_succ_self k)];decide)];exact qn1 h hi k fun j hj=>hk j (Nat.lt_succ_of_lt hj)
theorem qlv (h:WF l nx (qbw r l)) {i:Nat} (hi:i<l.length) {j:Nat} (hf:fndB l nx (Es r l nx j) i=true):∀k,j<k→getD' (Es r l nx k) i eE=(resN l nx (Es r l nx j) i,(((j+1:Nat):Int),()))∧fndB l nx (Es r l nx k) i=false:=by
  have key:∀d,getD' (Es r l nx (j+1+d)) i eE=(resN l nx (Es r l nx j) i,(((j+1:Nat):Int),()))∧fndB l nx (Es r l nx (j+1+d)) i=false:=by
    have hne:∀k,getD' (Es r l nx k) i eE=(resN l nx (Es r l nx j) i,(((j+1:Nat):Int),()))→fndB l nx (Es r l nx k) i=false:=fun k hk=>by
      cases hb:fndB l nx (Es r l nx k) i with
      | false=>rfl
      | true =>
        have:=qrD hb;rw[qj2,hk] at this;have h2:=qk7 (Es_wf h j) hi;simp only at this;omega
    intro d
    induction d with
    | zero =>
      have:getD' (Es r l nx (j+1)) i eE=_:=qli h j hi;rw[if_pos hf] at this;exact⟨this,hne _ this⟩
    | succ d ih =>
      have:getD' (Es r l nx (j+1+d+1)) i eE=_:=qli h (j+1+d) hi;rw[if_neg (by rw[ih.2];decide),ih.1] at this;exact⟨this,hne _ this⟩
  intro k hk;have:=key (k-(j+1));rw[show j+1+(k-(j+1))=k by omega] at this;exact this
theorem qrU {es:List En} {n:Int} (h:qaQ l nx es=[]):qgJ l nx n es=es:=by
  unfold qgJ;rw[h];rfl
theorem Es_same {K:Nat} (hK:qaQ l nx (Es r l nx K)=[]):∀d,Es r l nx (K+d)=Es r l nx K
  | 0=>rfl
  | d+1=>by
    show qgJ l nx _ (Es r l nx (K+d))=_;rw[Es_same hK d];exact qrU hK
theorem fnd_lt {K:Nat} (hK:qaQ l nx (Es r l nx K)=[]) {i:Nat} (hi:i<l.length) {j:Nat} (hf:fndB l nx (Es r l nx j) i=true):j<K:=by
  refine Decidable.byContradiction fun hh=>?_;have:=Es_same (r:=r) hK (j-K);rw[show K+(j-K)=j by omega] at this;rw[this] at hf;have hm:=mem_found.2 ⟨hi,hf⟩;rw[hK] at hm;cases hm
theorem qnf (h:WF l nx (qbw r l)):∀(f k:Nat),cnt l (Es r l nx k)≤f→∃K,qku l nx f (k+1) (Es r l nx k)=drawM (Es r l nx K)∧qaQ l nx (Es r l nx K)=[]
  | 0,k,hc=>by
    have hcr:=qjf (Es_wf h k) ((k+1:Nat):Int);exact⟨k,rfl,List.eq_nil_of_length_eq_zero (by omega)⟩
  | f+1,k,hc=>by
    have hcr:=qjf (Es_wf h k) ((k+1:Nat):Int);unfold qku;by_cases hf:qaQ l nx (Es r l nx k)=[]
    · rw[if_pos hf];exact⟨k,rfl,hf⟩
    · rw[if_neg hf];have hpos:=List.length_pos_iff.2 hf;exact qnf h f (k+1) (by show cnt l (qgJ l nx ((k+1:Nat):Int) (Es r l nx k))≤f;omega)
theorem fin_eq {K:Nat} (h:WF l nx (qbw r l)) {i:Nat} (hi:i<l.length):getD' (drawM (Es r l nx K)) i eE=if (getD' (Es r l nx K) i eE).1=0 then((3:Int),(getD' (Es r l nx K) i eE).2) else getD' (Es r l nx K) i eE:=by
  have hl:i<(Es r l nx K).length:=by rw[(Es_wf h K).el];exact hi
  unfold drawM getD';rw[List.getD_eq_getElem?_getD,List.getElem?_map,List.getD_eq_getElem?_getD,List.getElem?_eq_getElem hl];rfl
theorem qlw {K:Nat} (h:WF l nx (qbw r l)) (hK:qaQ l nx (Es r l nx K)=[]) {i:Nat} (hi:i<l.length) {j:Nat} (hf:fndB l nx (Es r l nx j) i=true):getD' (drawM (Es r l nx K)) i eE=(resN l nx (Es r l nx j) i,(((j+1:Nat):Int),())):=by
  have e:=(qlv h hi hf K (fnd_lt hK hi hf)).1;have h2:=qk7 (Es_wf h j) hi;rw[fin_eq h hi,e,if_neg (by simp only;omega)]
theorem qn0 {K:Nat} (h:WF l nx (qbw r l)) {i:Nat} (hi:i<l.length) (hf:∀j,fndB l nx (Es r l nx j) i=false):getD' (drawM (Es r l nx K)) i eE=if R0 r l i=0 then((3:Int),((0:Int),())) else(R0 r l i,((0:Int),())):=by
  rw[fin_eq h hi,qn1 h hi K fun j _=>hf j]
theorem qpd {i:Nat}:(∀j,fndB l nx (Es r l nx j) i=false)∨∃j,fndB l nx (Es r l nx j) i=true:=by
  by_cases c:∃j,fndB l nx (Es r l nx j) i=true
  · exact .inr c
  · left;intro j
    cases hb:fndB l nx (Es r l nx j) i with
    | false=>rfl
    | true=>exact absurd ⟨j,hb⟩ c
theorem qlp (h:WF l nx (qbw r l)) {i:Nat} (hi:i<l.length) (h0:R0 r l i≠0):∀j,fndB l nx (Es r l nx j) i=false:=by
  intro j
  induction j using Nat.strongRecOn with
  | ind j ih =>
    cases hb:fndB l nx (Es r l nx j) i with
    | false=>rfl
    | true =>
      have e:=qn1 h hi j ih;have:=qrD hb;rw[qj2,e] at this;exact absurd this h0
theorem fin_zero {K:Nat} (h:WF l nx (qbw r l)) (hK:qaQ l nx (Es r l nx K)=[]) {c:Nat} (hc:c<l.length) {own:Int} (ho:own=1∨own=2):getD' (drawM (Es r l nx K)) c eE=(own,((0:Int),()))↔R0 r l c=own:=by
  constructor
  · intro he;rcases qpd (r:=r) (l:=l) (nx:=nx) (i:=c) with hf | ⟨j,hf⟩
    · rw[qn0 h hc hf] at he;split at he
      · have:=congrArg Prod.fst he;simp only at this;omega
      · exact congrArg Prod.fst he
    · rw[qlw h hK hc hf] at he;have:=congrArg (fun x=>x.2.1) he;simp only at this;omega
  · intro he;rw[qn0 h hc (qlp h hc (by omega)),if_neg (by omega),he]
theorem qjb {K:Nat} (h:WF l nx (qbw r l)) (hK:qaQ l nx (Es r l nx K)=[]) {i:Nat} (hi:i<l.length) {v:Int} {j:Nat} (he:getD' (drawM (Es r l nx K)) i eE=(v,(((j+1:Nat):Int),()))):fndB l nx (Es r l nx j) i=true∧resN l nx (Es r l nx j) i=v:=by
  rcases qpd (r:=r) (l:=l) (nx:=nx) (i:=i) with hf | ⟨j',hf⟩
  · rw[qn0 h hi hf] at he;split at he
    · have:=congrArg (fun x=>x.2.1) he;simp only at this;omega
    · have:=congrArg (fun x=>x.2.1) he;simp only at this;omega
  · rw[qlw h hK hi hf] at he;have e2:=congrArg (fun x=>x.2.1) he;simp only at e2
    obtain rfl:j'=j:=by omega
    exact⟨hf,congrArg Prod.fst he⟩
theorem qqL (h:WF l nx (qbw r l)) {i:Nat} (hi:i<l.length) {j j':Nat} (hf:fndB l nx (Es r l nx j) i=true) (hf':fndB l nx (Es r l nx j') i=true):j=j':=by
  rcases Nat.lt_trichotomy j j' with c | c | c
  · have:=(qlv h hi hf j' c).2;rw[hf'] at this;cases this
  · exact c
  · have:=(qlv h hi hf' j c).2;rw[hf] at this;cases this
theorem qlc (h:WF l nx (qbw r l)) {i:Nat} (hi:i<l.length) {j:Nat} (hf:fndB l nx (Es r l nx j) i=true):R0 r l i=0:=by
  refine Decidable.byContradiction fun hn=>?_;rw[qlp h hi hn j] at hf;cases hf
theorem rsl_1 (h:WF l nx (qbw r l)) {i:Nat} (hi:i<l.length):rsl (Es r l nx 1) (i:Int)=if fndB l nx (Es r l nx 0) i=true then resN l nx (Es r l nx 0) i else R0 r l i:=by
  rw[qj2,qli h 0 hi];split
  · rfl
  · rw[Es_0 hi]
theorem rsl_0 {i:Nat} (hi:i<l.length):rsl (Es r l nx 0) (i:Int)=R0 r l i:=by
  rw[qj2,Es_0 hi]
theorem qgD (h:WF l nx (qbw r l)) {es:List En} {i:Nat} (hi:i<l.length):winB l nx es i=true↔∃c:Nat,c<l.length∧(c:Int)∈rowI nx i∧rsl es (c:Int)=1+trn l i:=by
  unfold winB;rw[List.any_eq_true];constructor
  · rintro ⟨c,hc,he⟩
    obtain⟨h1,h2⟩:=h.row i hi c hc;obtain⟨k,rfl⟩:=Int.eq_ofNat_of_zero_le h1;exact⟨k,by omega,hc,beq_iff_eq.1 he⟩
  · rintro ⟨c,_,hc,he⟩
    exact⟨c,hc,beq_iff_eq.2 he⟩
theorem los_iff (h:WF l nx (qbw r l)) {es:List En} {i:Nat} (hi:i<l.length):losB l nx es i=true↔∀c:Nat,c<l.length→(c:Int)∈rowI nx i→rsl es (c:Int)=2-trn l i:=by
  unfold losB;rw[List.all_eq_true];constructor
  · intro hh c _ hc;exact beq_iff_eq.1 (hh c hc)
  · intro hh c hc;obtain⟨h1,h2⟩:=h.row i hi c hc;obtain⟨k,rfl⟩:=Int.eq_ofNat_of_zero_le h1;exact beq_iff_eq.2 (hh k (by omega) hc)
theorem fnd_iff {es:List En} {i:Nat}:fndB l nx es i=true↔rsl es (i:Int)=0∧(winB l nx es i=true∨losB l nx es i=true):=by
  unfold fndB;rw[Bool.and_eq_true,Bool.or_eq_true,beq_iff_eq]
def Ch (l:List Place) (nx:List (List Int)) (i c:Nat):Prop:=c<l.length∧(c:Int)∈rowI nx i
theorem plies1 {K:Nat} (h:WF l nx (qbw r l)) (hK:qaQ l nx (Es r l nx K)=[]) {i:Nat} (hi:i<l.length) (he:getD' (drawM (Es r l nx K)) i eE=(1+trn l i,((1:Int),()))):R0 r l i=0∧∃c,Ch l nx i c∧R0 r l c=1+trn l i:=by
  obtain⟨hf,hv⟩:=qjb (j:=0) h hK hi he;have ht:=h.turn i hi;refine⟨qlc h hi hf,?_⟩;unfold resN at hv;split at hv
  · rename_i hw;obtain⟨c,h1,h2,h3⟩:=(qgD h hi).1 hw;rw[rsl_0 h1] at h3;exact⟨c,⟨h1,h2⟩,h3⟩
  · omega
def Met (r:Rules) (l:List Place) (nx:List (List Int)) (own:Int) (c:Nat):Prop:=R0 r l c=0∧∀g,Ch l nx c g→R0 r l g=own∨(R0 r l g=0∧∃k,Ch l nx g k∧R0 r l k=own)
theorem plies3 {K:Nat} (h:WF l nx (qbw r l)) (hK:qaQ l nx (Es r l nx K)=[]) (hturn:∀i c,i<l.length→Ch l nx i c→trn l c=1-trn l i) {i:Nat} (hi:i<l.length) (he:getD' (drawM (Es r l nx K)) i eE=(1+trn l i,((3:Int),()))) :
    R0 r l i=0∧(∀c,Ch l nx i c→R0 r l c≠1+trn l i)∧(∃c,Ch l nx i c∧Met r l nx (1+trn l i) c)∧∀c,Ch l nx i c→(getD' (drawM (Es r l nx K)) c eE=(1+trn l i,((2:Int),()))↔Met r l nx (1+trn l i) c):=by
  obtain⟨hf,hv⟩:=qjb (j:=2) h hK hi he;have ht:=h.turn i hi;have hopen:=qlc h hi hf;have n0:fndB l nx (Es r l nx 0) i=false:=by
    cases hb:fndB l nx (Es r l nx 0) i with
    | false=>rfl
    | true=>exact absurd (qqL h hi hb hf) (by decide)
  have n1:fndB l nx (Es r l nx 1) i=false:=by
    cases hb:fndB l nx (Es r l nx 1) i with
    | false=>rfl
    | true=>exact absurd (qqL h hi hb hf) (by decide)
  have r1:rsl (Es r l nx 1) (i:Int)=0:=by rw[rsl_1 h hi,if_neg (by rw[n0];decide)];exact hopen
  have a0:∀c,Ch l nx i c→R0 r l c≠1+trn l i:=fun c hc e=>by
    have:fndB l nx (Es r l nx 0) i=true:=fnd_iff.2 ⟨by rw[rsl_0 hi];exact hopen,.inl ((qgD h hi).2 ⟨c,hc.1,hc.2,by rw[rsl_0 hc.1];exact e⟩)⟩;rw[n0] at this;cases this
  have a1:∀c,Ch l nx i c→rsl (Es r l nx 1) (c:Int)≠1+trn l i:=fun c hc e=>by
    have:fndB l nx (Es r l nx 1) i=true:=fnd_iff.2 ⟨r1,.inl ((qgD h hi).2 ⟨c,hc.1,hc.2,e⟩)⟩;rw[n1] at this;cases this
  have key:∀c,Ch l nx i c→Met r l nx (1+trn l i) c→fndB l nx (Es r l nx 1) c=true∧resN l nx (Es r l nx 1) c=1+trn l i:=fun c hc hm=>by
    have htc:=hturn i c hi hc;have hg1:∀g,Ch l nx c g→rsl (Es r l nx 1) (g:Int)=1+trn l i:=fun g hg=>by
      have htg:=hturn c g hc.1 hg;rw[rsl_1 h hg.1];rcases hm.2 g hg with e | ⟨e,k,hk,ek⟩
      · rw[if_neg (by rw[qlp h hg.1 (by omega) 0];decide)];exact e
      · have hw:winB l nx (Es r l nx 0) g=true:=(qgD h hg.1).2 ⟨k,hk.1,hk.2,by rw[rsl_0 hk.1,ek];omega⟩;rw[if_pos (fnd_iff.2 ⟨by rw[rsl_0 hg.1];exact e,.inl hw⟩)];unfold resN;rw[if_pos hw];omega
    have nc0:fndB l nx (Es r l nx 0) c=false:=by
      cases hb:fndB l nx (Es r l nx 0) c with
      | false=>rfl
      | true =>
        exfalso;by_cases hw:winB l nx (Es r l nx 0) c=true
        · obtain⟨g,g1,g2,g3⟩:=(qgD h hc.1).1 hw;rw[rsl_0 g1] at g3
          rcases hm.2 g ⟨g1,g2⟩ with e | ⟨e,_⟩<;>omega
        · have e:=rsl_1 h hc.1 (r:=r) (nx:=nx);rw[if_pos hb] at e;unfold resN at e;rw[if_neg hw] at e;exact a1 c hc (by omega)
    have hw1:¬winB l nx (Es r l nx 1) c=true:=fun hw=>by
      obtain⟨g,g1,g2,g3⟩:=(qgD h hc.1).1 hw;have:=hg1 g ⟨g1,g2⟩;omega
    have hl1:losB l nx (Es r l nx 1) c=true:=(los_iff h hc.1).2 fun g g1 g2=>by
      have:=hg1 g ⟨g1,g2⟩;omega
    refine⟨fnd_iff.2 ⟨?_,.inr hl1⟩,?_⟩
    · rw[rsl_1 h hc.1,if_neg (by rw[nc0];decide)];exact hm.1
    · unfold resN;rw[if_neg hw1];omega
  have back:∀c,Ch l nx i c→fndB l nx (Es r l nx 1) c=true→resN l nx (Es r l nx 1) c=1+trn l i→Met r l nx (1+trn l i) c:=fun c hc hfc hrc=>by
    have htc:=hturn i c hi hc;unfold resN at hrc;split at hrc
    · omega
    · rename_i hw;have hl:losB l nx (Es r l nx 1) c=true:=by
        rcases(fnd_iff.1 hfc).2 with h1 | h1
        · exact absurd h1 hw
        · exact h1
      refine⟨qlc h hc.1 hfc,fun g hg=>?_⟩;have htg:=hturn c g hc.1 hg;have e:=(los_iff h hc.1).1 hl g hg.1 hg.2;rw[rsl_1 h hg.1] at e;split at e
      · rename_i hfg;right;refine⟨qlc h hg.1 hfg,?_⟩;unfold resN at e;split at e
        · rename_i hwg;obtain⟨k,k1,k2,k3⟩:=(qgD h hg.1).1 hwg;rw[rsl_0 k1] at k3;exact⟨k,⟨k1,k2⟩,by omega⟩
        · omega
      · left;omega
  have iff2:∀c,Ch l nx i c→(getD' (drawM (Es r l nx K)) c eE=(1+trn l i,((2:Int),()))↔Met r l nx (1+trn l i) c):=fun c hc=>by
    constructor
    · intro e;obtain⟨x1,x2⟩:=qjb (j:=1) h hK hc.1 e;exact back c hc x1 x2
    · intro hm;obtain⟨x1,x2⟩:=key c hc hm;have:=qlw h hK hc.1 x1;rw[x2] at this;exact this
  refine⟨hopen,a0,?_,iff2⟩;unfold resN at hv;split at hv
  · rename_i hw;obtain⟨c,c1,c2,c3⟩:=(qgD h hi).1 hw;have e2:rsl (Es r l nx 2) (c:Int)=if fndB l nx (Es r l nx 1) c=true then resN l nx (Es r l nx 1) c else rsl (Es r l nx 1) (c:Int):=by
      rw[qj2,qli h 1 c1]
      split<;>rfl
    rw[e2] at c3;split at c3
    · rename_i hfc;exact⟨c,⟨c1,c2⟩,back c ⟨c1,c2⟩ hfc c3⟩
    · exact absurd c3 (a1 c ⟨c1,c2⟩)
  · omega
end
end Go.Proofs.YtkkoolcdonhoaaaGreatDoor
namespace Go.Proofs.YtkkoolcdonhoaaaGreatDoor
open Go.Den
set_option linter.unusedVariables false
set_option linter.unusedSimpArgs false
set_option maxRecDepth 100000

theorem fixW_relR {T α:Type} {G:(T→Option α)→T→Option α} (hG:Mono G) (R:Nat→T→α→Prop)
    (h:∀n φ x y,R n x y→(∀m x' y',m<n→R m x' y'→φ x'=some y')→G φ x=some y):∀n x y,R n x y→fixW G x=some y:=by
  have a2:∀k n x y,R n x y→n<k→fixN G k x=some y:=by
    intro k
    induction k with
    | zero=>intro n x y _ hl;omega
    | succ k ih=>intro n x y hr hl;exact h n _ x y hr fun m x' y' hm hr'=>ih m x' y' hr' (by omega)
  intro n x y hr;exact Le.fix (fun φ ψ hs y=>hG φ ψ hs y) hG (n+1) x _ (a2 _ n x y hr (Nat.lt_succ_self _))
abbrev dM:Mv:=((0:Int),((0:Int),((0:Int),())))
def winP (r:Rules):Nat→Place→Mv→Bool
  | 0,p,m=>if qm r (qd r p m)≠0 then qm r (qd r p m)==1+p.2.2.1 else false
  | d+1,p,m=>if qm r (qd r p m)≠0 then qm r (qd r p m)==1+p.2.2.1 else
      (qc r (qd r p m)).all fun a=>(qm r (qd r (qd r p m) a)==1+p.2.2.1)||((qm r (qd r (qd r p m) a)==0)&&(qc r (qd r (qd r p m) a)).any fun k=>winP r d (qd r (qd r p m) a) k)
theorem qq0 {f:((Int×Int×Unit)×(List Mv×Unit))→Option (((Int×Int×Unit)×(List Mv×Unit)) ⊕ ((Int×Unit)×(List Mv×Unit)))} {keep:Mv→Bool} {orig:List Mv}
    (h1:∀(i j:Nat) (xs:List Mv) (v:Mv),i<xs.length→j<xs.length→xs.length=orig.length→xs[j]?=some v→v∈orig→f (((i:Int),((j:Int),())),(xs,()))=some (.inl (bif keep v then((((i+1:Nat):Int),(((j+1:Nat):Int),())),(xs.set i v,())) else(((i:Int),(((j+1:Nat):Int),())),(xs,())))))
    (h2:∀(i j:Nat) (xs:List Mv),j=xs.length→f (((i:Int),((j:Int),())),(xs,()))=some (.inr (((i:Int),()),(xs,())))) :
    ∀(k i j:Nat) (xs:List Mv),j+k=orig.length→xs.length=orig.length→i≤j→xs.take i=(orig.take j).filter keep→xs.drop j=orig.drop j →
      ∃xs',iterW f (((i:Int),((j:Int),())),(xs,()))=some ((((orig.filter keep).length:Int),()),(xs',()))∧xs'.length=orig.length∧xs'.take (orig.filter keep).length=orig.filter keep:=by
  intro k
  induction k with
  | zero =>
    intro i j xs hj hl hij ht hd
    obtain rfl:j=orig.length:=by omega
    rw[List.take_length] at ht;have hi:i=(orig.filter keep).length:=by
      rw[←ht,List.length_take];omega
    refine⟨xs,?_,hl,by rw[←hi];exact ht⟩;rw[←hi];exact qn (h2 i orig.length xs hl.symm)
  | succ k ih =>
    intro i j xs hj hl hij ht hd
    have hj':j<orig.length:=by omega
    have hjx:j<xs.length:=by omega
    have hxj:xs[j]?=some orig[j]:=by
      have:=congrArg (fun l:List Mv=>l[0]?) hd;simp only[List.getElem?_drop,Nat.add_zero] at this;rw[this,List.getElem?_eq_getElem hj']
    have e:=h1 i j xs orig[j] (by omega) hjx hl hxj (List.getElem_mem hj');have htn:(orig.take (j+1)).filter keep=(orig.take j).filter keep++(if keep orig[j]=true then [orig[j]] else []):=by
      rw[List.take_succ_eq_append_getElem hj',List.filter_append];congr 1;by_cases c:keep orig[j]=true
      · rw[if_pos c,List.filter_cons_of_pos c,List.filter_nil]
      · rw[if_neg c,List.filter_cons_of_neg c,List.filter_nil]
    have hdn:∀ys:List Mv,ys.length=orig.length→(∀t,j<t→ys[t]?=xs[t]?)→ys.drop (j+1)=orig.drop (j+1):=fun ys hy hh=>by
      refine List.ext_getElem? fun t=>?_;rw[List.getElem?_drop,hh _ (by omega)];have:=congrArg (fun l:List Mv=>l[t+1]?) hd;simp only[List.getElem?_drop] at this;rw[List.getElem?_drop,show j+1+t=j+(t+1) by omega];exact this
    cases hk:keep orig[j] with
    | true =>
      rw[hk,cond_true] at e;rw[qx e];refine ih (i+1) (j+1) _ (by omega) (by rw[List.length_set];exact hl) (by omega) ?_ (hdn _ (by rw[List.length_set];exact hl) fun t ht=>List.getElem?_set_ne (by omega));rw[htn,if_pos hk,←ht];refine List.ext_getElem? fun t=>?_;rw[List.getElem?_take];by_cases c:t<i
      · rw[if_pos (by omega),List.getElem?_set_ne (by omega),List.getElem?_append_left (by rw[List.length_take];omega),List.getElem?_take,if_pos c]
      · by_cases c2:t=i
        · subst c2;rw[if_pos (by omega),List.getElem?_set_self (by omega),List.getElem?_append_right (by rw[List.length_take];omega),List.length_take,show t-min t xs.length=0 by omega];rfl
        · rw[if_neg (by omega),List.getElem?_eq_none (by rw[List.length_append,List.length_take,List.length_singleton];omega)]
    | false =>
      rw[hk,cond_false] at e;rw[qx e];refine ih i (j+1) xs (by omega) hl (by omega) ?_ (hdn xs hl fun t _=>rfl);rw[htn,hk,if_neg (by decide),List.append_nil];exact ht
theorem qhn {keep:Mv→Bool}:∀ {l:List Mv},(∀x∈l,keep x=true)→l.filter keep=l
  | [],_=>rfl
  | a::l,h=>by rw[List.filter_cons_of_pos (h a List.mem_cons_self),qhn fun x hx=>h x (List.mem_cons_of_mem _ hx)]
section
variable {self : (Rules × Place × Mv × Int × Unit) → Option Bool} {r : Rules} {q : Place} {n n' : Int} {v : Mv} {i j : Int} {xs ms : List Mv} {b : Bool}
theorem w3_step (hj:decide (j<((xs.length:Nat):Int))=true) (hin:inb j xs.length=true) (hv:getD' xs j.toNat dM=v) (hn:w64 (n-2)=n') (hs:self (r,q,v,n',())=some b) (hin2:inb i xs.length=true) :
    qaE self r q n ((i,(j,())),(xs,()))=some (.inl (bif b then((w64 (i+1),(w64 (j+1),())),(xs.set i.toNat v,())) else((i,(w64 (j+1),())),(xs,())))):=by
  unfold qaE
  cases b with
  | true=>simp only[hj,cond_true,hin,qi,hv,hn,hs,Option.bind_some,Bool.not_true,Bool.not_false,hin2]
  | false=>simp only[hj,cond_true,hin,qi,hv,hn,hs,Option.bind_some,Bool.not_false,Bool.not_true,cond_false]
theorem w3_end (hj:decide (j<((xs.length:Nat):Int))=false):qaE self r q n ((i,(j,())),(xs,()))=some (.inr ((i,()),(xs,()))):=by
  unfold qaE;simp only[hj,cond_false]
theorem w2_keep (hj:decide (j<((ms.length:Nat):Int))=true) (hin:inb j ms.length=true) (hv:getD' ms j.toNat dM=v) (hn:w64 (n-2)=n') (hs:self (r,q,v,n',())=some true) :
    qan ms self r q n ((j,()),())=some (.inl ((w64 (j+1),()),())):=by
  unfold qan;simp only[hj,cond_true,hin,qi,hv,hn,hs,Option.bind_some,Bool.not_true,cond_false]
theorem w2_drop {k:Nat} (hj:decide (j<((ms.length:Nat):Int))=true) (hin:inb j ms.length=true) (hv:getD' ms j.toNat dM=v) (hn:w64 (n-2)=n') (hs:self (r,q,v,n',())=some false) (hne:(j==(-1:Int))=false)
    (h3:iterW (qaE self r q n) ((j,(w64 (j+1),())),(ms,()))=some (((k:Int),()),(xs,()))) (hb1:qM (k:Int) ((xs.length:Nat):Int) xs.length=true)
    (hb2:qM 0 (k:Int) (xs.take (k:Int).toNat++(List.replicate ((((xs.length:Nat):Int)).toNat-(k:Int).toNat) dM++xs.drop ((k:Int).toNat+((((xs.length:Nat):Int)).toNat-(k:Int).toNat)))).length=true)
    (hl:((xs.take (k:Int).toNat++(List.replicate ((((xs.length:Nat):Int)).toNat-(k:Int).toNat) dM++xs.drop ((k:Int).toNat+((((xs.length:Nat):Int)).toNat-(k:Int).toNat)))).take (k:Int).toNat).length=k) :
    qan ms self r q n ((j,()),())=some (.inr (.inr (bif ((k:Int)==0) then .inr (.inr (.inr false)) else .inl ((),())))):=by
  unfold qan;simp only[hj,cond_true,hin,qi,hv,hn,hs,Option.bind_some,Bool.not_false,hne,cond_false,h3,hb1,hb2,hl]
  cases ((k:Int)==0)<;>rfl
theorem w2_end (hj:decide (j<((ms.length:Nat):Int))=false):qan ms self r q n ((j,()),())=some (.inr (.inl ((),()))):=by
  unfold qan;simp only[hj,cond_false]
end
theorem big_len (xs:List Mv) {k:Nat} (h:k≤xs.length):(xs.take k++(List.replicate (xs.length-k) dM++xs.drop (k+(xs.length-k)))).length=xs.length∧(xs.take k++(List.replicate (xs.length-k) dM++xs.drop (k+(xs.length-k)))).take k=xs.take k:=by
  have e:(xs.take k).length=k:=by rw[List.length_take];omega
  refine⟨?_,?_⟩
  · rw[List.length_append,List.length_append,e,List.length_replicate,List.length_drop];omega
  · rw[List.take_append_of_le_length (by omega),List.take_take,Nat.min_self]
theorem w2_spec {self:(Rules×Place×Mv×Int×Unit)→Option Bool} {r:Rules} {q:Place} {n n':Int} {ms:List Mv} {keep:Mv→Bool} (hm:ms.length≤100000) (hn:w64 (n-2)=n') (hs:∀v∈ms,self (r,q,v,n',())=some (keep v)):∀(f j:Nat),j+f=ms.length→(∀t (ht:t<ms.length),t<j→keep ms[t]=true) →
    Option.bind (α:=((Unit)×(Unit)) ⊕ (((Unit)×(Unit)) ⊕ (((Int×Unit)×(Unit)) ⊕ (((Unit)×(Unit)) ⊕ Bool)))) (iterW (qan ms self r q n) (((j:Int),()),())) (Sum.elim (fun x17=>bif (((ms.length:Nat):Int)==(0:Int)) then some (Sum.inr (Sum.inr (Sum.inr false))) else some (Sum.inl ((),()))) some) =
      some (bif (ms.any keep) then .inl ((),()) else .inr (.inr (.inr false))):=by
  intro f
  induction f with
  | zero =>
    intro j hj ha
    obtain rfl:j=ms.length:=by omega
    rw[qn (w2_end (qbj _)),Option.bind_some,Sum.elim_inl]
    cases hms:ms with
    | nil=>rfl
    | cons a l =>
      have h0:keep a=true:=by
        have:=ha 0 (by rw[hms];simp) (by rw[hms];simp);simpa[hms] using this
      rw[List.any_cons,h0,Bool.true_or];rw[show((((a::l).length:Nat):Int)==(0:Int))=false from beq_f (by rw[List.length_cons];omega)];rfl
  | succ f ih =>
    intro j hj ha
    have hj':j<ms.length:=by omega
    have hsj:=hs _ (List.getElem_mem hj')
    cases hk:keep ms[j] with
    | true =>
      rw[hk] at hsj;have e:=w2_keep (qax _ _ hj') (qB _ _ hj') (qaS ms j hj' dM) hn hsj;rw[qk (by omega) (by omega)] at e;rw[qx e]
      have:=ih (j+1) (by omega) (fun t ht htj=>by
        by_cases c:t=j
        · subst c;exact hk
        · exact ha t ht (by omega))
      rw[show(((j+1:Nat)):Int)=(j:Int)+1 by omega] at this;exact this
    | false =>
      rw[hk] at hsj
      obtain⟨xs',h3,hxl,hxt⟩:=qq0 (f:=qaE self r q n) (keep:=keep) (orig:=ms) (fun i j xs v hi hj hl hv hmem=>by
        have hlj:getD' xs (j:Int).toNat dM=v:=by
          rw[Int.toNat_natCast];unfold getD';rw[List.getD_eq_getElem?_getD,hv];rfl
        have e:=w3_step (self:=self) (r:=r) (q:=q) (n:=n) (qax _ _ hj) (qB _ _ hj) hlj hn (hs v hmem) (qB _ _ hi);rw[qk (n:=(i:Int)+1) (by omega) (by omega),qk (n:=(j:Int)+1) (by omega) (by omega),Int.toNat_natCast] at e
        exact e) (fun i j xs hj=>w3_end (by rw[hj];exact qbj _)) (ms.length-(j+1)) j (j+1) ms (by omega) rfl (by omega) (by
        rw[List.take_succ_eq_append_getElem hj',List.filter_append,List.filter_cons_of_neg (by rw[hk];decide),List.filter_nil,List.append_nil];refine(qhn fun x hx=>?_).symm;obtain⟨t,ht,rfl⟩:=List.getElem_of_mem hx;rw[List.length_take] at ht;rw[List.getElem_take]
        exact ha t (by omega) (by omega)) rfl
      have hkl:(ms.filter keep).length≤xs'.length:=by rw[hxl];exact List.length_filter_le _ _
      obtain⟨b1,b2⟩:=big_len xs' hkl
      have e:=w2_drop (self:=self) (r:=r) (q:=q) (n:=n) (k:=(ms.filter keep).length) (xs:=xs') (qax _ _ hj') (qB _ _ hj') (qaS ms j hj' dM) hn hsj (beq_f (by omega)) (by
        rw[qk (by omega) (by omega),show((j:Int)+1)=((j+1:Nat):Int) by omega];exact h3) (by unfold qM;simp;omega) (by
        rw[Int.toNat_natCast,Int.toNat_natCast,b1];unfold qM;simp;omega) (by
        rw[Int.toNat_natCast,Int.toNat_natCast,b2,List.length_take];omega)
      rw[qn e,Option.bind_some,Sum.elim_inr];by_cases c:ms.any keep=true
      · have hpos:0<(ms.filter keep).length:=by
          obtain⟨x,hx,hkx⟩:=List.any_eq_true.1 c;exact List.length_pos_of_mem (List.mem_filter.2 ⟨hx,hkx⟩)
        rw[c,cond_true,beq_f (by omega),cond_false]
      · have hz:(ms.filter keep).length=0:=by
          rw[List.length_eq_zero_iff,List.filter_eq_nil_iff];intro x hx hkx;exact c (List.any_eq_true.2 ⟨x,hx,hkx⟩)
        rw[show ms.any keep=false by simpa using c,cond_false,hz];rfl
section
variable {self : (Rules × Place × Mv × Int × Unit) → Option Bool} {r : Rules} {p q s : Place} {n o v : Int} {a m : Mv} {j : Int} {ms rs : List Mv} {b : Bool}
theorem w1_own (hj:decide (j<((ms.length:Nat):Int))=true) (hin:inb j ms.length=true) (hm:qp r q (getD' ms j.toNat dM)=some s) (hv:qaj r s=some v) (ho:w64 (1+p.2.2.1)=o) (h:(v==o)=true) :
    qU ms r q p self n ((j,()),())=some (.inl ((w64 (j+1),()),())):=by
  obtain⟨s1,⟨s2,s3,⟨⟩⟩,⟨s4,s5,⟨⟩⟩⟩:=s;unfold qU;simp only[hj,cond_true,hin,qi,hm,Option.bind_some,hv,ho,h,Sum.elim_inl]
theorem w1_open (hj:decide (j<((ms.length:Nat):Int))=true) (hin:inb j ms.length=true) (hm:qp r q (getD' ms j.toNat dM)=some s) (hv:qaj r s=some v) (ho:w64 (1+p.2.2.1)=o) (h:(v==o)=false) (h0:(v==0)=true) (hl:qam r s=some rs)
    (h2:Option.bind (α:=((Unit)×(Unit)) ⊕ (((Unit)×(Unit)) ⊕ (((Int×Unit)×(Unit)) ⊕ (((Unit)×(Unit)) ⊕ Bool)))) (iterW (qan rs self r s n) (((0:Int),()),())) (Sum.elim (fun x17=>bif (((rs.length:Nat):Int)==(0:Int)) then some (Sum.inr (Sum.inr (Sum.inr false))) else some (Sum.inl ((),()))) some)=some (bif b then .inl ((),()) else .inr (.inr (.inr false)))) :
    qU ms r q p self n ((j,()),())=some (bif b then .inl ((w64 (j+1),()),()) else .inr (.inr false)):=by
  obtain⟨s1,⟨s2,s3,⟨⟩⟩,⟨s4,s5,⟨⟩⟩⟩:=s;unfold qU
  cases b with
  | true=>simp only[hj,cond_true,hin,qi,hm,Option.bind_some,hv,ho,h,cond_false,h0,hl,h2,Sum.elim_inl]
  | false=>simp only[hj,cond_true,hin,qi,hm,Option.bind_some,hv,ho,h,cond_false,h0,hl,h2,Sum.elim_inr]
theorem w1_lost (hj:decide (j<((ms.length:Nat):Int))=true) (hin:inb j ms.length=true) (hm:qp r q (getD' ms j.toNat dM)=some s) (hv:qaj r s=some v) (ho:w64 (1+p.2.2.1)=o) (h:(v==o)=false) (h0:(v==0)=false) :
    qU ms r q p self n ((j,()),())=some (.inr (.inr false)):=by
  obtain⟨s1,⟨s2,s3,⟨⟩⟩,⟨s4,s5,⟨⟩⟩⟩:=s;unfold qU;simp only[hj,cond_true,hin,qi,hm,Option.bind_some,hv,ho,h,cond_false,h0,Sum.elim_inr]
theorem w1_end (hj:decide (j<((ms.length:Nat):Int))=false):qU ms r q p self n ((j,()),())=some (.inr (.inl ((),()))):=by
  unfold qU;simp only[hj,cond_false]
theorem wF_end (hm:qp r p m=some q) (hv:qaj r q=some v) (ho:w64 (1+p.2.2.1)=o) (h:(v !=0)=true):qbd self r p m n=some (v==o):=by
  obtain⟨q1,⟨q2,q3,⟨⟩⟩,⟨q4,q5,⟨⟩⟩⟩:=q;unfold qbd;simp only[hm,Option.bind_some,hv,h,cond_true,ho]
theorem wF_short (hm:qp r p m=some q) (hv:qaj r q=some v) (h:(v !=0)=false) (hn:decide (n<3)=true):qbd self r p m n=some false:=by
  obtain⟨q1,⟨q2,q3,⟨⟩⟩,⟨q4,q5,⟨⟩⟩⟩:=q;unfold qbd;simp only[hm,Option.bind_some,hv,h,cond_false,hn,cond_true]
theorem wF_go (hm:qp r p m=some q) (hv:qaj r q=some v) (h:(v !=0)=false) (hn:decide (n<3)=false) (hl:qam r q=some ms) (h1:Option.bind (α:=((Unit)×(Unit)) ⊕ Bool) (iterW (qU ms r q p self n) (((0:Int),()),())) (Sum.elim (fun x19=>some true) some)=some b):qbd self r p m n=some b:=by
  obtain⟨q1,⟨q2,q3,⟨⟩⟩,⟨q4,q5,⟨⟩⟩⟩:=q;unfold qbd;simp only[hm,Option.bind_some,hv,h,cond_false,hn,hl,h1]
end
def Rwin (r:Rules) (d:Nat) (x:Rules×Place×Mv×Int×Unit) (y:Bool):Prop:=∃(p:Place) (m:Mv),Valid r p∧qN r p m=true∧d≤10∧x=(r,p,m,(2*(d:Int)+1),())∧y=winP r d p m
theorem win_fix {r:Rules}:∀d x y,Rwin r d x y→fixW qb0 x=some y:=by
  refine fixW_relR ql0 (Rwin r) fun d φ x y hR hφ=>?_;obtain⟨p,m,hv,ha,hd,rfl,rfl⟩:=hR;show qbd φ r p m (2*(d:Int)+1)=_;have hq:=qic hv ha;have ht:=hv.turn;have ho:w64 (1+p.2.2.1)=1+p.2.2.1:=qk (by show _≤1+p.turn;omega) (by show 1+p.turn≤_;omega);have hmk:=qbJ hv ha;have hrs:=qb5 hq
  cases d with
  | zero =>
    unfold winP;by_cases c:qm r (qd r p m)=0
    · rw[if_neg (by simp[c])];exact wF_short hmk hrs (bne_f c) (decide_eq_true (by omega))
    · rw[if_pos c];exact wF_end hmk hrs ho (bne_t c)
  | succ d =>
    unfold winP;by_cases c:qm r (qd r p m)=0
    · rw[if_neg (by simp[c])];have hml:=qS hq;refine wF_go (ms:=qc r (qd r p m)) hmk hrs (bne_f c) (decide_eq_false (by omega)) (qdG hq) ?_
      have hn:w64 (2*((d+1:Nat):Int)+1-2)=2*(d:Int)+1:=by rw[qk (by omega) (by omega)];omega
      have key:∀(f j:Nat),j+f=(qc r (qd r p m)).length→Option.bind (α:=((Unit)×(Unit)) ⊕ Bool) (iterW (qU (qc r (qd r p m)) r (qd r p m) p φ (2*((d+1:Nat):Int)+1)) (((j:Int),()),())) (Sum.elim (fun x19=>some true) some) =
          some (((qc r (qd r p m)).drop j).all fun a=>(qm r (qd r (qd r p m) a)==1+p.2.2.1)||((qm r (qd r (qd r p m) a)==0)&&(qc r (qd r (qd r p m) a)).any fun k=>winP r d (qd r (qd r p m) a) k)):=by
        intro f
        induction f with
        | zero =>
          intro j hj
          obtain rfl:j=(qc r (qd r p m)).length:=by omega
          rw[qn (w1_end (qbj _)),List.drop_length];rfl
        | succ f ih =>
          intro j hj
          have hj':j<(qc r (qd r p m)).length:=by omega
          have hma:=qcs hq (qev c).symm hj';have hmk2:qp r (qd r p m) (getD' (qc r (qd r p m)) (j:Int).toNat dM)=some (qd r (qd r p m) (qc r (qd r p m))[j]):=by
            rw[qaS _ _ hj'];exact qbJ hq hma.1
          have hrs2:=qb5 hma.2
          have hw:w64 ((j:Int)+1)=((j+1:Nat):Int):=by rw[qk (by omega) (by omega)];omega
          rw[List.drop_eq_getElem_cons hj',List.all_cons];have ih':=ih (j+1) (by omega);by_cases c1:qm r (qd r (qd r p m) (qc r (qd r p m))[j])=1+p.2.2.1
          · have e:=w1_own (self:=φ) (n:=2*((d+1:Nat):Int)+1) (qax _ _ hj') (qB _ _ hj') hmk2 hrs2 ho (beq_t c1);rw[hw] at e;rw[qx e,ih',beq_t c1,Bool.true_or,Bool.true_and]
          · by_cases c2:qm r (qd r (qd r p m) (qc r (qd r p m))[j])=0
            · have hms:=qS hma.2
              have h2:=w2_spec (self:=φ) (r:=r) (q:=qd r (qd r p m) (qc r (qd r p m))[j]) (ms:=qc r (qd r (qd r p m) (qc r (qd r p m))[j])) (keep:=fun k=>winP r d (qd r (qd r p m) (qc r (qd r p m))[j]) k) hms hn (fun v hv2=>by
                obtain⟨t,ht2,rfl⟩:=List.getElem_of_mem hv2
                exact hφ d _ _ (Nat.lt_succ_self d) ⟨_,_,hma.2,(qcs hma.2 (qev c2).symm ht2).1,by omega,rfl,rfl⟩) (qc r (qd r (qd r p m) (qc r (qd r p m))[j])).length 0 (by omega) (fun t ht2 h0=>by omega)
              have e:=w1_open (self:=φ) (n:=2*((d+1:Nat):Int)+1) (p:=p) (qax _ _ hj') (qB _ _ hj') hmk2 hrs2 ho (beq_f c1) (beq_t c2) (qdG hma.2) h2;rw[hw] at e;rw[beq_f c1,Bool.false_or,beq_t c2,Bool.true_and]
              cases hb:(qc r (qd r (qd r p m) (qc r (qd r p m))[j])).any fun k=>winP r d (qd r (qd r p m) (qc r (qd r p m))[j]) k with
              | true =>
                rw[hb,cond_true] at e;rw[qx e,ih',Bool.true_and]
              | false =>
                rw[hb,cond_false] at e;rw[qn e,Bool.false_and];rfl
            · rw[qn (w1_lost (self:=φ) (n:=2*((d+1:Nat):Int)+1) (p:=p) (qax _ _ hj') (qB _ _ hj') hmk2 hrs2 ho (beq_f c1) (beq_f c2)),beq_f c1,beq_f c2,Bool.false_and,Bool.or_self,Bool.false_and];rfl
      exact key (qc r (qd r p m)).length 0 (by omega)
    · rw[if_pos c];exact wF_end hmk hrs ho (bne_t c)
theorem wins_spec {r:Rules} {p:Place} {m:Mv} (hv:Valid r p) (ha:qN r p m=true) {d:Nat} (hd:d≤10):qcG r p m (2*(d:Int)+1)=some (winP r d p m):=win_fix d _ _ ⟨p,m,hv,ha,hd,rfl,rfl⟩
end Go.Proofs.YtkkoolcdonhoaaaGreatDoor
namespace Go.Proofs.YtkkoolcdonhoaaaGreatDoor
open Go.Den
set_option linter.unusedVariables false
set_option linter.unusedSimpArgs false
set_option maxRecDepth 100000

section
variable {r : Rules} {p : Place} {n : Int} {v : Mv} {i j : Int} {xs ms : List Mv} {b : Bool}
theorem a2_step (hj:decide (j<((xs.length:Nat):Int))=true) (hin:inb j xs.length=true) (hv:getD' xs j.toNat dM=v) (hs:qcG r p v n=some b) (hin2:inb i xs.length=true) :
    qb2 r p n ((i,(j,())),(xs,()))=some (.inl (bif b then((w64 (i+1),(w64 (j+1),())),(xs.set i.toNat v,())) else((i,(w64 (j+1),())),(xs,())))):=by
  unfold qb2
  cases b with
  | true=>simp only[hj,cond_true,hin,qi,hv,hs,Option.bind_some,Bool.not_true,Bool.not_false,hin2]
  | false=>simp only[hj,cond_true,hin,qi,hv,hs,Option.bind_some,Bool.not_false,Bool.not_true,cond_false]
theorem a2_end (hj:decide (j<((xs.length:Nat):Int))=false):qb2 r p n ((i,(j,())),(xs,()))=some (.inr ((i,()),(xs,()))):=by
  unfold qb2;simp only[hj,cond_false]
theorem a1_keep (hj:decide (j<((ms.length:Nat):Int))=true) (hin:inb j ms.length=true) (hv:getD' ms j.toNat dM=v) (hs:qcG r p v n=some true) :
    qby ms r p n ((j,()),())=some (.inl ((w64 (j+1),()),())):=by
  unfold qby;simp only[hj,cond_true,hin,qi,hv,hs,Option.bind_some,Bool.not_true,cond_false]
theorem a1_drop {k:Nat} {ys:List Mv} (hj:decide (j<((ms.length:Nat):Int))=true) (hin:inb j ms.length=true) (hv:getD' ms j.toNat dM=v) (hs:qcG r p v n=some false) (hne:(j==(-1:Int))=false)
    (h3:iterW (qb2 r p n) ((j,(w64 (j+1),())),(ms,()))=some (((k:Int),()),(xs,()))) (hb1:qM (k:Int) ((xs.length:Nat):Int) xs.length=true)
    (hb2:qM 0 (k:Int) (xs.take (k:Int).toNat++(List.replicate ((((xs.length:Nat):Int)).toNat-(k:Int).toNat) dM++xs.drop ((k:Int).toNat+((((xs.length:Nat):Int)).toNat-(k:Int).toNat)))).length=true)
    (hl:((xs.take (k:Int).toNat++(List.replicate ((((xs.length:Nat):Int)).toNat-(k:Int).toNat) dM++xs.drop ((k:Int).toNat+((((xs.length:Nat):Int)).toNat-(k:Int).toNat)))).take (k:Int).toNat)=ys) :
    qby ms r p n ((j,()),())=some (.inr (.inr ys)):=by
  unfold qby;simp only[hj,cond_true,hin,qi,hv,hs,Option.bind_some,Bool.not_false,hne,cond_false,h3,hb1,hb2,hl,Option.map_some]
theorem a1_end (hj:decide (j<((ms.length:Nat):Int))=false):qby ms r p n ((j,()),())=some (.inr (.inl ((),()))):=by
  unfold qby;simp only[hj,cond_false]
end
theorem pall_spec {r:Rules} {p:Place} (hv:Valid r p) (h0:qm r p=0) {d:Nat} (hd:d≤10):qjl r p (2*(d:Int)+1)=some ((qc r p).filter (winP r d p)):=by
  have hml:=qS hv;have hs:∀v∈qc r p,qcG r p v (2*(d:Int)+1)=some (winP r d p v):=fun v hm=>by
    obtain⟨t,ht,rfl⟩:=List.getElem_of_mem hm;exact wins_spec hv (qcs hv (qev h0).symm ht).1 hd
  have key:∀(f j:Nat),j+f=(qc r p).length→(∀t (ht:t<(qc r p).length),t<j→winP r d p (qc r p)[t]=true) →
      Option.bind (α:=((Unit)×(Unit)) ⊕ (List Mv)) (iterW (qby (qc r p) r p (2*(d:Int)+1)) (((j:Int),()),())) (Sum.elim (fun x9=>some (qc r p)) some)=some ((qc r p).filter (winP r d p)):=by
    intro f
    induction f with
    | zero =>
      intro j hj ha
      obtain rfl:j=(qc r p).length:=by omega
      rw[qn (a1_end (qbj _)),Option.bind_some,Sum.elim_inl,qhn fun x hx=>by
        obtain⟨t,ht,rfl⟩:=List.getElem_of_mem hx
        exact ha t ht ht]
    | succ f ih =>
      intro j hj ha
      have hj':j<(qc r p).length:=by omega
      have hsj:=hs _ (List.getElem_mem hj')
      cases hk:winP r d p (qc r p)[j] with
      | true =>
        rw[hk] at hsj;have e:=a1_keep (qax _ _ hj') (qB _ _ hj') (qaS (qc r p) j hj' dM) hsj;rw[qk (by omega) (by omega)] at e;rw[qx e]
        have:=ih (j+1) (by omega) (fun t ht htj=>by
          by_cases c:t=j
          · subst c;exact hk
          · exact ha t ht (by omega))
        rw[show(((j+1:Nat)):Int)=(j:Int)+1 by omega] at this;exact this
      | false =>
        rw[hk] at hsj
        obtain⟨xs',h3,hxl,hxt⟩:=qq0 (f:=qb2 r p (2*(d:Int)+1)) (keep:=winP r d p) (orig:=qc r p) (fun i j xs v hi hj hl hv hmem=>by
          have hlj:getD' xs (j:Int).toNat dM=v:=by
            rw[Int.toNat_natCast];unfold getD';rw[List.getD_eq_getElem?_getD,hv];rfl
          have e:=a2_step (r:=r) (p:=p) (n:=2*(d:Int)+1) (qax _ _ hj) (qB _ _ hj) hlj (hs v hmem) (qB _ _ hi);rw[qk (n:=(i:Int)+1) (by omega) (by omega),qk (n:=(j:Int)+1) (by omega) (by omega),Int.toNat_natCast] at e
          exact e) (fun i j xs hj=>a2_end (by rw[hj];exact qbj _)) ((qc r p).length-(j+1)) j (j+1) (qc r p) (by omega) rfl (by omega) (by
          rw[List.take_succ_eq_append_getElem hj',List.filter_append,List.filter_cons_of_neg (by rw[hk];decide),List.filter_nil,List.append_nil];refine(qhn fun x hx=>?_).symm;obtain⟨t,ht,rfl⟩:=List.getElem_of_mem hx;rw[List.length_take] at ht;rw[List.getElem_take]
          exact ha t (by omega) (by omega)) rfl
        have hkl:((qc r p).filter (winP r d p)).length≤xs'.length:=by rw[hxl];exact List.length_filter_le _ _
        obtain⟨b1,b2⟩:=big_len xs' hkl
        have e:=a1_drop (r:=r) (p:=p) (n:=2*(d:Int)+1) (k:=((qc r p).filter (winP r d p)).length) (xs:=xs') (ys:=(qc r p).filter (winP r d p)) (qax _ _ hj') (qB _ _ hj') (qaS (qc r p) j hj' dM) hsj (beq_f (by omega)) (by
          rw[qk (by omega) (by omega),show((j:Int)+1)=((j+1:Nat):Int) by omega];exact h3) (by unfold qM;simp;omega) (by
          rw[Int.toNat_natCast,Int.toNat_natCast,b1];unfold qM;simp;omega) (by
          rw[Int.toNat_natCast,Int.toNat_natCast,b2,hxt])
        rw[qn e,Option.bind_some,Sum.elim_inr]
  unfold qjl;rw[qdG hv,Option.bind_some];exact key (qc r p).length 0 (by omega) (fun t ht h=>by omega)
def pzErr (r:Rules) (p:Place) (d:Nat):Int:=if qP r p≠0 then qP r p else if qm r p≠0 then 14 else qa3 r p (2*(d:Int)+1)
theorem odd_spec {d:Nat} (hd:d≤2):qlD (2*(d:Int)+1)=some true:=by
  have:d=0∨d=1∨d=2:=by omega
  rcases this with rfl | rfl | rfl<;>rfl
theorem qir (r:Rules) (p:Place) (hr:Rng qb7 r) (hn:p.1.length≤9223372036854775807) {d:Nat} (hd:d≤2):qcu r p (2*(d:Int)+1)=some (pzErr r p d):=by
  unfold qcu pzErr;rw[qfy r p hr hn,Option.bind_some];by_cases h1:qP r p=0
  · have hv:=qhs h1;rw[bne_f h1,cond_false,odd_spec hd,Option.bind_some,Bool.not_true,cond_false,qb5 hv,Option.bind_some,if_neg (by simp[h1])];by_cases h2:qm r p=0
    · rw[bne_f h2,cond_false,if_neg (by simp[h2]),qos r p _ hr hn,Option.bind_some];split
      · rename_i h;rw[h]
      · rfl
    · rw[bne_t h2,cond_true,if_pos h2]
  · rw[bne_t h1,cond_true,if_pos h1]
theorem qd0 (r:Rules) (p:Place) (hr:Rng qb7 r) (hn:p.1.length≤9223372036854775807) {d:Nat} (hd:d≤2):qae r p (2*(d:Int)+1)=some (if pzErr r p d=0 then((qc r p).filter (winP r d p),((0:Int),())) else([],(pzErr r p d,()))):=by
  unfold qae;rw[qir r p hr hn hd,Option.bind_some];by_cases c:pzErr r p d=0
  · have h1:qP r p=0:=Decidable.byContradiction fun h=>by
      unfold pzErr at c;rw[if_pos h] at c;exact h c
    have h2:qm r p=0:=Decidable.byContradiction fun h=>by
      unfold pzErr at c;rw[if_neg (by simp[h1]),if_pos h] at c;exact absurd c (by decide)
    rw[bne_f c,cond_false,if_pos c,pall_spec (qhs h1) h2 (by omega)];rfl
  · rw[bne_t c,cond_true,if_neg c]
section
variable {r : Rules} {p : Place} {w : List Mv} {n : Int}
theorem lst_hit (hn:decide (n≤5)=true) (h:qae r p n=some (w,((0:Int),()))) (hw:decide (((w.length:Nat):Int)>0)=true):qat r p ((n,()),())=some (.inr (.inr (n,((0:Int),())))):=by
  have z:((0:Int)!=0)=false:=rfl;unfold qat;simp only[hn,cond_true,h,Option.bind_some,z,cond_false,hw]
theorem qk6 (hn:decide (n≤5)=true) (h:qae r p n=some ([],((0:Int),()))):qat r p ((n,()),())=some (.inl ((w64 (n+2),()),())):=by
  have z:((0:Int)!=0)=false:=rfl;unfold qat;simp only[hn,cond_true,h,Option.bind_some,z,cond_false];rfl
theorem least_1 (h:qae r p 1=some (w,((0:Int),()))) (hw:w≠[]):qaO r p=some ((1:Int),((0:Int),())):=by
  have:=List.length_pos_iff.2 hw;unfold qaO;rw[qn (lst_hit rfl h (decide_eq_true (by omega)))];rfl
theorem least_3 (h1:qae r p 1=some ([],((0:Int),()))) (h:qae r p 3=some (w,((0:Int),()))) (hw:w≠[]):qaO r p=some ((3:Int),((0:Int),())):=by
  have:=List.length_pos_iff.2 hw;unfold qaO;rw[qx (qk6 rfl h1)];have e:iterW (qat r p) ((w64 (1+2),()),())=some (.inr ((3:Int),((0:Int),()))):=qn (lst_hit (n:=3) rfl h (decide_eq_true (by omega)));rw[e];rfl
theorem qsu (h1:qae r p 1=some ([],((0:Int),()))) (h3:qae r p 3=some ([],((0:Int),()))) (h5:qae r p 5=some ([],((0:Int),()))):qaO r p=some ((0:Int),((8:Int),())):=by
  have e7:qat r p (((7:Int),()),())=some (.inr (.inl ((),()))):=rfl;have e5:iterW (qat r p) (((5:Int),()),())=some (.inl ((),())):=by
    rw[qx (qk6 rfl h5)];exact qn e7
  have e3:iterW (qat r p) (((3:Int),()),())=some (.inl ((),())):=by
    rw[qx (qk6 rfl h3)];exact e5
  unfold qaO;rw[qx (qk6 rfl h1)];have e:iterW (qat r p) ((w64 (1+2),()),())=some (.inl ((),())):=e3;rw[e];rfl
end
theorem qnZ {r:Rules} {p:Place} (h:Valid r p) (h0:qaT r=0):qP r p=0:=by
  have ht:=h.turn;have hq:=h.quiet;unfold qP;rw[if_neg (by simp[h0])];have hf:qij r p=false:=by
    unfold qij;rw[bne_f h.cells,bne_f (by rw[h.l0]),bne_f (by rw[h.l1])];rfl
  have hb:qfF r p=false:=by
    unfold qfF;have e1:p.cells.any (outC r)=false:=by
      rw[List.any_eq_false];intro c hc;have:=h.cell c hc;unfold outC;simp;omega
    have e2:(p.h0++p.h1).any outH=false:=by
      rw[List.any_eq_false];intro c hc;have:0≤c∧c≤1000:=by
        rcases List.mem_append.1 hc with hc | hc
        · exact h.hand0 c hc
        · exact h.hand1 c hc
      unfold outH;simp;omega
    have e3:outT p=false:=by
      unfold outT;simp;omega
    rw[e1,e2,e3];rfl
  rw[hf,hb];rfl
theorem qjK (r:Rules):∀(d:Nat) (p:Place),treeN r d p≤treeN r (d+1) p
  | 0,p=>qoy r 1 p
  | d+1,p=>by
    have hs:∀l:List Mv,(l.map fun m=>treeN r d (qd r p m)).sum≤(l.map fun m=>treeN r (d+1) (qd r p m)).sum:=by
      intro l
      induction l with
      | nil=>exact Nat.le_refl _
      | cons a l ih =>
        rw[List.map_cons,List.map_cons,List.sum_cons,List.sum_cons];exact Nat.add_le_add (qjK r d _) ih
    show 1+_≤1+_;exact Nat.add_le_add_left (hs _) 1
theorem tree_13 {r:Rules} {p:Place} (h:qa3 r p 3=0) (h1:qP r p=0):qa3 r p 1=0:=by
  refine qgr h1 rfl fun hh=>?_;have h3:¬50000<treeN r 3 p:=fun hc=>by
    rw[qjy (depth:=3) h1 rfl hc] at h;exact absurd h (by decide)
  have a:treeN r 1 p≤treeN r 2 p:=qjK r 1 p;have b:treeN r 2 p≤treeN r 3 p:=qjK r 2 p;have hh':50000<treeN r 1 p:=hh;exact h3 (Nat.lt_of_lt_of_le hh' (Nat.le_trans a b))
end Go.Proofs.YtkkoolcdonhoaaaGreatDoor
namespace Go.Proofs.YtkkoolcdonhoaaaGreatDoor
open Go.Den
set_option linter.unusedVariables false
set_option linter.unusedSimpArgs false
set_option maxRecDepth 100000

structure Tab (r:Rules) (l:List Place) (nx:List (List Int)) (m:Mp):Prop where
  ti:TI r l.length (l,(nx,m))
  rq:r.quiet=0
section
variable {r : Rules} {l : List Place} {nx : List (List Int)} {m : Mp}
theorem getP {i:Nat} (hi:i<l.length):getD' l i eP=l[i]:=by
  unfold getD';rw[List.getD_eq_getElem?_getD,List.getElem?_eq_getElem hi];rfl
theorem Tab.pos (h:Tab r l nx m) {i:Nat} (hi:i<l.length):Valid r l[i]∧q0 l[i]=l[i]:=h.ti.pi.val _ (List.getElem_mem hi)
theorem Tab.row (h:Tab r l nx m) {i:Nat} (hi:i<l.length):RowOK r l l[i] (rowI nx i):=by
  obtain⟨p,h1,h2⟩:=h.ti.row i hi;have h1':l[i]?=some p:=h1;rw[List.getElem?_eq_getElem hi] at h1';cases h1';exact h2
theorem open_lenR {p:Place} (hv:Valid r p):(qe r p).length≤100000:=by
  have:=qS hv;unfold qe;split
  · exact this
  · exact Nat.zero_le _
theorem Tab.wf (h:Tab r l nx m):WF l nx (qbw r l):=by
  refine⟨h.ti.big,h.ti.n,List.length_map _,fun i hi c hc=>?_,fun i hi=>?_,fun i hi=>?_⟩
  · obtain⟨t,ht,rfl⟩:=List.getElem_of_mem hc;have ho:=h.row hi;obtain⟨k,h1,h2⟩:=ho.2 t (by rw[←ho.1];exact ht);rw[List.getElem?_eq_getElem ht] at h1;have e:=Option.some.inj h1;have:=(List.getElem?_eq_some_iff.1 h2).1;rw[e];omega
  · rw[(h.row hi).1];exact open_lenR (h.pos hi).1
  · have:=(h.pos hi).1.turn;unfold trn;rw[getP hi];exact this
theorem Tab.ch1 (h:Tab r l nx m) {i:Nat} (hi:i<l.length) {t:Nat} (ht:t<(qe r l[i]).length):∃c:Nat,Ch l nx i c∧(rowI nx i)[t]?=some (c:Int)∧l[c]?=some (q0 (qd r l[i] (qe r l[i])[t])):=by
  obtain⟨c,h1,h2⟩:=(h.row hi).2 t ht;exact⟨c,⟨(List.getElem?_eq_some_iff.1 h2).1,List.mem_of_getElem? h1⟩,h1,h2⟩
theorem Tab.ch2 (h:Tab r l nx m) {i:Nat} (hi:i<l.length) {c:Nat} (hc:Ch l nx i c):∃(t:Nat) (ht:t<(qe r l[i]).length),(rowI nx i)[t]?=some (c:Int)∧l[c]?=some (q0 (qd r l[i] (qe r l[i])[t])):=by
  obtain⟨t,ht,he⟩:=List.getElem_of_mem hc.2;have ho:=h.row hi
  have ht':t<(qe r l[i]).length:=by rw[←ho.1];exact ht
  obtain⟨k,h1,h2⟩:=ho.2 t ht'
  have e:(rowI nx i)[t]?=some (c:Int):=by rw[List.getElem?_eq_getElem ht,he]
  have hk:k=c:=by
    rw[e] at h1;have:=Option.some.inj h1;omega
  subst hk;exact⟨t,ht',h1,h2⟩
theorem R0_of (hq:r.quiet=0) {c:Nat} {q:Place} (h:l[c]?=some (q0 q)):R0 r l c=qm r q:=by
  obtain⟨hc,e⟩:=List.getElem?_eq_some_iff.1 h;unfold R0;rw[getP hc,e];exact qha hq q
theorem trn_of {c:Nat} {q:Place} (h:l[c]?=some (q0 q)):trn l c=q.2.2.1:=by
  obtain⟨hc,e⟩:=List.getElem?_eq_some_iff.1 h;unfold trn;rw[getP hc,e];rfl
theorem Tab.turn (h:Tab r l nx m):∀i c,i<l.length→Ch l nx i c→trn l c=1-trn l i:=fun i c hi hc=>by
  obtain⟨t,ht,_,h2⟩:=h.ch2 hi hc;rw[trn_of h2];unfold trn;rw[getP hi];rfl
theorem Tab.open (h:Tab r l nx m) {i:Nat} (hi:i<l.length) (h0:R0 r l i=0):qm r l[i]=0∧qe r l[i]=qc r l[i]:=by
  unfold R0 at h0;rw[getP hi] at h0;exact⟨h0,qev h0⟩
theorem Tab.met (h:Tab r l nx m) {i:Nat} (hi:i<l.length) (h0:R0 r l i=0) {t:Nat} (ht:t<(qc r l[i]).length) {c:Nat} (hc:l[c]?=some (q0 (qd r l[i] (qc r l[i])[t]))) (hno:R0 r l c≠1+trn l i):Met r l nx (1+trn l i) c↔winP r 1 l[i] (qc r l[i])[t]=true:=by
  have htr:trn l i=l[i].2.2.1:=by unfold trn;rw[getP hi]
  have htt:=(h.pos hi).1.turn;have htt':l[i].2.2.1=0∨l[i].2.2.1=1:=htt;rw[R0_of h.rq hc] at hno;have hcl:=(List.getElem?_eq_some_iff.1 hc).1;have hce:=(List.getElem?_eq_some_iff.1 hc).2;unfold winP;by_cases c0:qm r (qd r l[i] (qc r l[i])[t])=0
  · rw[if_neg (by simp[c0])]
    have hcr:R0 r l c=0:=by rw[R0_of h.rq hc];exact c0
    have hco:=h.open hcl hcr
    have hmv:qc r l[c]=qc r (qd r l[i] (qc r l[i])[t]):=by rw[hce];exact qk3 r _
    have haf:∀a,q0 (qd r l[c] a)=q0 (qd r (qd r l[i] (qc r l[i])[t]) a):=fun a=>by rw[hce];exact qoa r _ a
    have grand:∀(g:Nat) (a:Mv),l[g]?=some (q0 (qd r l[c] a))→((R0 r l g=1+trn l i∨(R0 r l g=0∧∃k,Ch l nx g k∧R0 r l k=1+trn l i)) ↔
        ((qm r (qd r (qd r l[i] (qc r l[i])[t]) a)==1+l[i].2.2.1)||((qm r (qd r (qd r l[i] (qc r l[i])[t]) a)==0)&&(qc r (qd r (qd r l[i] (qc r l[i])[t]) a)).any fun k=>winP r 0 (qd r (qd r l[i] (qc r l[i])[t]) a) k))=true):=fun g a hg=>by
      have hg':l[g]?=some (q0 (qd r (qd r l[i] (qc r l[i])[t]) a)):=by rw[hg,haf]
      have hgl:=(List.getElem?_eq_some_iff.1 hg').1;have hge:=(List.getElem?_eq_some_iff.1 hg').2;rw[R0_of h.rq hg',htr,Bool.or_eq_true,Bool.and_eq_true,beq_iff_eq,beq_iff_eq];have hts:(qd r (qd r l[i] (qc r l[i])[t]) a).2.2.1=l[i].2.2.1:=by
        show 1-(1-l[i].2.2.1)=_;omega
      constructor
      · rintro (e | ⟨e,k,hk,ek⟩)
        · exact .inl e
        · refine .inr ⟨e,?_⟩;obtain⟨u,hu,_,hk2⟩:=h.ch2 hgl hk;have hgo:=h.open hgl (by rw[R0_of h.rq hg'];exact e);rw[R0_of h.rq hk2] at ek;rw[List.any_eq_true]
          have hmg:qe r l[g]=qc r (qd r (qd r l[i] (qc r l[i])[t]) a):=by rw[hgo.2,hge];exact qk3 r _
          refine⟨(qe r l[g])[u],by rw[←hmg];exact List.getElem_mem hu,?_⟩;have er:qm r (qd r (qd r (qd r l[i] (qc r l[i])[t]) a) (qe r l[g])[u])=qm r (qd r l[g] (qe r l[g])[u]):=by
            rw[←qha h.rq,←qoa,←hge,qha h.rq]
          unfold winP;rw[er,ek,if_pos (by omega),hts];exact beq_self_eq_true _
      · rintro (e | ⟨e,hw⟩)
        · exact .inl e
        · refine .inr ⟨e,?_⟩;rw[List.any_eq_true] at hw;obtain⟨k,hk,hwk⟩:=hw;have hgo:=h.open hgl (by rw[R0_of h.rq hg'];exact e)
          have hmg:qe r l[g]=qc r (qd r (qd r l[i] (qc r l[i])[t]) a):=by rw[hgo.2,hge];exact qk3 r _
          rw[←hmg] at hk;obtain⟨u,hu,rfl⟩:=List.getElem_of_mem hk;obtain⟨k2,hk2,_,hk3⟩:=h.ch1 hgl hu;refine⟨k2,hk2,?_⟩;rw[R0_of h.rq hk3];have er:qm r (qd r (qd r (qd r l[i] (qc r l[i])[t]) a) (qe r l[g])[u])=qm r (qd r l[g] (qe r l[g])[u]):=by
            rw[←qha h.rq,←qoa,←hge,qha h.rq]
          unfold winP at hwk;rw[er,hts] at hwk;split at hwk
          · exact beq_iff_eq.1 hwk
          · cases hwk
    rw[List.all_eq_true];constructor
    · intro hm a ha;rw[←hmv,←hco.2] at ha;obtain⟨u,hu,rfl⟩:=List.getElem_of_mem ha;obtain⟨g,hg1,_,hg2⟩:=h.ch1 hcl hu;exact(grand g _ hg2).1 (hm.2 g hg1)
    · intro ha;refine⟨hcr,fun g hg=>?_⟩;obtain⟨u,hu,_,hg2⟩:=h.ch2 hcl hg;refine(grand g _ hg2).2 (ha _ ?_);rw[←hmv,←hco.2];exact List.getElem_mem hu
  · rw[if_pos c0];constructor
    · intro hm;have:=hm.1;rw[R0_of h.rq hc] at this;exact absurd this c0
    · intro hw;rw[htr] at hno;exact absurd (beq_iff_eq.1 hw) hno
def wantB (es:List En) (a b:Int) (c:Int):Bool:=((getD' es c.toNat eE).1==a)&&(((getD' es c.toNat eE).2.1==b)&&true)
theorem qqS {es:List En} {a b:Int} {c:Nat}:wantB es a b (c:Int)=true↔getD' es c eE=(a,(b,())):=by
  unfold wantB;rw[Int.toNat_natCast];obtain⟨x,y,⟨⟩⟩:=getD' es c eE;rw[Bool.and_eq_true,Bool.and_true,beq_iff_eq,beq_iff_eq];constructor
  · rintro ⟨h1,h2⟩
    simp only at h1 h2;rw[h1,h2]
  · intro h;cases h;exact⟨rfl,rfl⟩
theorem Tab.win1 (h:Tab r l nx m) {K:Nat} (hK:qaQ l nx (Es r l nx K)=[]) {i:Nat} (hi:i<l.length) (he:getD' (drawM (Es r l nx K)) i eE=(1+trn l i,((1:Int),()))) :
    qm r l[i]=0∧(∀t (ht:t<(qc r l[i]).length),∃c:Nat,(rowI nx i)[t]?=some (c:Int)∧c<l.length∧wantB (drawM (Es r l nx K)) (1+trn l i) 0 (c:Int)=winP r 0 l[i] (qc r l[i])[t])∧(qc r l[i]).filter (winP r 0 l[i])≠[]:=by
  have htr:trn l i=l[i].2.2.1:=by unfold trn;rw[getP hi]
  have ht01:=h.wf.turn i hi;obtain⟨h0,c,hc,hcr⟩:=plies1 h.wf hK hi he;have ho:=h.open hi h0;have key:∀t (ht:t<(qc r l[i]).length) (c:Nat),l[c]?=some (q0 (qd r l[i] (qc r l[i])[t]))→(R0 r l c=1+trn l i↔winP r 0 l[i] (qc r l[i])[t]=true):=fun t ht c hc=>by
    rw[R0_of h.rq hc,htr];unfold winP;constructor
    · intro e;rw[if_pos (by omega),e];exact beq_self_eq_true _
    · intro hw;split at hw
      · exact beq_iff_eq.1 hw
      · cases hw
  refine⟨ho.1,fun t ht=>?_,?_⟩
  · obtain⟨c',h1,h2,h3⟩:=h.ch1 hi (t:=t) (by rw[ho.2];exact ht);simp only[ho.2] at h3;refine⟨c',h2,h1.1,?_⟩;rw[Bool.eq_iff_iff,qqS,fin_zero h.wf hK h1.1 (by omega)];exact key t ht c' h3
  · obtain⟨t,ht,_,h3⟩:=h.ch2 hi hc;simp only[ho.2] at ht h3;have hw:=(key t ht c h3).1 hcr;intro hf;rw[List.filter_eq_nil_iff] at hf;exact hf _ (List.getElem_mem ht) hw
theorem Tab.win3 (h:Tab r l nx m) {K:Nat} (hK:qaQ l nx (Es r l nx K)=[]) {i:Nat} (hi:i<l.length) (he:getD' (drawM (Es r l nx K)) i eE=(1+trn l i,((3:Int),()))) :
    qm r l[i]=0∧(∀t (ht:t<(qc r l[i]).length),∃c:Nat,(rowI nx i)[t]?=some (c:Int)∧c<l.length∧wantB (drawM (Es r l nx K)) (1+trn l i) 2 (c:Int)=winP r 1 l[i] (qc r l[i])[t])∧(qc r l[i]).filter (winP r 1 l[i])≠[]∧(qc r l[i]).filter (winP r 0 l[i])=[]:=by
  have htr:trn l i=l[i].2.2.1:=by unfold trn;rw[getP hi]
  have ht01:=h.wf.turn i hi;obtain⟨h0,hno,⟨c,hc,hm⟩,hiff⟩:=plies3 h.wf hK h.turn hi he;have ho:=h.open hi h0;refine⟨ho.1,fun t ht=>?_,?_,?_⟩
  · obtain⟨c',h1,h2,h3⟩:=h.ch1 hi (t:=t) (by rw[ho.2];exact ht);simp only[ho.2] at h3;refine⟨c',h2,h1.1,?_⟩;rw[Bool.eq_iff_iff,qqS,hiff c' h1];exact h.met hi h0 ht h3 (hno c' h1)
  · obtain⟨t,ht,_,h3⟩:=h.ch2 hi hc;simp only[ho.2] at ht h3;have hw:=(h.met hi h0 ht h3 (hno c hc)).1 hm;intro hf;rw[List.filter_eq_nil_iff] at hf;exact hf _ (List.getElem_mem ht) hw
  · rw[List.filter_eq_nil_iff];intro x hx hw;obtain⟨t,ht,rfl⟩:=List.getElem_of_mem hx;obtain⟨c',h1,h2,h3⟩:=h.ch1 hi (t:=t) (by rw[ho.2];exact ht);simp only[ho.2] at h3;have:=hno c' h1;rw[R0_of h.rq h3,htr] at this;unfold winP at hw;split at hw
    · exact this (beq_iff_eq.1 hw)
    · cases hw
end
end Go.Proofs.YtkkoolcdonhoaaaGreatDoor
namespace Go.Proofs.YtkkoolcdonhoaaaGreatDoor
open Go.Den
set_option linter.unusedVariables false
set_option linter.unusedSimpArgs false
set_option maxRecDepth 100000

section
variable {r : Rules} {l : List Place} {nx : List (List Int)} {es : List En} {m : Mp} {p : Place} {k : ByteArray} {i : Int} {ms w : List Mv} {a b b' : Int}
theorem find_fact (hc:qcg r p=some 0) (hk:qf1 p=some k) (hg:mpGet eqS m k=some i) :
    qaF (r,(l,(nx,(es,(m,()))))) p=some ((r,(l,(nx,(es,(m,()))))),(i,((0:Int),()))):=by
  have z:((0:Int)!=0)=false:=rfl;unfold qaF;simp only[hc,Option.bind_some,z,cond_false,hk,hg,Option.isSome_some,Bool.not_true,Option.getD_some]
theorem of_fact (hf:qaF (r,(l,(nx,(es,(m,()))))) p=some ((r,(l,(nx,(es,(m,()))))),(i,((0:Int),())))) (hin:inb i es.length=true) :
    qbZ (r,(l,(nx,(es,(m,()))))) p=some ((r,(l,(nx,(es,(m,()))))),(getD' es i.toNat eE,((0:Int),()))):=by
  have z:((0:Int)!=0)=false:=rfl;unfold qbZ;simp only[hf,Option.bind_some,z,cond_false,hin,qi]
theorem best_fact (hf:qaF (r,(l,(nx,(es,(m,()))))) p=some ((r,(l,(nx,(es,(m,()))))),(i,((0:Int),())))) (hin:inb i l.length=true) (hp:getD' l i.toNat eP=p) (he:qaC r p=some ms) (hne:(((ms.length:Nat):Int)==0)=false) (hin2:inb i es.length=true)
    (hen:getD' es i.toNat eE=(a,(b,()))) (ha:(a !=3)=true) (hb:w64 (b-1)=b')
    (hL:iterW (qaq ms ((r,(l,(nx,(es,(m,()))))),(i,((0:Int),()))) ((),((a,(b',())),()))) (([],((0:Int),())),())=some ((w,()),())) :
    qQ (r,(l,(nx,(es,(m,()))))) p=some ((r,(l,(nx,(es,(m,()))))),(w,((0:Int),()))):=by
  have z:((0:Int)!=0)=false:=rfl;unfold qQ;simp only[hf,Option.bind_some,z,cond_false,hin,qi,hp,he,hne,hin2,hen,ha,cond_true,hb,hL]
end
section
variable {r : Rules} {l : List Place} {nx : List (List Int)} {es : List En} {m : Mp} {i j d a b : Int} {ms acc : List Mv} {mv : Mv}
theorem b1_step (hj:decide (j<((ms.length:Nat):Int))=true) (hin:inb j ms.length=true) (hin2:inb i nx.length=true) (hat:at? (getD' nx i.toNat []) j=some d) (hin3:inb d es.length=true) (hmv:getD' ms j.toNat dM=mv) (hroom:room (acc.length+[mv].length) 24=true) :
    qaq ms ((r,(l,(nx,(es,(m,()))))),(i,((0:Int),()))) ((),((a,(b,())),())) ((acc,(j,())),())=some (.inl ((bif wantB es a b d then acc++[mv] else acc,(w64 (j+1),())),())):=by
  unfold qaq wantB
  cases hw:((getD' es d.toNat eE).1==a)&&(((getD' es d.toNat eE).2.1==b)&&true) with
  | true=>simp only[hj,cond_true,hin,qi,hin2,hat,Option.bind_some,hin3,hw,hmv,hroom]
  | false=>simp only[hj,cond_true,hin,qi,hin2,hat,Option.bind_some,hin3,hw,cond_false]
theorem b1_end (hj:decide (j<((ms.length:Nat):Int))=false) :
    qaq ms ((r,(l,(nx,(es,(m,()))))),(i,((0:Int),()))) ((),((a,(b,())),())) ((acc,(j,())),())=some (.inr ((acc,()),())):=by
  unfold qaq;simp only[hj,cond_false]
end
theorem b1_spec {r:Rules} {l:List Place} {nx:List (List Int)} {es:List En} {m:Mp} {i:Nat} {a b:Int} {ms:List Mv} {keep:Mv→Bool} (hi:i<nx.length) (hml:ms.length≤100000)
    (hk:∀t (ht:t<ms.length),∃c:Nat,(rowI nx i)[t]?=some (c:Int)∧c<es.length∧wantB es a b (c:Int)=keep ms[t]) :
    iterW (qaq ms ((r,(l,(nx,(es,(m,()))))),((i:Int),((0:Int),()))) ((),((a,(b,())),()))) (([],((0:Int),())),())=some ((ms.filter keep,()),()):=by
  have st:=qZ (f:=qaq ms ((r,(l,(nx,(es,(m,()))))),((i:Int),((0:Int),()))) ((),((a,(b,())),()))) ms.length (fun j=>(((ms.take j).filter keep,((j:Int),())),())) ((ms.filter keep,()),()) (fun j hj=>by
    obtain⟨c,h1,h2,h3⟩:=hk j hj;have hat:at? (getD' nx (i:Int).toNat []) (j:Int)=some (c:Int):=by
      unfold at?;rw[show decide (0≤(j:Int))=true from decide_eq_true (by omega),cond_true,Int.toNat_natCast,Int.toNat_natCast];exact h1
    have hfl:((ms.take j).filter keep).length≤100000:=by
      refine Nat.le_trans (List.length_filter_le _ _) ?_;rw[List.length_take];omega
    have e:=b1_step (r:=r) (l:=l) (m:=m) (a:=a) (b:=b) (acc:=(ms.take j).filter keep) (qax _ _ hj) (qB _ _ hj) (qB _ _ hi) hat (qB _ _ h2) (qaS ms j hj dM) (qav (by rw[List.length_singleton];omega));rw[qk (by omega) (by omega),show((j:Int)+1)=((j+1:Nat):Int) by omega,h3] at e;rw[e,List.take_succ_eq_append_getElem hj,List.filter_append]
    cases hb:keep ms[j] with
    | true=>rw[List.filter_cons_of_pos hb,List.filter_nil];rfl
    | false=>rw[List.filter_cons_of_neg (by rw[hb];decide),List.filter_nil,List.append_nil];rfl) (by
    rw[List.take_length]
    exact b1_end (qbj _))
  exact st
section
variable {r : Rules} {l : List Place} {nx : List (List Int)} {es : List En} {m : Mp}
theorem key_at {i:Nat} (h:PI r l m) (hi:i<l.length):mpGet eqS m (keyOf l[i])=some (i:Int):=by
  obtain⟨v,hv⟩:=(h.ix (keyOf l[i])).2 ⟨l[i],List.getElem_mem hi,rfl⟩;obtain⟨j,rfl,hj,e⟩:=(h.ix (keyOf l[i])).1 v hv;rw[h.kd j i hj hi e] at hv;exact hv
theorem Tab.find (h:Tab r l nx m) (hr:Rng qb7 r) (h0:qaT r=0) {i:Nat} (hi:i<l.length):qaF (r,(l,(nx,(es,(m,()))))) l[i]=some ((r,(l,(nx,(es,(m,()))))),((i:Int),((0:Int),()))):=by
  have hv:=(h.pos hi).1;have hal:=qch hv;refine find_fact ?_ (qrz hv) (key_at h.ti.pi hi);have hal':l[i].1.length≤64:=hal;rw[qfy r _ hr (by omega),qnZ hv h0]
theorem Tab.best (h:Tab r l nx m) (hr:Rng qb7 r) (h0:qaT r=0) {i:Nat} (hi:i<l.length) (hel:es.length=l.length) {a b:Int} (hen:getD' es i eE=(a,(b,()))) (ha:a≠3) (hb:1≤b∧b≤100000) (hro:qm r l[i]=0) (hne:qc r l[i]≠[]) {keep:Mv→Bool}
    (hk:∀t (ht:t<(qc r l[i]).length),∃c:Nat,(rowI nx i)[t]?=some (c:Int)∧c<l.length∧wantB es a (b-1) (c:Int)=keep (qc r l[i])[t]) :
    qQ (r,(l,(nx,(es,(m,()))))) l[i]=some ((r,(l,(nx,(es,(m,()))))),((qc r l[i]).filter keep,((0:Int),()))):=by
  have hv:=(h.pos hi).1;have hpos:=List.length_pos_iff.2 hne
  have hgp:getD' l (i:Int).toNat eP=l[i]:=by rw[Int.toNat_natCast];exact getP hi
  have hb1:=b1_spec (r:=r) (l:=l) (nx:=nx) (es:=es) (m:=m) (i:=i) (a:=a) (b:=b-1) (ms:=qc r l[i]) (keep:=keep) (by rw[h.ti.n];exact hi) (qS hv) (fun t ht=>by
    obtain⟨c,h1,h2,h3⟩:=hk t ht
    exact⟨c,h1,by rw[hel];exact h2,h3⟩)
  exact best_fact (h.find hr h0 hi) (qB _ _ hi) hgp (by rw[qaX hv,qev hro]) (beq_f (by omega)) (qB _ _ (by rw[hel];exact hi)) (by rw[Int.toNat_natCast];exact hen) (bne_t ha) (qk (by omega) (by omega)) hb1
end
section
variable {r : Rules} {l : List Place} {nx : List (List Int)} {es : List En} {m : Mp} {i : Int} {p : Place} {e : En}
theorem at_fact (hi:(decide (i<0)||decide (i≥((l.length:Nat):Int)))=false) (hin:inb i l.length=true) (hin2:inb i es.length=true) (hp:getD' l i.toNat eP=p) (hc:qbY p=some p) (he:getD' es i.toNat eE=e) :
    qah (r,(l,(nx,(es,(m,()))))) i=some ((r,(l,(nx,(es,(m,()))))),(p,(e,((0:Int),())))):=by
  obtain⟨p1,⟨p2,p3,⟨⟩⟩,⟨p4,p5,⟨⟩⟩⟩:=p;unfold qah;simp only[hi,cond_false,hin,qi,hp,hc,Option.bind_some,hin2,agree_self,he]
end
theorem Tab.at {r:Rules} {l:List Place} {nx:List (List Int)} {es:List En} {m:Mp} (h:Tab r l nx m) {i:Nat} (hi:i<l.length) (hel:es.length=l.length) :
    qah (r,(l,(nx,(es,(m,()))))) (i:Int)=some ((r,(l,(nx,(es,(m,()))))),(l[i],(getD' es i eE,((0:Int),())))):=by
  have hc:=qo2 (h.pos hi).1;exact at_fact (by rw[Bool.or_eq_false_iff];exact⟨decide_eq_false (by omega),decide_eq_false (by omega)⟩) (qB _ _ hi) (qB _ _ (by rw[hel];exact hi)) (by rw[Int.toNat_natCast];exact getP hi) hc (by rw[Int.toNat_natCast])
theorem qg5 (r:Rules) (l:List Place) (nx:List (List Int)) (es:List En) (m:Mp):qcr (r,(l,(nx,(es,(m,())))))=some ((r,(l,(nx,(es,(m,()))))),((l.length:Nat):Int)):=rfl
theorem pick_spec {a:Int} {n:Nat} (h0:n≠0) (hn:n≤500):∃k:Nat,qad a (n:Int)=some (k:Int)∧k<n:=by
  have e1:wu64 (n:Int)=(n:Int):=by
    show IntKind.wrap .u64 (n:Int)=n;rw[IntKind.wrap_u64];omega
  have h2:0≤wu64 a:=by
    show 0≤IntKind.wrap .u64 a;rw[IntKind.wrap_u64];omega
  have h3:0≤(wu64 a).tmod (n:Int):=Int.tmod_nonneg _ h2;have h4:(wu64 a).tmod (n:Int)<(n:Int):=Int.tmod_lt_of_pos _ (by omega);refine⟨((wu64 a).tmod (n:Int)).toNat,?_,by omega⟩;unfold qad;rw[e1,bne_t (by omega),qi,qk (by omega) (by omega)];congr 1;omega
theorem qnt:∀(l:List Int),l.length≤100→(∀x∈l,x=0)→qh l=some true:=by
  intro l hl hz
  have st:=qZ (f:=qay l) l.length (fun j=>(((j:Int),()),())) (.inl ((),())) (fun j hj=>by
    have hat:at? l (j:Int)=some l[j]:=by
      unfold at?;rw[show decide (0≤(j:Int))=true from decide_eq_true (by omega),cond_true,Int.toNat_natCast,List.getElem?_eq_getElem hj]
    unfold qay;simp only[qax l j hj,cond_true,hat,Option.bind_some];rw[bne_f (hz _ (List.getElem_mem hj)),cond_false,qk (by omega) (by omega)]
    rfl) (by
    unfold qay
    simp only[qbj,cond_false])
  unfold qh;have st':iterW (qay l) (((0:Int),()),())=some (.inl ((),())):=st;rw[st'];rfl
theorem qo8 (s:List Mv) (hs:s.length≤1000000):qbL s s=some true:=by
  have st:=qZ (f:=qa1 s s) s.length (fun j=>(((j:Int),()),())) (.inl ((),())) (fun j hj=>by
    have hat:at? s (j:Int)=some s[j]:=by
      unfold at?;rw[show decide (0≤(j:Int))=true from decide_eq_true (by omega),cond_true,Int.toNat_natCast,List.getElem?_eq_getElem hj]
    unfold qa1;simp only[qax s j hj,cond_true,hat,Option.bind_some];rw[beq_self_eq_true,beq_self_eq_true,beq_self_eq_true,qk (by omega) (by omega)]
    rfl) (by
    unfold qa1
    simp only[qbj,cond_false])
  unfold qbL;have st':iterW (qa1 s s) (((0:Int),()),())=some (.inl ((),())):=st;rw[bne_f rfl,cond_false,st'];rfl
end Go.Proofs.YtkkoolcdonhoaaaGreatDoor
namespace Go.Proofs.YtkkoolcdonhoaaaGreatDoor
open Go.Den
set_option linter.unusedVariables false
set_option linter.unusedSimpArgs false
set_option maxRecDepth 100000

def ps8 (picks:List Int):List Int:=(picks.take ((if (8:Int)<((picks.length:Nat):Int) then(8:Int) else((picks.length:Nat):Int))).toNat).drop 0
section
variable {picks : List Int} {r : Rules} {l : List Place} {nx : List (List Int)} {es : List En} {m : Mp} {j a k n e1 c0 : Int} {p : Place} {v : Int} {ms w : List Mv}
theorem l3_end (hj:decide (j<(((ps8 picks).length:Nat):Int))=false):qs picks r ((j,()),(flT r l nx es m,()))=some (.inr (.inl ((),(flT r l nx es m,())))):=by
  obtain⟨r1,r2,r3,r4,r5,r6,r7,r8,r9,r10,r11,⟨⟩⟩:=r;unfold ps8 at hj;simp only[flT];unfold qs;simp only[hj,cond_false]
theorem l3_skip (hj:decide (j<(((ps8 picks).length:Nat):Int))=true) (hat:at? (ps8 picks) j=some a) (hs:qad a ((l.length:Nat):Int)=some k)
    (hA:qah (r,(l,(nx,(es,(m,()))))) k=some ((r,(l,(nx,(es,(m,()))))),(p,((v,(n,())),((0:Int),()))))) (hM:qdu r p=some (ms,(e1,())))
    (hc:((((e1 !=(0:Int))||(decide (((ms.length:Nat):Int)>(12:Int))))||((n !=(1:Int))&&(n !=(3:Int))))||(!((v==(1:Int))==(p.2.2.1==(0:Int)))))=true) :
    qs picks r ((j,()),(flT r l nx es m,()))=some (.inl ((w64 (j+1),()),(flT r l nx es m,()))):=by
  have z:((0:Int)!=0)=false:=rfl;obtain⟨r1,r2,r3,r4,r5,r6,r7,r8,r9,r10,r11,⟨⟩⟩:=r;obtain⟨p1,⟨p2,p3,⟨⟩⟩,⟨p4,p5,⟨⟩⟩⟩:=p;unfold ps8 at hj hat;simp only[flT];unfold qs;simp only[hj,cond_true,hat,Option.bind_some,qg5,hs,hA,z,cond_false,hM,hc,Sum.elim_inl]
theorem qrj (hj:decide (j<(((ps8 picks).length:Nat):Int))=true) (hat:at? (ps8 picks) j=some a) (hs:qad a ((l.length:Nat):Int)=some k)
    (hA:qah (r,(l,(nx,(es,(m,()))))) k=some ((r,(l,(nx,(es,(m,()))))),(p,((v,(n,())),((0:Int),()))))) (hM:qdu r p=some (ms,(e1,())))
    (hc:((((e1 !=(0:Int))||(decide (((ms.length:Nat):Int)>(12:Int))))||((n !=(1:Int))&&(n !=(3:Int))))||(!((v==(1:Int))==(p.2.2.1==(0:Int)))))=false) (hP:qcu r p n=some 17) :
    qs picks r ((j,()),(flT r l nx es m,()))=some (.inl ((w64 (j+1),()),(flT r l nx es m,()))):=by
  have z:((0:Int)!=0)=false:=rfl;have z17:((17:Int)==17)=true:=rfl;obtain⟨r1,r2,r3,r4,r5,r6,r7,r8,r9,r10,r11,⟨⟩⟩:=r;obtain⟨p1,⟨p2,p3,⟨⟩⟩,⟨p4,p5,⟨⟩⟩⟩:=p;unfold ps8 at hj hat;simp only[flT];unfold qs;simp only[hj,cond_true,hat,Option.bind_some,qg5,hs,hA,z,cond_false,hM,hc,hP,z17,Sum.elim_inl]
theorem l3_hit (hj:decide (j<(((ps8 picks).length:Nat):Int))=true) (hat:at? (ps8 picks) j=some a) (hs:qad a ((l.length:Nat):Int)=some k)
    (hA:qah (r,(l,(nx,(es,(m,()))))) k=some ((r,(l,(nx,(es,(m,()))))),(p,((v,(n,())),((0:Int),()))))) (hM:qdu r p=some (ms,(e1,())))
    (hc:((((e1 !=(0:Int))||(decide (((ms.length:Nat):Int)>(12:Int))))||((n !=(1:Int))&&(n !=(3:Int))))||(!((v==(1:Int))==(p.2.2.1==(0:Int)))))=false) (hP:qcu r p n=some 0)
    (hB:qQ (r,(l,(nx,(es,(m,()))))) p=some ((r,(l,(nx,(es,(m,()))))),(w,((0:Int),())))) (hW:qae r p n=some (w,((0:Int),()))) (hL:qaO r p=some (n,((0:Int),()))) (hw:qbL w w=some true) :
    qs picks r ((j,()),(flT r l nx es m,()))=some (.inl ((w64 (j+1),()),(flT r l nx es m,()))):=by
  have z:((0:Int)!=0)=false:=rfl;have z17:((0:Int)==17)=false:=rfl;have hF:qh [(0:Int),0,0]=some true:=qnt _ (by decide) (by decide);have hn:(n !=n)=false:=bne_f rfl;have hg:gopt (!false) false (some true)=some true:=rfl;obtain⟨r1,r2,r3,r4,r5,r6,r7,r8,r9,r10,r11,⟨⟩⟩:=r;obtain⟨p1,⟨p2,p3,⟨⟩⟩,⟨p4,p5,⟨⟩⟩⟩:=p;unfold ps8 at hj hat;simp only[flT];unfold qs;simp only[hj,cond_true,hat,Option.bind_some,qg5,hs,hA,z,cond_false,hM,hc,hP,z17,hB,hW,hL,hF,hw,hg,hn,Bool.not_true,Bool.or_self,Sum.elim_inl]
end
theorem qmO {r:Rules} {p:Place} (h1:qP r p=0) {d:Nat} (hd:d≤2):qa3 r p (2*(d:Int)+1)=0∨qa3 r p (2*(d:Int)+1)=17:=by
  have hk:qe6 (2*(d:Int)+1)=true:=okDepth_iff.2 ⟨by omega,by omega⟩;by_cases c:50000<treeN r (2*(d:Int)+1).toNat p
  · exact .inr (qjy h1 hk c)
  · exact .inl (qgr h1 hk c)
theorem pz_eq {r:Rules} {p:Place} (h1:qP r p=0) (h0:qm r p=0) (d:Nat):pzErr r p d=qa3 r p (2*(d:Int)+1):=by
  unfold pzErr;rw[if_neg (by simp[h1]),if_neg (by simp[h0])]
section
variable {r : Rules} {l : List Place} {nx : List (List Int)} {m : Mp}
theorem drawM_len (es:List En):(drawM es).length=es.length:=List.length_map _
theorem l3_step (h:Tab r l nx m) (hr:Rng qb7 r) (h0:qaT r=0) {K:Nat} (hK:qaQ l nx (Es r l nx K)=[]) (hl0:l.length≠0) (hl:l.length≤500) (picks:List Int) {j:Nat} (hj:j<(ps8 picks).length) (hp8:(ps8 picks).length≤8) :
    qs picks r (((j:Int),()),(flT r l nx (drawM (Es r l nx K)) m,()))=some (.inl ((((j+1:Nat):Int),()),(flT r l nx (drawM (Es r l nx K)) m,()))):=by
  obtain⟨k,hs,hk⟩:=pick_spec (a:=(ps8 picks)[j]) hl0 hl
  have hel:(drawM (Es r l nx K)).length=l.length:=by rw[drawM_len];exact(Es_wf h.wf K).el
  have hA:=h.at hk hel (es:=drawM (Es r l nx K));have hv:=(h.pos hk).1;have hal:l[k].1.length≤64:=qch hv;have hpe:=qnZ hv h0;have hM:=qru r l[k] hr (by omega);rw[if_pos hpe,hpe] at hM;have hat:at? (ps8 picks) (j:Int)=some (ps8 picks)[j]:=atI hj
  have hw:w64 ((j:Int)+1)=((j+1:Nat):Int):=by rw[qk (by omega) (by omega)];omega
  rw[←hw];obtain⟨v,n,hen⟩:∃v n,getD' (drawM (Es r l nx K)) k eE=(v,(n,())):=⟨_,_,rfl⟩;rw[hen] at hA
  cases hc:((((0:Int)!=(0:Int))||(decide ((((qc r l[k]).length:Nat):Int)>(12:Int))))||((n !=(1:Int))&&(n !=(3:Int))))||(!((v==(1:Int))==(l[k].2.2.1==(0:Int)))) with
  | true=>exact l3_skip (qax _ _ hj) hat hs hA hM hc
  | false =>
    have htr:trn l k=l[k].2.2.1:=by unfold trn;rw[getP hk]
    have ht01:=h.wf.turn k hk;have hc':=hc;rw[Bool.or_eq_false_iff,Bool.or_eq_false_iff] at hc';obtain⟨⟨_,hn⟩,hvt⟩:=hc';have hn13:n=1∨n=3:=by
      rw[Bool.and_eq_false_iff] at hn;rcases hn with hn | hn
      · exact .inl (by simpa using hn)
      · exact .inr (by simpa using hn)
    have hvr:v=1+trn l k:=by
      have hj':∃i:Nat,n=((i+1:Nat):Int):=⟨(n-1).toNat,by omega⟩;obtain⟨i,hi⟩:=hj';rw[hi] at hen;have h1:=qjb h.wf hK hk hen;have h2:=qk7 (l:=l) (nx:=nx) (Es_wf h.wf i) hk;rw[h1.2] at h2;have hvt':((v==(1:Int))==(l[k].2.2.1==(0:Int)))=true:=by
        cases hb:((v==(1:Int))==(l[k].2.2.1==(0:Int))) with
        | true=>rfl
        | false=>rw[hb] at hvt;cases hvt
      rw[←htr] at hvt'
      have hvt2:(v==1)=(trn l k==0):=by simpa using hvt'
      rcases ht01 with t | t
      · rw[t] at hvt2
        have:v=1:=by simpa using hvt2
        omega
      · rw[t] at hvt2
        have:¬v=1:=by simpa using hvt2
        omega
    have hne3:v≠3:=by omega
    subst hvr;rcases hn13 with rfl | rfl
    · obtain⟨h1,h2,h3⟩:=h.win1 hK hk hen;have hne:qc r l[k]≠[]:=fun e=>h3 (by rw[e];rfl);have hB:=h.best hr h0 hk hel hen hne3 (by omega) h1 hne h2;have hP:=qir r l[k] hr (by omega) (d:=0) (by omega);have hW:=qd0 r l[k] hr (by omega) (d:=0) (by omega);rw[pz_eq hpe h1] at hP hW;rcases qmO hpe (d:=0) (by omega) with e | e
      · rw[e] at hP hW;exact l3_hit (qax _ _ hj) hat hs hA hM hc hP hB hW (least_1 hW h3) (qo8 _ (Nat.le_trans (List.length_filter_le _ _) (by have:=qS hv;omega)))
      · rw[e] at hP;exact qrj (qax _ _ hj) hat hs hA hM hc hP
    · obtain⟨h1,h2,h3,h4⟩:=h.win3 hK hk hen;have hne:qc r l[k]≠[]:=fun e=>h3 (by rw[e];rfl);have hB:=h.best hr h0 hk hel hen hne3 (by omega) h1 hne h2;have hP:=qir r l[k] hr (by omega) (d:=1) (by omega);have hW:=qd0 r l[k] hr (by omega) (d:=1) (by omega);have hW1:=qd0 r l[k] hr (by omega) (d:=0) (by omega);rw[pz_eq hpe h1] at hP hW hW1;rcases qmO hpe (d:=1) (by omega) with e | e
      · rw[e] at hP hW;have e1:qa3 r l[k] (2*((0:Nat):Int)+1)=0:=tree_13 e hpe;rw[e1,if_pos rfl,h4] at hW1;exact l3_hit (qax _ _ hj) hat hs hA hM hc hP hB hW (least_3 hW1 hW h3) (qo8 _ (Nat.le_trans (List.length_filter_le _ _) (by have:=qS hv;omega)))
      · rw[e] at hP;exact qrj (qax _ _ hj) hat hs hA hM hc hP
theorem l3_spec (h:Tab r l nx m) (hr:Rng qb7 r) (h0:qaT r=0) {K:Nat} (hK:qaQ l nx (Es r l nx K)=[]) (hl0:l.length≠0) (hl:l.length≤500) (picks:List Int) (hp8:(ps8 picks).length≤8) :
    iterW (qs picks r) (((0:Int),()),(flT r l nx (drawM (Es r l nx K)) m,()))=some (.inl ((),(flT r l nx (drawM (Es r l nx K)) m,()))):=by
  exact qZ (f:=qs picks r) (ps8 picks).length (fun j=>(((j:Int),()),(flT r l nx (drawM (Es r l nx K)) m,()))) (.inl ((),(flT r l nx (drawM (Es r l nx K)) m,()))) (fun j hj=>l3_step h hr h0 hK hl0 hl picks hj hp8) (l3_end (qbj _))
end
end Go.Proofs.YtkkoolcdonhoaaaGreatDoor
