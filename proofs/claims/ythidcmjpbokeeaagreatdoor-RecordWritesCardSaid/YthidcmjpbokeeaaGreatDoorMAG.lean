/- Several texts in one: CoreA, CoreB, GameP, CoreT, GameQ, TextP, TextQ, TextR, TextU, TextV, GameT, JoinT, RwA, RwB, RwC, RecA, AnnA, RecordM, RecB, RecC, AnnB, AnnC, RecD, AnnD. -/
import Derived.Test.YthidcmjpbokeeaaGreatDoorMAF
import Derived.Test.YthidcmjpbokeeaaGreatDoorMAE
import Derived.Lib.IndexLaws
import Derived.Lib.IndexBytes
import Derived.Lib.CountLaws
import Derived.Test.YthidcmjpbokeeaaGreatDoorMAA
namespace Go.Proofs.YthidcmjpbokeeaaGreatDoor
open Go.Den
set_option linter.unusedVariables false
set_option linter.unusedSimpArgs false
set_option maxRecDepth 100000

def qnT (p:Place) (m:Mv):Int:=2*m.2.2.1+p.turn+1
def cellsA (p:Place) (m:Mv):List Int:=(bif decide (m.1≥0) then p.1.set m.1.toNat 0 else p.1).set m.2.1.toNat (qnT p m)
def handD (m:Mv) (h:List Int):List Int:=bif decide (m.1≥0) then h else h.set m.2.2.1.toNat (h.getD m.2.2.1.toNat 0-1)
def handK (r:Rules) (c:Int) (h:List Int):List Int:=bif decide (c>0)&&r.keeps then h.set (qE c).toNat (if 1000<h.getD (qE c).toNat 0+1 then 1000 else h.getD (qE c).toNat 0+1) else h
def handA (r:Rules) (p:Place) (m:Mv) (h:List Int):List Int:=handK r (cellI p m.2.1) (handD m h)
def qoD (p:Place) (m:Mv):Int:=bif decide (cellI p m.2.1>0)||decide (m.1<0) then 0 else if 200<p.quiet+1 then 200 else p.quiet+1
def qm (r:Rules) (p:Place) (m:Mv):Place:=(cellsA p m,((bif p.turn==0 then handA r p m p.2.1.1 else p.2.1.1),(bif p.turn==0 then p.2.1.2.1 else handA r p m p.2.1.2.1),()),1-p.turn,qoD p m,())
theorem copy_spec {r:Rules} {p:Place} (h:Valid r p):qep p=some p:=by
  have h64:=qbV h;have ht:=h.r0.t6;have a0:p.2.1.1.length=r.pieces.length:=h.l0;have a1:p.2.1.2.1.length=r.pieces.length:=h.l1;unfold qep;rw[qfz p.1 (by omega),qfz p.2.1.1 (by omega),qfz p.2.1.2.1 (by omega)];simp only[Option.bind_some,agree_self]
theorem qO {r:Rules} {p:Place} {m:Mv} (ha:qh r p m=true):(-1≤m.1∧m.1<((p.1.length:Nat):Int))∧(0≤m.2.1∧m.2.1<((p.1.length:Nat):Int))∧(0≤m.2.2.1∧m.2.2.1<((r.pieces.length:Nat):Int)):=by
  unfold qh mvOk at ha;rw[Bool.and_eq_true,decide_eq_true_eq] at ha;exact ha.1
theorem qjr {r:Rules} {p:Place} {m:Mv} (ha:qh r p m=true) (hm:m.1 = -1):handI p m.2.2.1>0∧cellI p m.2.1=0:=by
  unfold qh putOk at ha;rw[beq_t hm,cond_true] at ha;simp only[Bool.and_eq_true,decide_eq_true_eq,beq_iff_eq] at ha;exact⟨ha.2.1,ha.2.2.1⟩
theorem qmM (m:Mv) (h:List Int):(handD m h).length=h.length:=by unfold handD;cases decide (m.1≥0)<;>simp
theorem qrW (r:Rules) (c:Int) (h:List Int):(handK r c h).length=h.length:=by unfold handK;cases (decide (c>0)&&r.keeps)<;>simp
theorem qmy {l:List Int} {b:Int} (hb:0≤b) (h:∀c∈l,0≤c∧c≤b) (i:Nat):0≤l.getD i 0∧l.getD i 0≤b:=by
  rw[List.getD_eq_getElem?_getD]
  cases e:l[i]? with
  | none=>simp;exact hb
  | some c=>exact h c (List.mem_of_getElem? e)
theorem qrK {r:Rules} {p:Place} {m:Mv} (h:Valid r p) (ha:qh r p m=true):∀c∈handD m (qcj p),0≤c∧c≤1000:=by
  have hr:=qty h;unfold handD
  cases hd:decide (m.1≥0) with
  | true=>exact hr
  | false =>
    intro c hc;rw[cond_false] at hc
    have hm:m.1 = -1:=by have:=(qO ha).1.1;simp at hd;omega
    have hp:=(qjr ha hm).1;have hg:=qmy (by omega) hr m.2.2.1.toNat;rcases List.mem_or_eq_of_mem_set hc with h1 | h1
    · exact hr c h1
    · unfold handI at hp;omega
theorem handK_rng {r:Rules} {c:Int} {h:List Int} (hh:∀x∈h,0≤x∧x≤1000):∀x∈handK r c h,0≤x∧x≤1000:=by
  unfold handK
  cases (decide (c>0)&&r.keeps) with
  | false=>exact hh
  | true =>
    intro x hx;have hg:=qmy (by omega) hh (qE c).toNat;rcases List.mem_or_eq_of_mem_set hx with h1 | h1
    · exact hh x h1
    · rw[h1];split<;>omega
theorem qrl {r:Rules} {p:Place} {m:Mv} (hv:Valid r p) (ha:qh r p m=true) (l:List Int) (hl:l=qcj p) :
    (decide (m.1≥0)=false→inb m.2.2.1 l.length=true∧w64 (getD' l m.2.2.1.toNat 0-1)=l.getD m.2.2.1.toNat 0-1) ∧
    (decide (cellI p m.2.1>0)=true→inb (qE (cellI p m.2.1)) (handD m l).length=true∧w64 (getD' (handD m l) (qE (cellI p m.2.1)).toNat 0+1)=(handD m l).getD (qE (cellI p m.2.1)).toNat 0+1):=by
  subst hl;have hr:=qty hv;have hl:=qmC hv;obtain⟨r1,r2,r3⟩:=qO ha;refine⟨fun _=>⟨inb_iff.2 ⟨r3.1,by rw[hl];exact r3.2⟩,?_⟩,fun hc=>⟨?_,?_⟩⟩
  · have:=qmy (by omega) hr m.2.2.1.toNat;exact qe (by show _≤(qcj p).getD m.2.2.1.toNat 0-1;omega) (by show(qcj p).getD m.2.2.1.toNat 0-1≤_;omega)
  · have hk:=qcP hv (of_decide_eq_true hc);exact inb_iff.2 ⟨hk.2.1,by rw[qmM,hl];exact hk.2.2⟩
  · have:=qmy (by omega) (qrK hv ha) (qE (cellI p m.2.1)).toNat;exact qe (by show _≤(handD m (qcj p)).getD (qE (cellI p m.2.1)).toNat 0+1;omega) (by show(handD m (qcj p)).getD (qE (cellI p m.2.1)).toNat 0+1≤_;omega)
theorem qgc {r:Rules} {p:Place} {m:Mv} (h:Valid r p) (ha:qh r p m=true):qo r p m=some (qm r p m):=by
  obtain⟨r1,r2,r3⟩:=qO ha;have ht6:=h.r0.t6;have hq:=h.quiet;have htn:=h.turn;have h64:=qbV h;have hto:inb m.2.1 p.1.length=true:=inb_iff.2 r2;have wv:w64 (w64 (w64 (2*m.2.2.1)+p.2.2.1)+1)=qnT p m:=by
    unfold qnT;rw[show p.2.2.1=p.turn from rfl,qe (n:=2*m.2.2.1) (by omega) (by omega),qe (n:=2*m.2.2.1+p.turn) (by omega) (by omega),qe (by omega) (by omega)]
  have wq:w64 (p.2.2.2.1+1)=p.quiet+1:=qe (by show _≤p.quiet+1;omega) (by show p.quiet+1≤_;omega);have wt:w64 (1-p.2.2.1)=1-p.turn:=(turn_w h).1;have hcell:getD' p.1 m.2.1.toNat 0=cellI p m.2.1:=rfl;have hin:inb p.2.2.1 2=true:=inb_iff.2 (by show 0≤p.turn∧p.turn<((2:Nat):Int);omega);have wk:decide (cellI p m.2.1>0)=true→w64 ((w64 (cellI p m.2.1-1)).tdiv 2)=qE (cellI p m.2.1):=fun hc=>(qcP h (of_decide_eq_true hc)).1;have hho:qcj p=if p.turn=0 then p.2.1.1 else p.2.1.2.1:=qkx h;have hneg:decide (m.1<0) = !decide (m.1≥0):=by
    rw[Bool.eq_iff_iff];simp only[decide_eq_true_eq,Bool.not_eq_true',decide_eq_false_iff_not];omega
  unfold qo qm;rw[copy_spec h,Option.bind_some];simp only[hcell,hto,qa,wv,wq,wt,hin,hneg];rcases htn with e | e
  · have e':p.2.2.1=0:=e;rw[if_pos e] at hho;obtain⟨k1,k2⟩:=qrl h ha p.2.1.1 hho.symm;simp only[e',e,show((0:Int)==0)=true from rfl,cond_true];unfold handA cellsA qoD handK;simp only[hneg]
    cases hd:decide (m.1≥0) with
    | true =>
      have hf:inb m.1 p.1.length=true:=inb_iff.2 ⟨of_decide_eq_true hd,r1.2⟩
      have hD:handD m p.2.1.1=p.2.1.1:=by unfold handD;rw[hd];rfl
      rw[hD] at k2 ⊢;simp only[cond_true,hf,qa,Option.bind_some,List.length_set,hto]
      cases hc:decide (cellI p m.2.1>0) with
      | false=>rfl
      | true =>
        obtain⟨k3,k4⟩:=k2 hc
        cases hk:r.2.2.2.2.2.2.1 with
        | false=>rw[show r.keeps=false from hk];rfl
        | true =>
          rw[show r.keeps=true from hk];simp only[Bool.true_and,cond_true,wk hc,k3,qa,k4,Option.bind_some];rfl
    | false =>
      obtain⟨k5,k6⟩:=k1 hd
      have hD:handD m p.2.1.1=p.2.1.1.set m.2.2.1.toNat (p.2.1.1.getD m.2.2.1.toNat 0-1):=by unfold handD;rw[hd];rfl
      have hz:decide (cellI p m.2.1>0)=false:=by
        have:=(qjr ha (by simp at hd;omega)).2;rw[this];rfl
      rw[hD];simp only[cond_false,k5,k6,qa,Option.bind_some,hz,Bool.false_and,hto];rfl
  · have e':p.2.2.1=1:=e;rw[if_neg (by omega)] at hho;obtain⟨k1,k2⟩:=qrl h ha p.2.1.2.1 hho.symm;simp only[e',e,show((1:Int)==0)=false from rfl,cond_false];unfold handA cellsA qoD handK;simp only[hneg]
    cases hd:decide (m.1≥0) with
    | true =>
      have hf:inb m.1 p.1.length=true:=inb_iff.2 ⟨of_decide_eq_true hd,r1.2⟩
      have hD:handD m p.2.1.2.1=p.2.1.2.1:=by unfold handD;rw[hd];rfl
      rw[hD] at k2 ⊢;simp only[cond_true,hf,qa,Option.bind_some,List.length_set,hto]
      cases hc:decide (cellI p m.2.1>0) with
      | false=>rfl
      | true =>
        obtain⟨k3,k4⟩:=k2 hc
        cases hk:r.2.2.2.2.2.2.1 with
        | false=>rw[show r.keeps=false from hk];rfl
        | true =>
          rw[show r.keeps=true from hk];simp only[Bool.true_and,cond_true,wk hc,k3,qa,k4,Option.bind_some];rfl
    | false =>
      obtain⟨k5,k6⟩:=k1 hd
      have hD:handD m p.2.1.2.1=p.2.1.2.1.set m.2.2.1.toNat (p.2.1.2.1.getD m.2.2.1.toNat 0-1):=by unfold handD;rw[hd];rfl
      have hz:decide (cellI p m.2.1>0)=false:=by
        have:=(qjr ha (by simp at hd;omega)).2;rw[this];rfl
      rw[hD];simp only[cond_false,k5,k6,qa,Option.bind_some,hz,Bool.false_and,hto];rfl
theorem qsJ {r:Rules} {p:Place} {m:Mv} (h:Valid r p) (ha:qh r p m=true):Valid r (qm r p m):=by
  obtain⟨r1,r2,r3⟩:=qO ha;have htn:=h.turn;have hq:=h.quiet;have hK:=handK_rng (r:=r) (c:=cellI p m.2.1) (qrK h ha);have hho:=qkx h;refine⟨h.r0,?_,?_,?_,?_,?_,?_,?_,?_⟩
  · show((((bif decide (m.1≥0) then p.1.set m.1.toNat 0 else p.1).set m.2.1.toNat (qnT p m)).length:Nat):Int)=_
    have:((bif decide (m.1≥0) then p.1.set m.1.toNat 0 else p.1).set m.2.1.toNat (qnT p m)).length=p.1.length:=by cases decide (m.1≥0)<;>simp
    rw[this];exact h.cells
  · show(bif p.turn==0 then handA r p m p.2.1.1 else p.2.1.1).length=_;cases (p.turn==0)
    · exact h.l0
    · rw[cond_true];unfold handA;rw[qrW,qmM];exact h.l0
  · show(bif p.turn==0 then p.2.1.2.1 else handA r p m p.2.1.2.1).length=_;cases (p.turn==0)
    · rw[cond_false];unfold handA;rw[qrW,qmM];exact h.l1
    · exact h.l1
  · intro c hc;have hc:c∈(bif decide (m.1≥0) then p.1.set m.1.toNat 0 else p.1).set m.2.1.toNat (qnT p m):=hc;rcases List.mem_or_eq_of_mem_set hc with h1 | h1
    · cases hd:decide (m.1≥0) with
      | false=>rw[hd,cond_false] at h1;exact h.cell c h1
      | true =>
        rw[hd,cond_true] at h1;rcases List.mem_or_eq_of_mem_set h1 with h2 | h2
        · exact h.cell c h2
        · have:=h.r0.t1;omega
    · rw[h1];unfold qnT;omega
  · intro c hc;have hc:c∈(bif p.turn==0 then handA r p m p.2.1.1 else p.2.1.1):=hc;rcases htn with e | e
    · rw[beq_t e,cond_true] at hc;rw[if_pos e] at hho;have hc:c∈handK r (cellI p m.2.1) (handD m p.h0):=hc;rw[←hho] at hc;exact hK c hc
    · rw[beq_f (by omega),cond_false] at hc;exact h.hand0 c hc
  · intro c hc;have hc:c∈(bif p.turn==0 then p.2.1.2.1 else handA r p m p.2.1.2.1):=hc;rcases htn with e | e
    · rw[beq_t e,cond_true] at hc;exact h.hand1 c hc
    · rw[beq_f (by omega),cond_false] at hc;rw[if_neg (by omega)] at hho;have hc:c∈handK r (cellI p m.2.1) (handD m p.h1):=hc;rw[←hho] at hc;exact hK c hc
  · show 1-p.turn=0∨1-p.turn=1;omega
  · show 0≤qoD p m∧qoD p m≤200;unfold qoD;cases (decide (cellI p m.2.1>0)||decide (m.1<0))
    · rw[cond_false];split<;>omega
    · simp

def qjC (r:Rules):List Int:=r.2.2.2.1.map fun x=>x.2.1
def qx (r:Rules):Place:=(r.2.2.2.2.1,(qjC r,qjC r,()),0,0,())
theorem qnA {r:Rules} (h:VR0 r):Valid r (qx r):=by
  have hh:∀c∈qjC r,0≤c∧c≤1000:=fun c hc=>by
    obtain⟨x,hx,rfl⟩:=List.mem_map.1 hc;have:=h.hand x hx;omega
  have hl:(qjC r).length=r.pieces.length:=by unfold qjC;simp
  exact⟨h,h.start,hl,hl,h.startC,hh,hh,.inl rfl,by show(0:Int)≤0∧(0:Int)≤200;omega⟩
theorem map_take {A B:Type} (l:List A) (f:A→B) (i:Nat) (hi:i<l.length):(l.take (i+1)).map f=(l.take i).map f++[f l[i]]:=by
  rw[List.take_succ_eq_append_getElem hi,List.map_append];rfl
theorem qhQ (r:Rules) (hr:Rng qR r):qch r=some (if qu r=0 then(qx r,0,()) else(([],([],[],()),0,0,()),qu r,())):=by
  unfold qch;rw[qhS r hr,Option.bind_some];by_cases c:qu r=0
  · have h:=qcb c;have hs:((r.2.2.2.2.1.length:Nat):Int)=r.width*r.height:=h.start;have ha:=h.area;have ht:r.2.2.2.1.length≤6:=h.t6;rw[bne_f c,cond_false,if_pos c,qfz _ (by omega),Option.bind_some]
    have hL:=qbD (f:=qcu r) r.2.2.2.1.length (fun i=>(((i:Int),()),((r.2.2.2.2.1,((r.2.2.2.1.take i).map (fun x=>x.2.1),((r.2.2.2.1.take i).map (fun x=>x.2.1),((0:Int),((0:Int),()))))),()))) ((),((r.2.2.2.2.1,(qjC r,(qjC r,((0:Int),((0:Int),()))))),())) (fun i hi=>by
      unfold qcu;simp only[show decide ((i:Int)<((r.2.2.2.1.length:Nat):Int))=true by simp;omega,cond_true];rw[at?_eq _ _ (by omega) (by omega),Option.bind_some];simp only[Int.toNat_natCast];have hroom:∀z:Int,room (((r.2.2.2.1.take i).map (fun x=>x.2.1)).length+[z].length) 8=true:=fun z=>qae (by simp;omega);simp only[hroom,qa,agree_self,Option.bind_some];rw[qe (n:=(i:Int)+1) (by omega) (by omega),map_take _ _ i hi]
      rfl) (by
      unfold qcu;simp only[show decide (((r.2.2.2.1.length:Nat):Int)<((r.2.2.2.1.length:Nat):Int))=false by simp,cond_false,List.take_length]
      rfl)
    have hL':iterW (qcu r) (((0:Int),()),((r.2.2.2.2.1,(([]:List Int),(([]:List Int),((0:Int),((0:Int),()))))),()))=_:=hL;rw[hL',Option.bind_some];rfl
  · rw[bne_t c,cond_true,if_neg c]
theorem qlg (s:List Mv) (v:Mv) (hs:s.length≤1000000000):qw s v=some (decide (v∈s)):=by
  unfold qw qdO
  have hL:=qo0 s.length (qba s v) (fun i=>if v=s.getD i d0 then some (.inr (i:Int)) else none) (.inl ((),())) (fun i hi=>by
    unfold qba;simp only[show decide ((i:Int)<((s.length:Nat):Int))=true by simp;omega,cond_true];rw[at?_eq s _ (by omega) (by omega),Option.bind_some,qe (n:=(i:Int)+1) (by omega) (by omega)];simp only[Int.toNat_natCast,List.getD_eq_getElem?_getD,List.getElem?_eq_getElem hi,Option.getD_some,mv_beq];by_cases e:v=s[i]
    · simp[e]
    · simp[e]) (by unfold qba;simp)
  rw[hL];have key:∀k i,i+k=s.length→(Option.bind (Option.bind (some (scan (fun i=>if v=s.getD i d0 then some (Sum.inr (i:Int)) else none) (Sum.inl ((),())) i k)) (Sum.elim (fun _:Unit×Unit=>some (-1:Int)) some)) fun r2=>some (decide (r2≥(0:Int))))=some (decide (v∈s.drop i)):=by
    intro k
    induction k with
    | zero =>
      intro i hi;rw[show i=s.length by omega,List.drop_length];simp[scan]
    | succ k ih =>
      intro i hi
      have hil:i<s.length:=by omega
      have hmem:(v∈s.drop i)↔v=s[i]∨v∈s.drop (i+1):=by rw[List.drop_eq_getElem_cons hil,List.mem_cons]
      unfold scan
      have hg:s.getD i d0=s[i]:=by simp[List.getD_eq_getElem?_getD,hil]
      by_cases e:v=s[i]
      · rw[decide_eq_true (hmem.2 (.inl e))];simp only[hg,if_pos e,Option.bind_some,Sum.elim_inr];simp
      · simp only[hg,if_neg e];rw[ih (i+1) (by omega)];have h2:(v∈s.drop (i+1))↔v∈s.drop i:=⟨fun h=>hmem.2 (.inr h),fun h=>(hmem.1 h).resolve_left e⟩;simp only[h2]
  have:=key s.length 0 (by omega);simpa using this
theorem qeB {r:Rules} {p:Place} (h:Valid r p):(qag r p).length≤100000:=by
  have h64:=qbV h;refine Nat.le_trans (qbI _ 384 _ fun i _=>at1_len h i) ?_;rw[List.length_range];omega

theorem qso (r:Rules):(r.1,(r.2.1,(r.2.2.1,(r.2.2.2.1,(r.2.2.2.2.1,(r.2.2.2.2.2.1,(r.2.2.2.2.2.2.1,(r.2.2.2.2.2.2.2.1,(r.2.2.2.2.2.2.2.2.1,(r.2.2.2.2.2.2.2.2.2.1,(r.2.2.2.2.2.2.2.2.2.2.1,())))))))))))=r:=rfl
theorem pl_eta (p:Place):(p.1,((p.2.1.1,(p.2.1.2.1,())),p.2.2))=p:=rfl
theorem gd_eq {A:Type} (xs:List A) (i:Nat) (hi:i<xs.length) (d:A):getD' xs i d=xs[i]:=by simp[getD',hi]
theorem ltd {A:Type} (xs:List A) (i:Nat) (hi:i<xs.length):decide ((i:Int)<((xs.length:Nat):Int))=true:=by simp;omega
theorem nltd {A:Type} (xs:List A):decide (((xs.length:Nat):Int)<((xs.length:Nat):Int))=false:=by simp
theorem inbN {A:Type} (xs:List A) (i:Nat) (hi:i<xs.length):inb (i:Int) xs.length=true:=inb_iff.2 ⟨by omega,by omega⟩
theorem qs1 (a b:List Int) (ha:a.length≤1000000000):qa0 a b=some (decide (a=b)):=by
  unfold qa0;by_cases hl:a.length=b.length
  · have e:(((a.length:Nat):Int)!=((b.length:Nat):Int))=false:=bne_f (by omega);rw[e,cond_false]
    have hL:=qY (List.range a.length) (fun i=>a.getD i 0 !=b.getD i 0) (qbo a b) (.inr false) (.inl ((),())) (fun i hi=>by
      have hi':i<a.length:=by simpa using hi
      unfold qbo;simp only[show decide ((i:Int)<((a.length:Nat):Int))=true by simp;omega,cond_true,List.getElem_range];rw[at?_eq a _ (by omega) (by omega),at?_eq b _ (by omega) (by omega),Option.bind_some,Option.bind_some,qe (n:=(i:Int)+1) (by omega) (by omega)];simp only[Int.toNat_natCast,List.getD_eq_getElem?_getD,List.getElem?_eq_getElem hi',List.getElem?_eq_getElem (show i<b.length by omega),Option.getD_some]
      cases (a[i]!=b[i])<;>rfl) (by unfold qbo;simp)
    rw[hL]
    cases hany:(List.range a.length).any (fun i=>a.getD i 0 !=b.getD i 0) with
    | true =>
      rw[List.any_eq_true] at hany;obtain⟨i,_,h⟩:=hany
      have:¬a=b:=fun e=>by subst e;simp at h
      simp[this]
    | false =>
      rw[List.any_eq_false] at hany;have:a=b:=by
        apply List.ext_getElem hl;intro i h1 h2;have:=hany i (List.mem_range.2 h1);simpa[List.getD_eq_getElem?_getD,h1,h2] using this
      simp[this]
  · have e:(((a.length:Nat):Int)!=((b.length:Nat):Int))=true:=bne_t (by omega);rw[e,cond_true];have:¬a=b:=fun h=>hl (by rw[h]);simp[this]
def same0 (p q:Place):Bool:=((decide (p.1=q.1)&&decide (p.2.1.1=q.2.1.1))&&decide (p.2.1.2.1=q.2.1.2.1))&&(p.2.2.1==q.2.2.1)
theorem qqQ {r:Rules} {p q:Place} (h:Valid r p):qcO p q=some (same0 p q):=by
  have h64:=qbV h;have t6:=h.r0.t6;have l0:p.2.1.1.length=r.pieces.length:=h.l0;have l1:p.2.1.2.1.length=r.pieces.length:=h.l1;unfold qcO same0;rw[qs1 _ _ (by omega),qs1 _ _ (by omega),qs1 _ _ (by omega)]
  have hg:∀b c:Bool,gopt b false (some c)=some (b&&c):=fun b c=>by cases b<;>rfl
  simp only[hg,Option.bind_some,Option.some.injEq]
  cases decide (p.1=q.1)<;>cases decide (p.2.1.1=q.2.1.1)<;>cases decide (p.2.1.2.1=q.2.1.2.1)<;>cases (p.2.2.1==q.2.2.1)<;>rfl
theorem quV {r:Rules} {p:Place} (h:Valid r p):qep p=some p:=by
  have h64:=qbV h;have t6:=h.r0.t6;have l0:p.2.1.1.length=r.pieces.length:=h.l0;have l1:p.2.1.2.1.length=r.pieces.length:=h.l1;unfold qep;simp only[agree_self];rw[qfz _ (by omega),Option.bind_some,qfz _ (by omega),Option.bind_some,qfz _ (by omega)];rfl
theorem qvm (s:List (Int×Int×Int×Int×Unit)) (h:s.length≤1000000):qa9 s=some s:=by
  unfold qa9;have:room (([]:List (Int×Int×Int×Int×Unit)).length+s.length) 32=true:=qae (by simp;omega);rw[this]
  cases s with
  | nil=>simp[qa,agree_self]
  | cons a l=>simp[qa]
theorem qvf (s:List (Int×Int×Int×Bool×Unit)) (h:s.length≤1000000):qaD s=some s:=by
  unfold qaD;have:room (([]:List (Int×Int×Int×Bool×Unit)).length+s.length) 32=true:=qae (by simp;omega);rw[this]
  cases s with
  | nil=>simp[qa,agree_self]
  | cons a l=>simp[qa]
theorem quM {r:Rules} (h:VR0 r):qf7 r=some r:=by
  have t6:r.2.2.2.1.length≤6:=h.t6;have e6:r.2.2.2.2.2.2.2.1.length≤6:=h.ends6;have hs:((r.2.2.2.2.1.length:Nat):Int)=r.width*r.height:=h.start;have ha:=h.area;unfold qf7;simp only[agree_self]
  have hL:=qbD (f:=qdE r) r.2.2.2.1.length (fun i=>(((i:Int),()),((r.1,(r.2.1,(r.2.2.1,(r.2.2.2.1.take i,r.2.2.2.2)))),()))) ((),((r.1,(r.2.1,(r.2.2.1,(r.2.2.2.1,r.2.2.2.2)))),())) (fun i hi=>by
    unfold qdE;simp only[show decide ((i:Int)<((r.2.2.2.1.length:Nat):Int))=true by simp;omega,cond_true];rw[at?_eq _ _ (by omega) (by omega),Option.bind_some];simp only[Int.toNat_natCast];rw[qvm _ (by have:r.2.2.2.1[i].2.2.2.1.length≤16:=h.ways _ (List.getElem_mem hi);omega),Option.bind_some];have hroom:∀z:Piece,room ((r.2.2.2.1.take i).length+[z].length) 48=true:=fun z=>qae (by simp;omega);rw[hroom,qa,qe (n:=(i:Int)+1) (by omega) (by omega),List.take_succ_eq_append_getElem hi]
    rfl) (by
    unfold qdE
    simp only[show decide (((r.2.2.2.1.length:Nat):Int)<((r.2.2.2.1.length:Nat):Int))=false by simp,cond_false,List.take_length])
  have hL':iterW (qdE r) (((0:Int),()),((r.1,(r.2.1,(r.2.2.1,(([]:List Piece),r.2.2.2.2)))),()))=_:=hL;rw[hL',Option.bind_some,qfz _ (by omega),Option.bind_some,qvf _ (by omega)];rfl
theorem qmB {r:Rules} {p:Place} (c:qu r=0) (h:Valid r p):qaa r p=0:=by
  unfold qaa;rw[if_neg (by simp[c])];have h1:qjk r p=false:=by
    unfold qjk;rw[bne_f h.cells,bne_f (by have:=h.l0;omega),bne_f (by have:=h.l1;omega)];rfl
  have h2:qgt r p=false:=by
    unfold qgt;have a1:p.cells.any (outC r)=false:=by
      rw[List.any_eq_false];intro x hx;have:=h.cell x hx;simp[outC];omega
    have a2:(p.h0++p.h1).any outH=false:=by
      rw[List.any_eq_false];intro x hx;have:0≤x∧x≤1000:=(List.mem_append.1 hx).elim (h.hand0 x) (h.hand1 x);simp[outH];omega
    have a3:outT p=false:=by
      have hq:=h.quiet;have ht:=h.turn;simp[outT];omega
    rw[a1,a2,a3];rfl
  rw[h1,h2];rfl
def dP:Place:=([],(([],([],())),((0:Int),((0:Int),()))))
def lastP (l:List Place):Place:=getD' l (l.length-1) dP
def qgl (l:List Place):Nat:=l.countP fun p=>same0 p (lastP l)
def qdM (r:Rules) (l:List Place):Int:=bif ((qaJ r (lastP l)==0)&&(r.repeats !=0))&&decide (((qgl l:Nat):Int)≥r.repeats) then 3 else qaJ r (lastP l)
structure OKG (r:Rules) (s:List Place×List Mv):Prop where
  ok:qu r=0
  all:∀p∈s.1,Valid r p
  len:s.1.length=s.2.length+1
  most:s.2.length≤400
theorem qut {l:List Place} (h:0<l.length):lastP l∈l:=by
  unfold lastP;rw[gd_eq l (l.length-1) (by omega)];exact List.getElem_mem _
theorem OKG.last {r:Rules} {s:List Place×List Mv} (h:OKG r s):Valid r (lastP s.1):=h.all _ (qut (by have:=h.len;omega))
def stepG (r:Rules) (s:List Place×List Mv) (m:Mv):Int:=if qdM r s.1=0 then if qh r (lastP s.1) m=true then if s.2.length=400 then 9 else 0 else 13 else 14
def nextG (r:Rules) (s:List Place×List Mv) (m:Mv):List Place×List Mv:=(s.1++[qm r (lastP s.1) m],s.2++[m])
theorem qpM {r:Rules} {s:List Place×List Mv} {m:Mv} (h:OKG r s) (c:stepG r s m=0):OKG r (nextG r s m):=by
  unfold stepG at c;by_cases c1:qdM r s.1=0
  · rw[if_pos c1] at c;by_cases c2:qh r (lastP s.1) m=true
    · rw[if_pos c2] at c;by_cases c3:s.2.length=400
      · rw[if_pos c3] at c;cases c
      · have hl:=h.len;have hm:=h.most;refine⟨h.ok,fun p hp=>?_,by unfold nextG;simp;omega,by unfold nextG;simp;omega⟩;rcases List.mem_append.1 hp with hp | hp
        · exact h.all p hp
        · rw[List.mem_singleton.1 hp];exact qsJ h.last c2
    · rw[if_neg c2] at c;cases c
  · rw[if_neg c1] at c;cases c
noncomputable def cntF (L:List Place) (c i:Int):Option (((Int×Int×Unit)×Unit) ⊕ ((Int×Unit)×Unit)) :=
  bif (decide (i<((L.length:Nat):Int))) then(req (inb i L.length) (Option.bind (req (inb (w64 (((L.length:Nat):Int)-1)) L.length) (Option.bind (qcO (getD' L i.toNat dP) (getD' L (w64 (((L.length:Nat):Int)-1)).toNat dP)) fun x=>some ((x,()),()))) fun x:(Bool×Unit)×Unit =>
    Option.bind (bif x.1.1 then some ((w64 (c+1),()),()) else some ((c,()),())) fun y:(Int×Unit)×Unit=>some (Sum.inl ((y.1.1,w64 (i+1),()),()))))
  else some (Sum.inr ((c,()),()))
theorem qlT {A:Type} {L:List A} (h0:0<L.length) (h:L.length≤1000000000):w64 (((L.length:Nat):Int)-1)=((L.length-1:Nat):Int):=by
  rw[qe (by omega) (by omega)];omega
abbrev Game:=Rules×List Place×List Mv×Unit
theorem atP {L:List Place} (h0:0<L.length):at? L ((L.length-1:Nat):Int)=some (lastP L):=by
  rw[at?_eq _ _ (by omega) (by omega)];unfold lastP;rw[gd_eq L _ (by omega)];simp
theorem qte {r:Rules} {s:List Place×List Mv} (h:OKG r s):qdf (r,(s.1,(s.2,())))=some ((qgl s.1:Nat):Int):=by
  obtain⟨l,ms⟩:=s;have hl:l.length=ms.length+1:=h.len;have hm:ms.length≤400:=h.most;have hw:=qlT (L:=l) (by omega) (by omega)
  have:=qlm l (fun p=>same0 p (lastP l)) (qbO (r,(l,(ms,())))) (fun c=>((c,()),())) (fun i hi c hc0 hc1=>by
    unfold qbO;simp only[agree_self];rw[ltd l i hi,cond_true,at?_eq l _ (by omega) (by omega),Option.bind_some,hw,atP (by omega),Option.bind_some];simp only[Int.toNat_natCast];rw[qqQ (h.all _ (List.getElem_mem hi)),Option.bind_some,Option.bind_some];show Option.bind (bif same0 l[i] (lastP l) then _ else _) _=_;rw[qe (n:=c+1) (by omega) (by omega),qe (n:=(i:Int)+1) (by omega) (by omega)];cases same0 l[i] (lastP l)<;>rfl) (fun c=>by
    unfold qbO;simp only
    rw[nltd,cond_false])
  unfold qdf;rw[this];rfl
theorem qlD {r:Rules} {s:List Place×List Mv} (h:OKG r s):qa4 (r,(s.1,(s.2,())))=some (qdM r s.1):=by
  have hl:=h.len;have hm:=h.most;have hw:=qlT (L:=s.1) (by omega) (by omega);have hrep:r.2.2.2.2.2.2.2.2.2.2.1=r.repeats:=rfl;unfold qa4;simp only[agree_self,hw,atP (show 0<s.1.length by omega),qjq h.last,Option.bind_some,qte h,hrep];unfold qdM
  cases hc:((qaJ r (lastP s.1)==0)&&(r.repeats !=0)) with
  | true =>
    simp only[gopt,cond_true,Option.bind_some,Bool.true_and]
    cases decide (((qgl s.1:Nat):Int)≥r.repeats)<;>rfl
  | false=>rfl
theorem qoo {r:Rules} {s:List Place×List Mv} (h:OKG r s):qaZ (r,(s.1,(s.2,())))=some (lastP s.1):=by
  have hl:=h.len;have hm:=h.most;have hw:=qlT (L:=s.1) (by omega) (by omega);unfold qaZ;simp only[hw,atP (show 0<s.1.length by omega),quV h.last,Option.bind_some,pl_eta]
theorem play_spec {r:Rules} {s:List Place×List Mv} (h:OKG r s) (m:Mv):qcC (r,(s.1,(s.2,()))) m=some (if stepG r s m=0 then((r,((nextG r s m).1,((nextG r s m).2,()))),0) else((r,(s.1,(s.2,()))),stepG r s m)):=by
  obtain⟨l,ms⟩:=s;have hl:l.length=ms.length+1:=h.len;have hm:ms.length≤400:=h.most;have hv:=h.last;simp only at hv;have hw:=qlT (L:=l) (by omega) (by omega);have hi:=inbN l (l.length-1) (by omega);have hla:getD' l (l.length-1) (([],(([],([],())),((0:Int),((0:Int),())))):Place)=lastP l:=rfl;have hres:=qlD h;simp only at hres;unfold qcC;simp only[agree_self,hw,hi,qa,Int.toNat_natCast,hla,hres,Option.bind_some];unfold stepG;by_cases c1:qdM r l=0
  · rw[bne_f c1,cond_false];simp only[if_pos c1];rw[qj9 hv,Option.bind_some,qlg _ _ (by have:=qeB hv;omega),Option.bind_some,Option.bind_some]
    have hmem:decide (m∈qag r (lastP l))=qh r (lastP l) m:=by rw[Bool.eq_iff_iff,decide_eq_true_eq,qaS]
    rw[hmem];by_cases c2:qh r (lastP l) m=true
    · simp only[if_pos c2];rw[c2,Bool.not_true,cond_false];by_cases c3:ms.length=400
      · rw[beq_t (by omega),cond_true];simp only[if_pos c3];rfl
      · rw[beq_f (by omega),cond_false,qgc hv c2,Option.bind_some];simp only[if_neg c3,if_true];have hroom:∀z:Place,room (l.length+[z].length) 88=true:=fun z=>qae (by simp;omega);have hroom2:room (ms.length+[m].length) 24=true:=qae (by simp;omega);rw[hroom,qa,Option.bind_some];simp only;rw[hroom2,qa];rfl
    · simp only[if_neg c2];rw[show qh r (lastP l) m=false by simpa using c2];rfl
  · rw[bne_t c1,cond_true];simp only[if_neg c1];rfl
def runG (r:Rules):List Mv→List Place×List Mv→(List Place×List Mv) ⊕ Int
  | [],s => .inl s
  | m::k,s=>if stepG r s m=0 then runG r k (nextG r s m) else .inr (stepG r s m)
theorem run_ok {r:Rules}:∀(k:List Mv) (s s':List Place×List Mv),OKG r s→runG r k s = .inl s'→OKG r s'∧s'.2=s.2++k
  | [],s,s',h,e=>by cases e;exact⟨h,by simp⟩
  | m::k,s,s',h,e=>by
    unfold runG at e;split at e
    · rename_i c;obtain⟨a,b⟩:=run_ok k _ _ (qpM h c) e;refine⟨a,?_⟩;rw[b];unfold nextG;simp
    · cases e
def flG (g:Game):ByteArray×Int×Int×(List (Int×Int×Int×(List (Int×Int×Int×Int×Unit))×Unit))×(List Int)×Bool×Bool×(List (Int×Int×Int×Bool×Unit))×Int×Int×Int×(List Place)×(List Mv)×Unit :=
  (g.1.1,(g.1.2.1,(g.1.2.2.1,(g.1.2.2.2.1,(g.1.2.2.2.2.1,(g.1.2.2.2.2.2.1,(g.1.2.2.2.2.2.2.1,(g.1.2.2.2.2.2.2.2.1,(g.1.2.2.2.2.2.2.2.2.1,(g.1.2.2.2.2.2.2.2.2.2.1,(g.1.2.2.2.2.2.2.2.2.2.2.1,(g.2.1,(g.2.2.1,())))))))))))))
def gm (r:Rules) (s:List Place×List Mv):Game:=(r,(s.1,(s.2,())))
theorem qrq {r:Rules} {T R:Type} (l:List Mv) (hlen:l.length≤1000000000) (f:T→Option (T ⊕ R)) (st:Int→Game→T) (bad:Int→R) (fin:List Place×List Mv→R)
    (hf:∀i s,f (st i (gm r s))=bif (decide (i<((l.length:Nat):Int))) then(Option.bind (at? l i) fun m=>Option.bind (qcC (r,(s.1,(s.2,()))) m) fun x=>bif (x.2 !=0) then some (.inr (bad x.2)) else some (.inl (st (w64 (i+1)) x.1))) else some (.inr (fin s))) :
    ∀(k:Nat) (i:Nat) (s:List Place×List Mv),i+k=l.length→OKG r s→iterW f (st (i:Int) (gm r s))=some (match runG r (l.drop i) s with
      | .inl s'=>fin s'
      | .inr e=>bad e)
  | 0,i,s,hi,h=>by
    have:i=l.length:=by omega
    subst this;refine qg ?_;rw[hf,nltd,cond_false,List.drop_length];rfl
  | k+1,i,s,hi,h=>by
    have hil:i<l.length:=by omega
    have hL:=hf (i:Int) s;rw[ltd l i hil,cond_true,at?_eq l _ (by omega) (by omega),Option.bind_some,play_spec h,Option.bind_some] at hL;simp only[Int.toNat_natCast] at hL;rw[List.drop_eq_getElem_cons hil];unfold runG;by_cases c:stepG r s l[i]=0
    · rw[if_pos c] at hL;simp only[bne_self_eq_false,cond_false] at hL;rw[qe (by omega) (by omega)] at hL;rw[qn hL,if_pos c];exact qrq l hlen f st bad fin hf k (i+1) _ (by omega) (qpM h c)
    · rw[if_neg c] at hL;simp only[bne_t c,cond_true] at hL;rw[qg hL,if_neg c]
theorem qkN {r:Rules} (c:qu r=0):OKG r ([qx r],[]):=⟨c,fun p hp=>by rw[List.mem_singleton.1 hp];exact qnA (qcb c),rfl,by simp⟩
def qgS (r:Rules) (l:List Mv):(List Place×List Mv) ⊕ Int:=runG r l ([qx r],[])
abbrev FlP:=List Int×List Int×List Int×Int×Int×Unit
def flp (p:Place):FlP:=(p.1,(p.2.1.1,(p.2.1.2.1,p.2.2)))
def quf (r:Rules) (l:List Mv):Place×Int×Int×Unit:=if qu r=0 then(match qgS r l with
    | .inl s=>(lastP s.1,(qdM r s.1,(0,())))
    | .inr e=>(dP,(0,(e,())))) else(dP,(0,(qu r,())))
theorem run_spec (r:Rules) (l:List Mv) (hr:Rng qR r) (hl:l.length≤1000000000):qaG r l=some (quf r l):=by
  unfold qaG quf;rw[qhQ r hr,Option.bind_some];by_cases c:qu r=0
  · simp only[if_pos c];rw[show((0:Int)!=0)=false from rfl,cond_false];simp only[agree_self];rw[quM (qcb c),Option.bind_some];have hP:=qrq (r:=r) l hl (qjw l) (fun i g=>((i,()),(flp dP,(flG g,())))) (fun e => .inr (dP,(0,(e,())))) (fun s => .inl ((),(flp dP,(flG (gm r s),()))))
      (fun i s=>by rfl) l.length 0 ([qx r],[]) (by omega) (qkN c)
    rw[List.drop_zero] at hP;have hP':iterW (qjw l) (((0:Int),()),((([]:List Int),(([]:List Int),(([]:List Int),((0:Int),((0:Int),()))))),(r.1,(r.2.1,(r.2.2.1,(r.2.2.2.1,(r.2.2.2.2.1,(r.2.2.2.2.2.1,(r.2.2.2.2.2.2.1,(r.2.2.2.2.2.2.2.1,(r.2.2.2.2.2.2.2.2.1,(r.2.2.2.2.2.2.2.2.2.1,(r.2.2.2.2.2.2.2.2.2.2.1,([((qx r).1,(((qx r).2.1.1,((qx r).2.1.2.1,())),(qx r).2.2))],(([]:List Mv),()))))))))))))),()))=_:=hP
    try simp only[Option.bind_some,bne_self_eq_false,cond_false]
    rw[hP',Option.bind_some];unfold qgS
    cases hg:runG r l ([qx r],[]) with
    | inr e=>rfl
    | inl s =>
      have hok:=(run_ok l _ _ (qkN c) hg).1;simp only[Sum.elim_inl];change Option.bind (qaZ (r,(s.1,(s.2,())))) (fun r16=>Option.bind (qa4 (r,(s.1,(s.2,())))) fun r17=>some ((r16.1,((r16.2.1.1,(r16.2.1.2.1,())),r16.2.2)),(r17,((0:Int),()))))=_;rw[qoo hok,Option.bind_some,qlD hok,Option.bind_some]
  · simp only[if_neg c];rw[bne_t c,cond_true,cond_true];rfl

theorem qqm (r:Rules) (p:Place) (hr:Rng qR r) (hn:p.1.length≤9223372036854775807):qh7 r p=some (if qaa r p=0 then qag r p else [],qaa r p,()):=by
  unfold qh7;rw[qoC r p hr hn,Option.bind_some];by_cases c:qaa r p=0
  · rw[bne_f c,cond_false,if_pos c,qj9 (qkI c),c];rfl
  · rw[bne_t c,cond_true,if_neg c]
theorem qva (r:Rules) (p:Place) (m:Mv) (hr:Rng qR r) (hn:p.1.length≤9223372036854775807):qhP r p m=some (if qaa r p=0 then qh r p m else false,qaa r p,()):=by
  unfold qhP;rw[qqm r p hr hn,Option.bind_some];by_cases c:qaa r p=0
  · have hv:=qkI c;simp only[if_pos c];rw[qlg _ _ (by have:=qeB hv;omega),Option.bind_some];have:decide (m∈qag r p)=qh r p m:=by
      rw[Bool.eq_iff_iff,decide_eq_true_eq,qaS]
    rw[this]
  · simp only[if_neg c];rw[qlg _ _ (by simp)];simp
def emptyP:Place:=([],([],[],()),0,0,())
theorem quH (r:Rules) (p:Place) (m:Mv) (hr:Rng qR r) (hn:p.1.length≤9223372036854775807):qcf r p m=some (if qaa r p=0 then if qh r p m=true then(qm r p m,0,()) else(emptyP,13,()) else(emptyP,qaa r p,())):=by
  unfold qcf;rw[qva r p m hr hn,Option.bind_some];by_cases c:qaa r p=0
  · have hv:=qkI c;simp only[if_pos c];rw[c,show((0:Int)!=0)=false from rfl,cond_false]
    cases ha:qh r p m with
    | false=>rfl
    | true =>
      rw[Bool.not_true,cond_false,qgc hv ha,Option.bind_some];rfl
  · simp only[if_neg c];rw[bne_t c,cond_true];rfl

theorem qsu (r:Rules) (p:Place) (hr:Rng qR r) (hn:p.1.length≤9223372036854775807):qtW r p=some (if qaa r p=0 then qaJ r p else 0,qaa r p,()):=by
  unfold qtW;rw[qoC r p hr hn,Option.bind_some];by_cases c:qaa r p=0
  · rw[bne_f c,cond_false,if_pos c,qjq (qkI c),c];rfl
  · rw[bne_t c,cond_true,if_neg c]
def repRes (r:Rules) (l:List Mv):Int×Int×Unit:=if qu r=0 then(match qgS r l with
    | .inl s=>(((qgl s.1:Nat):Int),(0,()))
    | .inr e=>(0,(e,()))) else(0,(qu r,()))
theorem tic_rng:Rng qR qT:=qjl _ _ (by decide +kernel)
theorem tic_ok:qu qT=0:=by decide +kernel
theorem qtG (L:List Place) (h0:0<L.length) (h1:L.length≤1000000) (hv:∀r':Unit,True) (i:Nat) (c:Int):qeZ L ((c,(i:Int),()),())=cntF L c (i:Int):=by
  have e:qeZ L ((c,(i:Int),()),())=bif (decide ((i:Int)<((L.length:Nat):Int))) then(Option.bind (at? L (i:Int)) fun a=>Option.bind (at? L (w64 (((L.length:Nat):Int)-1))) fun b=>Option.bind (qcO a b) fun x=>Option.bind (bif x then some ((w64 (c+1),()),()) else some ((c,()),())) fun y:(Int×Unit)×Unit=>some (Sum.inl ((y.1.1,w64 ((i:Int)+1),()),()))) else some (Sum.inr ((c,()),())):=rfl;rw[e];unfold cntF;have hw:=qlT h0 (by omega);by_cases hi:i<L.length
  · rw[ltd L i hi,cond_true,cond_true,hw,inbN L i hi,inbN L _ (by omega),qa,qa];rw[at?_eq L _ (by omega) (by omega),at?_eq L ((L.length-1:Nat):Int) (by omega) (by omega),Option.bind_some,Option.bind_some];simp only[Int.toNat_natCast];rw[gd_eq L i hi,gd_eq L _ (by omega)]
    cases qcO L[i] (L[L.length-1]'(by omega))<;>rfl
  · rw[decide_eq_false (by omega),cond_false,cond_false]
theorem qtf {r:Rules} {L:List Place} (hv:∀p∈L,Valid r p) (h0:0<L.length) (h1:L.length≤1000000):qkq L=some ((qgl L:Nat):Int):=by
  have hw:=qlT h0 (by omega);unfold qkq
  have:=qlm L (fun p=>same0 p (lastP L)) (qeZ L) (fun c=>((c,()),())) (fun i hi c hc0 hc1=>by
    rw[qtG L h0 h1 (fun _=>trivial)];unfold cntF;rw[ltd L i hi,cond_true,inbN L i hi,qa,hw,inbN L _ (by omega),qa,Int.toNat_natCast,Int.toNat_natCast,gd_eq L i hi,qqQ (hv _ (List.getElem_mem hi)),Option.bind_some,Option.bind_some];show Option.bind (bif same0 L[i] (lastP L) then _ else _) _=_;rw[qe (n:=c+1) (by omega) (by omega),qe (n:=(i:Int)+1) (by omega) (by omega)];cases same0 L[i] (lastP L)<;>rfl) (fun c=>by
    rw[qtG L h0 h1 (fun _=>trivial)];unfold cntF
    rw[nltd,cond_false])
  rw[this];rfl
theorem res3_spec {r:Rules} {L:List Place} (c:qu r=0) (hr:Rng qR r) (hv:∀p∈L,Valid r p) (h0:0<L.length) (h1:L.length≤1000000):qge r L=some (qdM r L):=by
  have hw:=qlT h0 (by omega);have hl:=hv _ (qut h0);have h64:=qbV hl;have hrep:=(qcb c).repeats;unfold qge;rw[hw,at?_eq L _ (by omega) (by omega),Option.bind_some];simp only[Int.toNat_natCast]
  have hla:L[L.length-1]'(by omega)=lastP L:=by unfold lastP;rw[gd_eq L (L.length-1) (by omega)]
  rw[hla,qsu r _ hr (by omega),qmB c hl,Option.bind_some,qtf hv h0 h1];unfold qdM;simp only[if_true,beq_self_eq_true,Bool.true_and];have hq:decide (r.2.2.2.2.2.2.2.2.2.2.1>0)=(r.repeats !=0):=by
    rw[Bool.eq_iff_iff];simp only[decide_eq_true_eq,bne_iff_ne];show r.repeats>0↔r.repeats≠0;omega
  rw[hq];show Option.bind (gopt ((qaJ r (lastP L)==0)&&(r.repeats !=0)) 0 (some ((qgl L:Nat):Int))) (fun x=>bif ((qaJ r (lastP L)==0)&&(r.repeats !=0))&&decide (x≥r.repeats) then some 3 else some (qaJ r (lastP L)))=_
  cases ((qaJ r (lastP L)==0)&&(r.repeats !=0)) with
  | false=>rfl
  | true =>
    simp only[gopt,cond_true,Option.bind_some,Bool.true_and]
    cases decide (((qgl L:Nat):Int)≥r.repeats)<;>rfl
def qfT (r:Rules) (l:List Mv):List Place×Int×Unit:=if qu r=0 then(match qgS r l with
    | .inl s=>(s.1,(0,()))
    | .inr e=>([],(e,()))) else([],(qu r,()))
theorem qr9 (l:List Mv) (r:Rules) (ps:List Place) (i:Int):qcG l r ((ps,i,()),())=bif (decide (i<((l.length:Nat):Int))) then(Option.bind (at? l i) fun m=>Option.bind (qge r ps) fun x=>bif (x !=0) then some (Sum.inr (Sum.inr (([]:List Place),(14,()))))
    else req (inb (w64 (((ps.length:Nat):Int)-1)) ps.length) (Option.bind (qcf r (getD' ps (w64 (((ps.length:Nat):Int)-1)).toNat dP) m) fun z=>bif (z.2.1 !=0) then some (Sum.inr (Sum.inr (([]:List Place),(13,())))) else bif (decide (((ps.length:Nat):Int)>400)) then some (Sum.inr (Sum.inr (([]:List Place),(9,()))))
      else req (room (ps.length+1) 88) (some (Sum.inl ((ps++[z.1],w64 (i+1),()),())))))
    else some (Sum.inr (Sum.inl ((ps,()),()))):=by
  unfold qcG;simp only[agree_self]
  first
  | rfl
  | cases decide (i<((l.length:Nat):Int)) with
    | false=>rfl
    | true =>
      simp only[cond_true];congr 1;funext m;congr 1;funext x
      cases (x !=0) with
      | true=>rfl
      | false =>
        simp only[cond_false]
        cases inb (w64 (((ps.length:Nat):Int)-1)) ps.length with
        | false=>rfl
        | true =>
          simp only[qa];show Option.bind (Option.bind (qcf r (getD' ps (w64 (((ps.length:Nat):Int)-1)).toNat dP) m) _) _=_
          cases qcf r (getD' ps (w64 (((ps.length:Nat):Int)-1)).toNat dP) m<;>rfl
theorem qn3 {r:Rules} (hr:Rng qR r) (l:List Mv) (hlen:l.length≤1000000000):∀(k:Nat) (i:Nat) (s:List Place×List Mv),i+k=l.length→OKG r s→iterW (qcG l r) ((s.1,(i:Int),()),())=some (match runG r (l.drop i) s with
      | .inl s' => .inl ((s'.1,()),())
      | .inr e => .inr (([]:List Place),(e,())))
  | 0,i,s,hi,h=>by
    have:i=l.length:=by omega
    subst this;refine qg ?_;rw[qr9,nltd,cond_false,List.drop_length];rfl
  | k+1,i,s,hi,h=>by
    have hil:i<l.length:=by omega
    have hl:=h.len;have hm:=h.most;have hv:=h.last;have h64:=qbV hv;have hw:=qlT (L:=s.1) (by omega) (by omega);have hL:=qr9 l r s.1 (i:Int);rw[ltd l i hil,cond_true,at?_eq l _ (by omega) (by omega),Option.bind_some,res3_spec h.ok hr h.all (by omega) (by omega),Option.bind_some,hw,inbN s.1 _ (by omega),qa] at hL;simp only[Int.toNat_natCast] at hL;have hla:getD' s.1 (s.1.length-1) dP=lastP s.1:=rfl;rw[hla,quH r _ _ hr (by omega),if_pos (qmB h.ok hv),Option.bind_some] at hL;rw[List.drop_eq_getElem_cons hil];unfold runG;by_cases c1:qdM r s.1=0
    · rw[bne_f c1,cond_false] at hL;by_cases c2:qh r (lastP s.1) l[i]=true
      · rw[if_pos c2] at hL;simp only[bne_self_eq_false,cond_false] at hL;by_cases c3:s.2.length=400
        · have e:stepG r s l[i]=9:=by unfold stepG;rw[if_pos c1,if_pos c2,if_pos c3]
          rw[decide_eq_true (by omega),cond_true] at hL;rw[qg hL,e,if_neg (by decide)]
        · have e:stepG r s l[i]=0:=by unfold stepG;rw[if_pos c1,if_pos c2,if_neg c3]
          rw[decide_eq_false (by omega),cond_false,qae (n:=s.1.length+1) (by omega),qa,qe (by omega) (by omega)] at hL;rw[qn hL,if_pos e];exact qn3 hr l hlen k (i+1) (nextG r s l[i]) (by omega) (qpM h e)
      · have e:stepG r s l[i]=13:=by unfold stepG;rw[if_pos c1,if_neg c2]
        rw[if_neg c2] at hL;simp only[bne_t (show ¬(13:Int)=0 by decide),cond_true] at hL;rw[qg hL,e,if_neg (by decide)]
    · have e:stepG r s l[i]=14:=by unfold stepG;rw[if_neg c1]
      rw[bne_t c1,cond_true] at hL;rw[qg hL,e,if_neg (by decide)]
theorem qjz (r:Rules) (l:List Mv) (hr:Rng qR r) (hl:l.length≤1000000000):qek r l=some (qfT r l):=by
  unfold qek qfT;rw[qhQ r hr,Option.bind_some];by_cases c:qu r=0
  · simp only[if_pos c];rw[show((0:Int)!=0)=false from rfl,cond_false];have hP:=qn3 hr l hl l.length 0 ([qx r],[]) (by omega) (qkN c);rw[List.drop_zero] at hP;have hP':iterW (qcG l r) ((([((qx r).1,(((qx r).2.1.1,((qx r).2.1.2.1,())),(qx r).2.2))]),(0:Int),()),())=_:=hP;rw[hP',Option.bind_some];unfold qgS
    cases runG r l ([qx r],[])<;>rfl
  · simp only[if_neg c];rw[bne_t c,cond_true]

theorem qkC {c:Int} (h:0≤c) (h':c<128):Go.Utf8.encode c=ByteArray.mk #[UInt8.ofNat c.toNat]:=by
  unfold Go.Utf8.encode
  have:Go.Utf8.valid c=true:=by unfold Go.Utf8.valid;simp;omega
  simp only[this,if_true];rw[if_pos (by omega)]
theorem qqx {c:Prop} [Decidable c] {a b:ByteArray} {n:Nat} (ha:a.size≤n) (hb:b.size≤n):(if c then a else b).size≤n:=by split<;>assumption
theorem enc_size (c:Int):(Go.Utf8.encode c).size≤4:=by
  unfold Go.Utf8.encode;exact qqx (by show 1≤4;omega) (qqx (by show 2≤4;omega) (qqx (by show 3≤4;omega) (by show 4≤4;omega)))
theorem qrf {a b:ByteArray} (h:a.toList=b.toList):a=b:=by
  rw[ByteArray.toList_eq,ByteArray.toList_eq] at h;cases a;cases b;simp only at h;rw[Array.toList_inj.1 h]
theorem qa1 (a b:ByteArray):(a.toList==b.toList)=decide (a=b):=by
  rw[Bool.eq_iff_iff];simp only[beq_iff_eq,decide_eq_true_eq];exact⟨qrf,fun h=>by rw[h]⟩
theorem sroom {a b:ByteArray} (h:a.size≤1000000) (h':b.size≤1000000):qk a b=true:=by
  exact Nat.ble_eq_true_of_le (show a.size+b.size≤9223372036854775807 by omega)
theorem i32_id {n:Int} (h1:0≤n) (h2:n≤1000000):IntKind.wrap .i32 n=n:=by
  simp[IntKind.wrap,IntKind.signed,IntKind.bits];omega
theorem qtz {x y:Nat} (hx:x<256) (hy:y<256):UInt8.ofNat x=UInt8.ofNat y↔x=y:=by
  constructor
  · intro h;have:=congrArg UInt8.toNat h;simp at this;omega
  · intro h;rw[h]
theorem qsk {a b:UInt8}:ByteArray.mk #[a]=ByteArray.mk #[b]↔a=b:=by
  constructor
  · intro h;injection h with h;simpa using h
  · intro h;rw[h]
def colT (i:Int):ByteArray:=ByteArray.mk #[UInt8.ofNat (97+i).toNat]
def rowT (i:Int):ByteArray:=ByteArray.mk #[UInt8.ofNat (49+i).toNat]
def sqT (r:Rules) (n:Int):ByteArray:=ByteArray.mk #[UInt8.ofNat (97+n.tmod r.width).toNat,UInt8.ofNat (49+n.tdiv r.width).toNat]
structure OnB (r:Rules) (n:Int):Prop where
  w:1≤r.width∧r.width≤8
  c:0≤n.tmod r.width∧n.tmod r.width<8
  d:0≤n.tdiv r.width∧n.tdiv r.width<8
theorem onB_of {r:Rules} (h:VR0 r) {n:Int} (h0:0≤n) (h1:n<r.width*r.height):OnB r n:=by
  have w1:=h.w1;have w8:=h.w8;have e1:=h.h1;have e8:=h.h8;have a:=Int.tmod_lt_of_pos n (show 0<r.width by omega);have b:=Int.tmod_nonneg r.width h0;have c:=Int.tdiv_nonneg h0 (show 0≤r.width by omega);have d:n.tdiv r.width<r.height:=by
    rw[Int.tdiv_eq_ediv_of_nonneg h0];exact Int.ediv_lt_of_lt_mul (by omega) (by rw[Int.mul_comm];exact h1)
  exact⟨⟨w1,w8⟩,⟨b,by omega⟩,⟨c,by omega⟩⟩
theorem qaW {r:Rules} {p:Place} (h:Valid r p) {n:Int} (h0:0≤n) (h1:n<((p.1.length:Nat):Int)):OnB r n:=by
  have hc:((p.1.length:Nat):Int)=r.width*r.height:=h.cells;exact onB_of h.r0 h0 (by omega)
theorem qp0 (r:Rules) (n:Int):(sqT r n).size=2:=rfl
theorem sq_app (r:Rules) (n:Int):colT (n.tmod r.width)++rowT (n.tdiv r.width)=sqT r n:=rfl
theorem sq_c (r:Rules) (n:Int):(sqT r n).extract 0 1=colT (n.tmod r.width):=rfl
theorem sq_r (r:Rules) (n:Int):(sqT r n).extract 1 2=rowT (n.tdiv r.width):=rfl
theorem col_inj {a b:Int} (ha:0≤a∧a<8) (hb:0≤b∧b<8):colT a=colT b↔a=b:=by
  unfold colT;rw[qsk,qtz (by omega) (by omega)];omega
theorem row_inj {a b:Int} (ha:0≤a∧a<8) (hb:0≤b∧b<8):rowT a=rowT b↔a=b:=by
  unfold rowT;rw[qsk,qtz (by omega) (by omega)];omega
theorem qp8 {a b:Int} (ha:0≤a∧a<8) (hb:0≤b∧b<8):¬colT a=rowT b:=by
  unfold colT rowT;rw[qsk,qtz (by omega) (by omega)];omega
theorem qnv {a:ByteArray} (h:a.size≤1) (r:Rules) (n:Int):¬a=sqT r n:=fun e=>by
  have:=congrArg ByteArray.size e;rw[qp0] at this;omega
theorem qnI {r:Rules} {n:Int} (h:OnB r n):qaR r n=some (colT (n.tmod r.width)):=by
  have:=h.w;have:=h.c;unfold qaR colT;rw[show(r.2.1 !=0)=true from bne_t (by show ¬r.width=0;omega),qa];show some (Go.Utf8.encode (IntKind.wrap .i32 (w64 (97+n.tmod r.width))))=_;rw[qe (by omega) (by omega),i32_id (by omega) (by omega),qkC (by omega) (by omega)]
theorem qtp {r:Rules} {n:Int} (h:OnB r n):qbv r n=some (rowT (n.tdiv r.width)):=by
  have:=h.w;have:=h.d;unfold qbv rowT;rw[show(r.2.1 !=0)=true from bne_t (by show ¬r.width=0;omega),qa];show some (Go.Utf8.encode (IntKind.wrap .i32 (w64 (49+w64 (n.tdiv r.width)))))=_;rw[qe (n:=n.tdiv r.width) (by omega) (by omega),qe (by omega) (by omega),i32_id (by omega) (by omega),qkC (by omega) (by omega)]
theorem qjh {r:Rules} {n:Int} (h:OnB r n):qaU r n=some (sqT r n):=by
  unfold qaU;rw[qnI h,qtp h,Option.bind_some,Option.bind_some,sroom (by show 1≤_;omega) (by show 1≤_;omega),qa,sq_app]
theorem abc (i:Int) (h:0≤i∧i<8):strAt (ByteArray.mk #[97,98,99,100,101,102,103,104]) i=some (UInt8.ofNat (97+i).toNat)∧strAt (ByteArray.mk #[49,50,51,52,53,54,55,56]) i=some (UInt8.ofNat (49+i).toNat):=by
  have:i=0∨i=1∨i=2∨i=3∨i=4∨i=5∨i=6∨i=7:=by omega
  rcases this with rfl | rfl | rfl | rfl | rfl | rfl | rfl | rfl<;>exact⟨rfl,rfl⟩
theorem u8_nat {x:Nat} (h:x<128):Go.Utf8.encode (((UInt8.ofNat x).toNat:Nat):Int)=ByteArray.mk #[UInt8.ofNat x]:=by
  have:(UInt8.ofNat x).toNat=x:=by simp;omega
  rw[this,qkC (by omega) (by omega)];rfl
theorem qhN {r:Rules} {n:Int} (h:OnB r n):qbM r.width n=some (sqT r n):=by
  have hw:=h.w;have hc:=h.c;have hd:=h.d;unfold qbM;rw[show(r.width !=0)=true from bne_t (by omega),qa,qe (by omega) (by omega),(abc _ hc).1,Option.bind_some,qa,(abc _ hd).2,Option.bind_some];rw[u8_nat (by omega),u8_nat (by omega),sroom (by show 1≤_;omega) (by show 1≤_;omega),qa];rfl

def qat (r:Rules) (k:Int):ByteArray:=Go.Utf8.encode (qah r k).1
def Letters (r:Rules):Prop:=∀q∈r.pieces,0≤q.1∧q.1≤255
theorem qkY {r:Rules} (hr:Rng qR r):Letters r:=fun q hq=>by
  have:=(hr.2.2.2.1.2 q hq).1
  have h1:IntKind.u8.min=0:=by decide
  have h2:IntKind.u8.max=255:=by decide
  rw[←h1,←h2];exact this
theorem qi4 {r:Rules} (hL:Letters r) {k:Int} (h0:0≤k) (h1:k<((r.pieces.length:Nat):Int)):qbh r k=some (qat r k):=by
  obtain⟨a,b⟩:=qgB h0 h1;have:=hL _ b;unfold qbh qat;rw[a,Option.bind_some,i32_id this.1 (by omega)]
theorem qbx (r:Rules) (k:Int):(qat r k).size≤4:=enc_size _
def riv (p:Place) (m x:Mv):Bool:=(((decide (x.1≥0))&&(x.1 !=m.1))&&(x.2.1==m.2.1))&&(cellI p x.1==cellI p m.1)
def rivals (r:Rules) (p:Place) (m:Mv):List Int:=((qag r p).filter (riv p m)).map fun x=>x.1
def sameC (r:Rules) (m:Mv) (n:Int):Bool:=n.tmod r.width==m.1.tmod r.width
def sameR (r:Rules) (m:Mv) (n:Int):Bool:=n.tdiv r.width==m.1.tdiv r.width
def e0:ByteArray:=ByteArray.mk #[]
def markT (r:Rules) (p:Place) (m:Mv):ByteArray:=if (rivals r p m).length=0 then e0 else if (rivals r p m).any (sameC r m)=false then colT (m.1.tmod r.width) else if (rivals r p m).any (sameR r m)=false then rowT (m.1.tdiv r.width) else sqT r m.1
theorem qqV (r:Rules) (p:Place) (m:Mv):(markT r p m).size≤2:=by
  unfold markT;split
  · show 0≤2;omega
  · split
    · show 1≤2;omega
    · split
      · show 1≤2;omega
      · show 2≤2;omega
theorem mark_L1 (l:List Mv) (m:Mv) (p:Place) (i:Int) (acc:List Int):qcN l m p ((i,()),((acc,()),()))=bif (decide (i<((l.length:Nat):Int))) then(Option.bind (at? l i) fun d=>Option.bind (gat (((decide (d.1≥0))&&(d.1 !=m.1))&&(d.2.1==m.2.1)) 0 p.1 d.1) fun a=>Option.bind (gat (((decide (d.1≥0))&&(d.1 !=m.1))&&(d.2.1==m.2.1)) 0 p.1 m.1) fun b =>
    Option.bind (bif ((((decide (d.1≥0))&&(d.1 !=m.1))&&(d.2.1==m.2.1))&&(a==b)) then req (room (acc.length+1) 8) (some ((),((acc++[d.1],()),()))) else some ((),((acc,()),()))) fun x:Unit×((List Int×Unit)×Unit)=>some (Sum.inl ((w64 (i+1),()),((x.2.1.1,()),()))))
  else some (Sum.inr ((),((acc,()),()))):=rfl
theorem mark_L2 (l:List Int) (r:Rules) (m:Mv) (i:Int):qev ((),((l,()),())) r m ((i,()),())=bif (decide (i<((l.length:Nat):Int))) then(req (inb i l.length) (req (r.width !=0) (req (r.width !=0) (bif ((getD' l i.toNat 0).tmod r.width==m.1.tmod r.width) then(Option.map Sum.inr (Option.map Sum.inr (bif (!(decide (i≥0))) then(Option.bind (qaR r m.1) fun a=>some a)
    else Option.bind (iterW (qcp ((),((l,()),())) r m) (((0:Int),()),())) (Sum.elim (fun _=>Option.bind (qbv r m.1) fun a=>some a) some)))) else some (Sum.inl ((w64 (i+1),()),()))))))
  else some (Sum.inr (Sum.inl ((),()))):=rfl
theorem mark_L3 (l:List Int) (r:Rules) (m:Mv) (i:Int):qcp ((),((l,()),())) r m ((i,()),())=bif (decide (i<((l.length:Nat):Int))) then(req (inb i l.length) (req (r.width !=0) (req (r.width !=0) (bif (w64 ((getD' l i.toNat 0).tdiv r.width)==w64 (m.1.tdiv r.width)) then(Option.map Sum.inr (Option.map Sum.inr (bif (!(decide (i≥0))) then(Option.bind (qbv r m.1) fun a=>some a)
    else Option.bind (qaU r m.1) fun a=>some a))) else some (Sum.inl ((w64 (i+1),()),()))))))
  else some (Sum.inr (Sum.inl ((),()))):=rfl
theorem qsy {r:Rules} {p:Place} {m:Mv} {n:Int} (hn:n∈rivals r p m):0≤n∧n<((p.1.length:Nat):Int):=by
  unfold rivals at hn;obtain⟨x,hx,rfl⟩:=List.mem_map.1 hn;obtain⟨hx1,hx2⟩:=List.mem_filter.1 hx;have:=(qO ((qaS x).1 hx1)).1;have:x.1≥0:=by
    unfold riv at hx2;simp only[Bool.and_eq_true,decide_eq_true_eq] at hx2;exact hx2.1.1.1
  omega
theorem mark_spec {r:Rules} {p:Place} {m:Mv} (h:Valid r p) (ha:qh r p m=true) (hm:¬m.1<0):qfk r p (qag r p) m=some (markT r p m):=by
  have hrg:=qO ha;have hb:=qaW h (n:=m.1) (by omega) hrg.1.2;have hlen:=qeB h;have hw:(r.width !=0)=true:=bne_t (by have:=hb.w;omega);unfold qfk;generalize hl:qag r p=l at hlen
  have hI:=qbD (f:=qcN l m p) l.length (fun i=>(((i:Int),()),((((l.take i).filter (riv p m)).map (fun x=>x.1),()),()))) ((),(((l.filter (riv p m)).map (fun x=>x.1),()),())) (fun i hi=>by
    have hal:qh r p l[i]=true:=(qaS _).1 (hl▸List.getElem_mem hi);have hx:=qO hal;have ht:(((l.take (i+1)).filter (riv p m)).map (fun x=>x.1))=((l.take i).filter (riv p m)).map (fun x=>x.1)++(if riv p m l[i]=true then [l[i].1] else []):=by
      rw[List.take_succ_eq_append_getElem hi,List.filter_append,List.map_append];by_cases c:riv p m l[i]=true
      · rw[if_pos c,List.filter_cons_of_pos c];rfl
      · rw[if_neg c,List.filter_cons_of_neg c];rfl
    rw[mark_L1,ltd l i hi,cond_true,at?_eq l _ (by omega) (by omega),Option.bind_some,ht];simp only[Int.toNat_natCast]
    have hroom:room ((((l.take i).filter (riv p m)).map (fun x=>x.1)).length+1) 8=true:=qae (by
      have:=List.length_filter_le (riv p m) (l.take i);simp only[List.length_map,List.length_take] at this ⊢
      omega)
    rw[qe (n:=(i:Int)+1) (by omega) (by omega)];unfold riv at hroom ⊢
    cases hc:((decide (l[i].1≥0)&&(l[i].1 !=m.1))&&(l[i].2.1==m.2.1)) with
    | false=>simp[gat]
    | true =>
      have h0:l[i].1≥0:=by
        simp only[Bool.and_eq_true,decide_eq_true_eq] at hc;exact hc.1.1
      simp only[gat,cond_true,Bool.true_and];rw[qcA h0 hx.1.2,Option.bind_some,qcA (by omega) hrg.1.2,Option.bind_some]
      cases hcc:(cellI p l[i].1==cellI p m.1) with
      | false=>simp
      | true =>
        simp only[cond_true];rw[hroom,qa]
        simp) (by rw[mark_L1,nltd,cond_false,List.take_length])
  have hI':iterW (qcN l m p) (((0:Int),()),((([]:List Int),()),()))=_:=hI;rw[hI',Option.bind_some]
  have hR:(l.filter (riv p m)).map (fun x=>x.1)=rivals r p m:=by unfold rivals;rw[hl]
  rw[hR];have hrl:(rivals r p m).length≤100000:=by
    unfold rivals;rw[hl,List.length_map];exact Nat.le_trans (List.length_filter_le _ _) hlen
  have hmem:=fun n (hn:n∈rivals r p m)=>qsy hn;unfold markT;generalize rivals r p m=R at hrl hmem ⊢;simp only;by_cases c0:R.length=0
  · rw[beq_t (by omega),cond_true,if_pos c0];rfl
  · rw[beq_f (by omega),cond_false,if_neg c0]
    have hL3:=qY R (sameR r m) (qcp ((),((R,()),())) r m) (.inr (sqT r m.1)) (.inl ((),())) (fun i hi=>by
      have hn:=hmem _ (List.getElem_mem hi);have hbn:=qaW h hn.1 hn.2;have:=hbn.d;have:=hb.d;rw[mark_L3,ltd R i hi,cond_true,inbN R i hi,qa,hw,qa,qa,Int.toNat_natCast,gd_eq R i hi,qe (n:=R[i].tdiv r.width) (by omega) (by omega),qe (n:=m.1.tdiv r.width) (by omega) (by omega),qe (n:=(i:Int)+1) (by omega) (by omega),decide_eq_true (show(i:Int)≥0 by omega),qjh hb];show(bif sameR r m R[i] then _ else _)=_
      cases sameR r m R[i]<;>rfl) (by rw[mark_L3,nltd,cond_false])
    have hL2:=qY R (sameC r m) (qev ((),((R,()),())) r m) (.inr (if R.any (sameR r m)=false then rowT (m.1.tdiv r.width) else sqT r m.1)) (.inl ((),())) (fun i hi=>by
      rw[mark_L2,ltd R i hi,cond_true,inbN R i hi,qa,hw,qa,qa,Int.toNat_natCast,gd_eq R i hi,qe (n:=(i:Int)+1) (by omega) (by omega),decide_eq_true (show(i:Int)≥0 by omega),hL3,Option.bind_some];show(bif sameC r m R[i] then _ else _)=_;rw[qtp hb]
      cases sameC r m R[i] with
      | false=>rfl
      | true=>cases R.any (sameR r m)<;>rfl) (by rw[mark_L2,nltd,cond_false])
    rw[hL2,Option.bind_some,qnI hb]
    cases R.any (sameC r m)<;>rfl
def eqT:ByteArray:=ByteArray.mk #[61]
def xT:ByteArray:=ByteArray.mk #[120]
def atT:ByteArray:=ByteArray.mk #[64]
def goT (r:Rules) (p:Place) (m:Mv) (mark:ByteArray):ByteArray :=
  bif m.2.2.1 !=qE (cellI p m.1) then((bif cellI p m.2.1 !=0 then(qat r (qE (cellI p m.1))++mark)++xT else qat r (qE (cellI p m.1))++mark)++sqT r m.2.1)++(eqT++qat r m.2.2.1)
  else(bif cellI p m.2.1 !=0 then(qat r (qE (cellI p m.1))++mark)++xT else qat r (qE (cellI p m.1))++mark)++sqT r m.2.1
def moveT (r:Rules) (p:Place) (m:Mv):ByteArray:=if m.1<0 then(qat r m.2.2.1++atT)++sqT r m.2.1 else goT r p m (markT r p m)
theorem qcg {r:Rules} {p:Place} {m:Mv} (ha:qh r p m=true) (hm:¬m.1<0):cellI p m.1>0∧(cellI p m.1-1).tmod 2=p.turn:=by
  unfold qh at ha;rw[Bool.and_eq_true] at ha;have h2:=ha.2;rw[beq_f (show ¬m.1 = -1 by omega),cond_false] at h2;unfold goOk mineB at h2;simp only[Bool.and_eq_true,decide_eq_true_eq,beq_iff_eq] at h2;exact h2.1
theorem of_spec {r:Rules} {p:Place} {m:Mv} (hL:Letters r) (h:Valid r p) (ha:qh r p m=true):qc1 r p (qag r p) m=some (moveT r p m):=by
  have hrg:=qO ha;have hbt:=qaW h (n:=m.2.1) hrg.2.1.1 hrg.2.1.2;unfold qc1 moveT;by_cases hm:m.1<0
  · rw[decide_eq_true hm,cond_true,if_pos hm,qi4 hL hrg.2.2.1 hrg.2.2.2,Option.bind_some,qjh hbt];have s1:=qbx r m.2.2.1;rw[sroom (by omega) (by show 1≤_;omega),qa,Option.bind_some,sroom (by rw[ByteArray.size_append];show _+1≤_;omega) (by show 2≤_;omega),qa];rfl
  · obtain⟨hc,_⟩:=qcg ha hm;obtain⟨k1,k2,k3⟩:=qcP h hc;have s1:=qbx r (qE (cellI p m.1));have s2:=qqV r p m;have s3:=qbx r m.2.2.1;have sx:xT.size=1:=rfl;have se:eqT.size=1:=rfl;have ss:=qp0 r m.2.1;rw[decide_eq_false hm,cond_false,if_neg hm,qcA (by omega) hrg.1.2,Option.bind_some,k1,qi4 hL k2 k3,Option.bind_some,mark_spec h ha hm,Option.bind_some,sroom (by omega) (by omega),qa,qcA hrg.2.1.1 hrg.2.1.2,Option.bind_some,qjh hbt,qi4 hL hrg.2.2.1 hrg.2.2.2];unfold goT;have r1:qk (qat r (qE (cellI p m.1))++markT r p m) xT=true:=sroom (by rw[ByteArray.size_append];omega) (by omega);have r1':qk (qat r (qE (cellI p m.1))++markT r p m) (ByteArray.mk #[120])=true:=r1;rw[r1',qa]
    have r2:∀a:ByteArray,a.size≤20→qk a (sqT r m.2.1)=true:=fun a ha=>sroom (by omega) (by omega);have r3:qk (ByteArray.mk #[61]) (qat r m.2.2.1)=true:=sroom (show eqT.size≤_ by omega) (by omega);have r4:∀a:ByteArray,a.size≤20→qk (a++sqT r m.2.1) ((ByteArray.mk #[61])++qat r m.2.2.1)=true:=fun a ha=>sroom (by rw[ByteArray.size_append];omega) (by rw[ByteArray.size_append];show eqT.size+_≤_;omega)
    have z1:(qat r (qE (cellI p m.1))++markT r p m).size≤20:=by rw[ByteArray.size_append];omega
    have z2:((qat r (qE (cellI p m.1))++markT r p m)++ByteArray.mk #[120]).size≤20:=by rw[ByteArray.size_append,ByteArray.size_append];show _+xT.size≤_;omega
    cases cellI p m.2.1 !=0 with
    | true =>
      simp only[cond_true,Option.bind_some];rw[r2 _ z2,qa]
      cases m.2.2.1 !=qE (cellI p m.1) with
      | true =>
        simp only[cond_true];rw[r3,qa,r4 _ z2,qa];rfl
      | false=>rfl
    | false =>
      simp only[cond_false,Option.bind_some];rw[r2 _ z1,qa]
      cases m.2.2.1 !=qE (cellI p m.1) with
      | true =>
        simp only[cond_true,Option.bind_some];rw[r3,qa,r4 _ z1,qa];rfl
      | false=>rfl
def hitT (mark s:ByteArray):Bool:=(((mark.toList==e0.toList)||(mark.toList==(s.extract 0 1).toList))||(mark.toList==(s.extract 1 s.size).toList))||(mark.toList==s.toList)
theorem hit_0 (r:Rules) (n:Int):hitT e0 (sqT r n)=true:=by unfold hitT;simp
theorem e0_col (i:Int):¬colT i=e0:=fun h=>by have:=congrArg ByteArray.size h;cases this
theorem e0_row (i:Int):¬rowT i=e0:=fun h=>by have:=congrArg ByteArray.size h;cases this
theorem hit_c {r:Rules} {n:Int} {a:Int} (hb:OnB r n) (ha:0≤a∧a<8):hitT (colT a) (sqT r n)=decide (n.tmod r.width=a):=by
  unfold hitT;rw[show(sqT r n).size=2 from rfl,sq_c,sq_r,qa1,qa1,qa1,qa1,decide_eq_false (e0_col a),decide_eq_false (qp8 ha hb.d),decide_eq_false (qnv (by show 1≤1;omega) r n),Bool.false_or,Bool.or_false,Bool.or_false];rw[Bool.eq_iff_iff,decide_eq_true_eq,decide_eq_true_eq,col_inj ha hb.c];exact eq_comm
theorem hit_r {r:Rules} {n:Int} {a:Int} (hb:OnB r n) (ha:0≤a∧a<8):hitT (rowT a) (sqT r n)=decide (n.tdiv r.width=a):=by
  unfold hitT;have:¬rowT a=colT (n.tmod r.width):=fun h=>qp8 hb.c ha h.symm;rw[show(sqT r n).size=2 from rfl,sq_c,sq_r,qa1,qa1,qa1,qa1,decide_eq_false (e0_row a),decide_eq_false this,decide_eq_false (qnv (by show 1≤1;omega) r n),Bool.false_or,Bool.false_or,Bool.or_false];rw[Bool.eq_iff_iff,decide_eq_true_eq,decide_eq_true_eq,row_inj ha hb.d];exact eq_comm

def marks (own:ByteArray):List ByteArray:=[e0,own.extract 0 1,own.extract 1 ((own.size:Nat):Int).toNat,own]
def qcw (own:ByteArray) (k:Int):ByteArray:=getD' (marks own) k.toNat ByteArray.empty
def notR (m x:Mv):Bool:=((decide (x.1<0))||(x.2.1 !=m.2.1))||(x.1==m.1)
theorem mt_L2 (l:List Mv) (e:Int) (m:Mv) (p:Place) (c:Int) (r:Rules) (own:ByteArray) (k:Int) (b:Bool) (i:Int):qaY (l,(e,())) m p c r own ((k,()),()) ((b,i,()),()) =
    bif (decide (i<((l.length:Nat):Int))) then(Option.bind (req (inb i l.length) (Option.bind (gat (!notR m (getD' l i.toNat d0)) 0 p.1 (getD' l i.toNat d0).1) fun d=>bif notR m (getD' l i.toNat d0)||(d !=c) then some ((b,()),()) else
      Option.bind (qbM r.width (getD' l i.toNat d0).1) fun s=>req (imp (!((qcw own k).toList==e0.toList)) (qj 0 1 s.size)) (req (imp (!(((qcw own k).toList==e0.toList)||((qcw own k).toList==(s.extract 0 1).toList))) (qj 1 ((s.size:Nat):Int) s.size)) (Option.bind (bif hitT (qcw own k) s then some ((false,()),()) else some ((b,()),())) fun x:(Bool×Unit)×Unit=>some ((x.1.1,()),()))))) fun x:(Bool×Unit)×Unit=>some (Sum.inl ((x.1.1,w64 (i+1),()),())))
    else some (Sum.inr ((b,()),())):=by
  unfold qaY;simp only[agree_self];rfl
noncomputable def finF (r:Rules) (p:Place) (m:Mv) (c:Int) (mark to:ByteArray):Option (((Unit)×(Unit)) ⊕ (((Int×Unit)×(Unit)) ⊕ (((Unit)×(Unit)) ⊕ ByteArray))) :=
  Option.bind (at? r.2.2.2.1 (w64 ((w64 (c-1)).tdiv 2))) fun d18=>req (qk (Go.Utf8.encode d18.1) mark) (Option.bind (at? p.1 m.2.1) fun d19 =>
    Option.bind (bif decide (d19>0) then req (qk (Go.Utf8.encode d18.1++mark) xT) (some ((((Go.Utf8.encode d18.1++mark)++xT),()),())) else some (((Go.Utf8.encode d18.1++mark),()),())) fun x20:(ByteArray×Unit)×Unit =>
    req (qk x20.1.1 to) (Option.bind (bif (w64 ((w64 ((w64 (2*m.2.2.1))+p.2.2.1))+1))!=c then(Option.bind (at? r.2.2.2.1 m.2.2.1) fun d21=>req (qk eqT (Go.Utf8.encode d21.1)) (req (qk (x20.1.1++to) (eqT++Go.Utf8.encode d21.1)) (some ((((x20.1.1++to)++(eqT++Go.Utf8.encode d21.1)),()),()))))
      else some (((x20.1.1++to),()),())) fun x22:(ByteArray×Unit)×Unit=>some (Sum.inr (Sum.inr (Sum.inr x22.1.1)))))
theorem mt_L1 (own:ByteArray) (l:List Mv) (e:Int) (m:Mv) (p:Place) (c:Int) (r:Rules) (to:ByteArray) (k:Int):qa3 own (l,(e,())) m p c r to ((k,()),()) =
    bif (decide (k<(((marks own).length:Nat):Int))) then(Option.bind (req (inb k (marks own).length) (Option.bind (iterW (qaY (l,(e,())) m p c r own ((k,()),())) ((true,(0:Int),()),())) fun x=>bif ((!x.1.1)&&(!((qcw own k).toList==own.toList))) then some (Sum.inl ((),())) else finF r p m c (qcw own k) to)) (Sum.elim (fun _=>some (Sum.inl ((w64 (k+1),()),()))) some))
    else some (Sum.inr (Sum.inl ((),()))):=by
  unfold qa3;simp only[agree_self];rfl
theorem fin_spec {r:Rules} {p:Place} {m:Mv} (hL:Letters r) (h:Valid r p) (ha:qh r p m=true) (hm:¬m.1<0) (mark:ByteArray) (hs:mark.size≤2):finF r p m (cellI p m.1) mark (sqT r m.2.1)=some (.inr (.inr (.inr (goT r p m mark)))):=by
  have hrg:=qO ha;obtain⟨hc,hc2⟩:=qcg ha hm;obtain⟨k1,k2,k3⟩:=qcP h hc;have hcr:=qmF h m.2.1;have hcr1:=qmF h m.1;have ht:=h.turn;have t6:=h.r0.t6;have s1:=qbx r (qE (cellI p m.1));have s3:=qbx r m.2.2.1;have sx:xT.size=1:=rfl;have se:eqT.size=1:=rfl;have ss:=qp0 r m.2.1;unfold finF goT;rw[k1,(qgB k2 k3).1,Option.bind_some,(qgB hrg.2.2.1 hrg.2.2.2).1,qcA hrg.2.1.1 hrg.2.1.2];have hl1:Go.Utf8.encode (qah r (qE (cellI p m.1))).1=qat r (qE (cellI p m.1)):=rfl;have hl2:Go.Utf8.encode (qah r m.2.2.1).1=qat r m.2.2.1:=rfl;simp only[Option.bind_some,hl1,hl2];rw[sroom (by omega) (by omega),qa]
  have q1:decide (cellI p m.2.1>0)=(cellI p m.2.1 !=0):=by rw[Bool.eq_iff_iff];simp;omega
  have hkind:qE (cellI p m.1)=(cellI p m.1-1).tdiv 2:=rfl;have hdm:=Int.mul_tdiv_add_tmod (cellI p m.1-1) 2;have hpt:p.2.2.1=p.turn:=rfl;have q2:((w64 ((w64 ((w64 (2*m.2.2.1))+p.2.2.1))+1))!=cellI p m.1)=(m.2.2.1 !=qE (cellI p m.1)):=by
    rw[qe (n:=2*m.2.2.1) (by omega) (by omega),hpt,qe (n:=2*m.2.2.1+p.turn) (by omega) (by omega),qe (by omega) (by omega)];rw[Bool.eq_iff_iff];simp only[bne_iff_ne];omega
  rw[q1,q2];have r2:∀a:ByteArray,a.size≤20→qk a (sqT r m.2.1)=true:=fun a ha=>sroom (by omega) (by omega);have r3:qk eqT (qat r m.2.2.1)=true:=sroom (by omega) (by omega);have r4:∀a:ByteArray,a.size≤20→qk (a++sqT r m.2.1) (eqT++qat r m.2.2.1)=true:=fun a ha=>sroom (by rw[ByteArray.size_append];omega) (by rw[ByteArray.size_append];omega)
  have z1:(qat r (qE (cellI p m.1))++mark).size≤20:=by rw[ByteArray.size_append];omega
  have z2:((qat r (qE (cellI p m.1))++mark)++xT).size≤20:=by rw[ByteArray.size_append,ByteArray.size_append];omega
  have r1:qk (qat r (qE (cellI p m.1))++mark) xT=true:=sroom (by omega) (by omega);rw[r1,qa]
  cases cellI p m.2.1 !=0 with
  | true =>
    simp only[cond_true,Option.bind_some];rw[r2 _ z2,qa]
    cases m.2.2.1 !=qE (cellI p m.1) with
    | true =>
      simp only[cond_true];rw[r3,qa,r4 _ z2,qa];rfl
    | false=>rfl
  | false =>
    simp only[cond_false,Option.bind_some];rw[r2 _ z1,qa]
    cases m.2.2.1 !=qE (cellI p m.1) with
    | true =>
      simp only[cond_true];rw[r3,qa,r4 _ z1,qa];rfl
    | false=>rfl
def alone (r:Rules) (p:Place) (m:Mv) (mark:ByteArray):Bool:=(qag r p).all fun x=>!(riv p m x&&hitT mark (sqT r x.1))
theorem qu3 {r:Rules} {p:Place} {m:Mv} (h:Valid r p) (ha:qh r p m=true) (hm:¬m.1<0) (own:ByteArray) (k e:Int):iterW (qaY (qag r p,(e,())) m p (cellI p m.1) r own ((k,()),())) ((true,(0:Int),()),())=some ((alone r p m (qcw own k),()),()):=by
  have hlen:=qeB h;unfold alone;generalize hl:qag r p=l at hlen
  have:=iter_all l (fun x=>!(riv p m x&&hitT (qcw own k) (sqT r x.1))) (qaY (l,(e,())) m p (cellI p m.1) r own ((k,()),())) (fun b=>((b,()),())) true (fun i hi b=>by
    have hal:qh r p l[i]=true:=(qaS _).1 (hl▸List.getElem_mem hi);have hx:=qO hal;rw[mt_L2,ltd l i hi,cond_true,inbN l i hi,qa];simp only[Int.toNat_natCast];rw[gd_eq l i hi,qe (n:=(i:Int)+1) (by omega) (by omega)];have hn:(!notR m l[i])=((decide (l[i].1≥0)&&(l[i].1 !=m.1))&&(l[i].2.1==m.2.1)):=by
      unfold notR;rw[Bool.eq_iff_iff];simp only[Bool.not_eq_true',Bool.or_eq_false_iff,decide_eq_false_iff_not,bne_eq_false_iff_eq,beq_eq_false_iff_ne,Bool.and_eq_true,decide_eq_true_eq,bne_iff_ne,beq_iff_eq];constructor
      · rintro ⟨⟨a,b⟩,c⟩;exact⟨⟨by omega,c⟩,b⟩
      · rintro ⟨⟨a,b⟩,c⟩;exact⟨⟨by omega,c⟩,b⟩
    have hn':notR m l[i] = !((decide (l[i].1≥0)&&(l[i].1 !=m.1))&&(l[i].2.1==m.2.1)):=by rw[←hn,Bool.not_not]
    unfold riv;rw[hn',Bool.not_not]
    cases hc:((decide (l[i].1≥0)&&(l[i].1 !=m.1))&&(l[i].2.1==m.2.1)) with
    | false=>simp[gat]
    | true =>
      have h0:l[i].1≥0:=by
        simp only[Bool.and_eq_true,decide_eq_true_eq] at hc;exact hc.1.1
      simp only[gat,cond_true,Bool.not_true,Bool.false_or,Bool.true_and];rw[qcA h0 hx.1.2,Option.bind_some];by_cases hcc:cellI p l[i].1=cellI p m.1
      · rw[bne_f hcc,cond_false,beq_t hcc,Bool.true_and,qhN (qaW h h0 hx.1.2),Option.bind_some];have b1:qj 0 1 (sqT r l[i].1).size=true:=rfl;have b2:qj 1 (((sqT r l[i].1).size:Nat):Int) (sqT r l[i].1).size=true:=rfl
        have himp:∀b,imp b true=true:=fun b=>by cases b<;>rfl
        rw[b1,b2,himp,himp,qa,qa]
        cases hitT (qcw own k) (sqT r l[i].1)<;>simp
      · rw[bne_t hcc,cond_true,beq_f hcc]
        simp) (fun b=>by rw[mt_L2,nltd,cond_false])
  rw[this,Bool.true_and]
theorem qs9 {r:Rules} {p:Place} {m:Mv} (q:Int→Bool):((qag r p).all fun x=>!(riv p m x&&q x.1)) = !(rivals r p m).any q:=by
  unfold rivals;rw[List.any_map,List.any_filter]
  induction qag r p with
  | nil=>rfl
  | cons x l ih =>
    rw[List.all_cons,List.any_cons,ih];simp only[Function.comp,Bool.not_or]
theorem quN {r:Rules} {p:Place} {m:Mv} (hL:Letters r) (hr:Rng qR r) (h:Valid r p) (hp0:qaa r p=0) (ha:qh r p m=true):qfi r p m=some (moveT r p m):=by
  have hrg:=qO ha;have h64:=qbV h;have hbt:=qaW h (n:=m.2.1) hrg.2.1.1 hrg.2.1.2;unfold qfi moveT;rw[show qbM r.2.1 m.2.1=some (sqT r m.2.1) from qhN hbt,Option.bind_some];by_cases hm:m.1<0
  · rw[decide_eq_true hm,cond_true,if_pos hm,(qgB hrg.2.2.1 hrg.2.2.2).1,Option.bind_some];have s1:=qbx r m.2.2.1;have hl2:Go.Utf8.encode (qah r m.2.2.1).1=qat r m.2.2.1:=rfl;rw[hl2,sroom (by omega) (by show 1≤_;omega),qa,sroom (by rw[ByteArray.size_append];show _+1≤_;omega) (by show 2≤_;omega),qa];rfl
  · have hbm:=qaW h (n:=m.1) (by omega) hrg.1.2;rw[decide_eq_false hm,cond_false,if_neg hm,qcA (by omega) hrg.1.2,Option.bind_some,qqm r p hr (by omega),if_pos hp0,Option.bind_some,show qbM r.2.1 m.1=some (sqT r m.1) from qhN hbm,Option.bind_some];have b1:qj 0 1 (sqT r m.1).size=true:=rfl;have b2:qj 1 (((sqT r m.1).size:Nat):Int) (sqT r m.1).size=true:=rfl;rw[b1,b2,qa,qa];have hlm:(marks (sqT r m.1)).length=4:=rfl;have m0:qcw (sqT r m.1) 0=e0:=rfl;have m1:qcw (sqT r m.1) 1=colT (m.1.tmod r.width):=rfl;have m2:qcw (sqT r m.1) 2=rowT (m.1.tdiv r.width):=rfl;have m3:qcw (sqT r m.1) 3=sqT r m.1:=rfl
    have n0:(e0.toList==(sqT r m.1).toList)=false:=by rw[qa1,decide_eq_false (qnv (by show 0≤1;omega) r m.1)]
    have n1:((colT (m.1.tmod r.width)).toList==(sqT r m.1).toList)=false:=by rw[qa1,decide_eq_false (qnv (by show 1≤1;omega) r m.1)]
    have n2:((rowT (m.1.tdiv r.width)).toList==(sqT r m.1).toList)=false:=by rw[qa1,decide_eq_false (qnv (by show 1≤1;omega) r m.1)]
    have a0:alone r p m e0=decide ((rivals r p m).length=0):=by
      unfold alone;rw[qs9 (fun n=>hitT e0 (sqT r n))];simp only[hit_0]
      cases rivals r p m<;>simp
    have hany:∀q q':Int→Bool,(∀n∈rivals r p m,q n=q' n)→(rivals r p m).any q=(rivals r p m).any q':=fun q q' hq=>by
      rw[Bool.eq_iff_iff,List.any_eq_true,List.any_eq_true];exact⟨fun ⟨x,hx,e⟩=>⟨x,hx,by rw[←hq x hx];exact e⟩,fun ⟨x,hx,e⟩=>⟨x,hx,by rw[hq x hx];exact e⟩⟩
    have a1:alone r p m (colT (m.1.tmod r.width)) = !(rivals r p m).any (sameC r m):=by
      unfold alone
      rw[qs9 (fun n=>hitT (colT (m.1.tmod r.width)) (sqT r n)),hany _ (sameC r m) (fun n hn=>by
        have:=qsy hn;rw[hit_c (qaW h this.1 this.2) hbm.c];unfold sameC
        rw[Bool.eq_iff_iff];simp)]
    have a2:alone r p m (rowT (m.1.tdiv r.width)) = !(rivals r p m).any (sameR r m):=by
      unfold alone
      rw[qs9 (fun n=>hitT (rowT (m.1.tdiv r.width)) (sqT r n)),hany _ (sameR r m) (fun n hn=>by
        have:=qsy hn;rw[hit_r (qaW h this.1 this.2) hbm.d];unfold sameR
        rw[Bool.eq_iff_iff];simp)]
    have step:∀k:Nat,k<4→qa3 (sqT r m.1) (qag r p,(qaa r p,())) m p (cellI p m.1) r (sqT r m.2.1) (((k:Int),()),())=bif ((!alone r p m (qcw (sqT r m.1) (k:Int)))&&(!((qcw (sqT r m.1) (k:Int)).toList==(sqT r m.1).toList))) then some (.inl ((((k+1:Nat):Int),()),())) else some (.inr (.inr (goT r p m (qcw (sqT r m.1) (k:Int))))):=fun k hk=>by
      have hsz:(qcw (sqT r m.1) (k:Int)).size≤2:=by
        have:k=0∨k=1∨k=2∨k=3:=by omega
        rcases this with rfl | rfl | rfl | rfl
        · show 0≤2;omega
        · show 1≤2;omega
        · show 1≤2;omega
        · show 2≤2;omega
      rw[mt_L1,hlm,decide_eq_true (by omega),cond_true,show inb (k:Int) 4=true from inb_iff.2 ⟨by omega,by omega⟩,qa,qu3 h ha hm,Option.bind_some,fin_spec hL h ha hm _ hsz,qe (n:=(k:Int)+1) (by omega) (by omega)];simp only
      cases (!alone r p m (qcw (sqT r m.1) (k:Int)))&&(!((qcw (sqT r m.1) (k:Int)).toList==(sqT r m.1).toList))<;>rfl
    have f0:=step 0 (by omega);have f1:=step 1 (by omega);have f2:=step 2 (by omega);have f3:=step 3 (by omega);simp only[Int.natCast_zero,show((1:Nat):Int)=1 from rfl,show((2:Nat):Int)=2 from rfl,show((3:Nat):Int)=3 from rfl,m0,m1,m2,m3,n0,n1,n2,a0,a1,a2,Bool.not_false,Bool.and_true,Bool.not_not] at f0 f1 f2 f3;have n3:((sqT r m.1).toList==(sqT r m.1).toList)=true:=beq_self_eq_true _;rw[n3,Bool.not_true,Bool.and_false,cond_false] at f3;unfold markT
    have main:∀v,iterW (qa3 (sqT r m.1) (qag r p,(qaa r p,())) m p (cellI p m.1) r (sqT r m.2.1)) (((0:Int),()),())=some (.inr v)→Option.bind (iterW (qa3 (sqT r m.1) (qag r p,(qaa r p,())) m p (cellI p m.1) r (sqT r m.2.1)) (((0:Int),()),())) (Sum.elim (fun _=>some e0) some)=some v:=fun v hv=>by rw[hv];rfl
    by_cases c0:(rivals r p m).length=0
    · rw[if_pos c0];rw[decide_eq_true c0,Bool.not_true,cond_false] at f0;exact main _ (qg f0)
    · rw[if_neg c0];rw[decide_eq_false c0,Bool.not_false,cond_true] at f0;by_cases c1:(rivals r p m).any (sameC r m)=false
      · rw[if_pos c1];rw[c1,cond_false] at f1;exact main _ ((qn f0).trans (qg f1))
      · rw[if_neg c1];rw[show(rivals r p m).any (sameC r m)=true by simpa using c1,cond_true] at f1;by_cases c2:(rivals r p m).any (sameR r m)=false
        · rw[if_pos c2];rw[c2,cond_false] at f2;exact main _ ((qn f0).trans ((qn f1).trans (qg f2)))
        · rw[if_neg c2];rw[show(rivals r p m).any (sameR r m)=true by simpa using c2,cond_true] at f2;exact main _ ((qn f0).trans ((qn f1).trans ((qn f2).trans (qg f3))))

def bl (a:ByteArray):List UInt8:=a.data.toList
theorem qab (a b:ByteArray):bl (a++b)=bl a++bl b:=by simp[bl,ByteArray.data_append]
theorem qdX {a b:ByteArray} (h:bl a=bl b):a=b:=qrf (by rw[ByteArray.toList_eq,ByteArray.toList_eq];exact h)
def by8 (n:Int):UInt8:=UInt8.ofNat n.toNat
theorem qfI {a b:Int} (ha:0≤a∧a<256) (hb:0≤b∧b<256) (h:by8 a=by8 b):a=b:=by
  have:=(qtz (by omega) (by omega)).1 h;omega
structure Lets (r:Rules):Prop where
  rng:∀k:Int,0≤k→k<((r.pieces.length:Nat):Int)→65≤(qah r k).1∧(qah r k).1≤90
  inj:∀j k:Int,0≤j→j<((r.pieces.length:Nat):Int)→0≤k→k<((r.pieces.length:Nat):Int)→(qah r j).1=(qah r k).1→j=k
theorem qqj {r:Rules} (h:qu r=0):Lets r:=by
  unfold qu at h;split at h
  · cases h
  split at h
  · cases h
  split at h
  · cases h
  split at h
  · cases h
  split at h
  · rename_i h5;exact absurd h h5
  rename_i h5;have h5:=qbs (Decidable.not_not.1 h5);have key:∀i (hi:i<r.pieces.length),(65≤(r.pieces[i]).1∧(r.pieces[i]).1≤90)∧∀j,(hj:j<i)→¬(r.pieces[j]'(by omega)).1=(r.pieces[i]).1:=fun i hi=>by
    have:=h5 i hi;unfold pErr at this;rw[List.getElem?_eq_getElem hi] at this;simp only at this
    cases h1:(decide ((r.pieces[i]).1<65)||decide ((r.pieces[i]).1>90)) with
    | true=>rw[h1,cond_true] at this;cases this
    | false =>
      rw[h1,cond_false] at this
      cases h2:(r.pieces.take i).any (fun q=>q.1==(r.pieces[i]).1) with
      | true=>rw[h2,cond_true] at this;cases this
      | false =>
        rw[Bool.or_eq_false_iff,decide_eq_false_iff_not,decide_eq_false_iff_not] at h1;refine⟨by omega,fun j hj e=>?_⟩;rw[List.any_eq_false] at h2;refine h2 (r.pieces[j]'(by omega)) ?_ (beq_t e);rw[List.mem_take_iff_getElem];exact⟨j,by omega,rfl⟩
  have hp:∀k:Int,(h0:0≤k)→(h1:k<((r.pieces.length:Nat):Int))→qah r k=r.pieces[k.toNat]'(by omega):=fun k h0 h1=>by
    have hk:k.toNat<r.pieces.length:=by omega
    unfold qah;rw[List.getD_eq_getElem?_getD,List.getElem?_eq_getElem hk];rfl
  refine⟨fun k h0 h1=>?_,fun j k j0 j1 k0 k1 e=>?_⟩
  · rw[hp k h0 h1];exact(key _ (by omega)).1
  · rw[hp j j0 j1,hp k k0 k1] at e;rcases Nat.lt_trichotomy j.toNat k.toNat with c | c | c
    · exact absurd e ((key k.toNat (by omega)).2 _ c)
    · omega
    · exact absurd e.symm ((key j.toNat (by omega)).2 _ c)
theorem qdz {r:Rules} (hl:Lets r) {k:Int} (h0:0≤k) (h1:k<((r.pieces.length:Nat):Int)):bl (qat r k)=[by8 (qah r k).1]:=by
  have:=hl.rng k h0 h1;unfold qat;rw[qkC (by omega) (by omega)];rfl
theorem bl_sq (r:Rules) (n:Int):bl (sqT r n)=[by8 (97+n.tmod r.width),by8 (49+n.tdiv r.width)]:=rfl
def goB (L:UInt8) (M X S Q:List UInt8):List UInt8:=L::(M++X++S++Q)
def xB (p:Place) (m:Mv):List UInt8:=if cellI p m.2.1=0 then [] else [120]
def qB (r:Rules) (p:Place) (m:Mv):List UInt8:=if m.2.2.1=qE (cellI p m.1) then [] else [61,by8 (qah r m.2.2.1).1]
theorem bl_go {r:Rules} {p:Place} {m:Mv} (hl:Lets r) (h:Valid r p) (ha:qh r p m=true) (hm:¬m.1<0) (mark:ByteArray):bl (goT r p m mark)=goB (by8 (qah r (qE (cellI p m.1))).1) (bl mark) (xB p m) (bl (sqT r m.2.1)) (qB r p m):=by
  have hrg:=qO ha;obtain⟨hc,hc2⟩:=qcg ha hm;obtain⟨k1,k2,k3⟩:=qcP h hc;have bx:bl xT=[120]:=rfl;have be:bl eqT=[61]:=rfl;unfold goT goB xB qB;by_cases c1:m.2.2.1=qE (cellI p m.1)
  · rw[bne_f c1,cond_false,if_pos c1];by_cases c2:cellI p m.2.1=0
    · rw[bne_f c2,cond_false,if_pos c2,qab,qab,qdz hl k2 k3];simp
    · rw[bne_t c2,cond_true,if_neg c2,qab,qab,qab,qdz hl k2 k3,bx];simp
  · rw[bne_t c1,cond_true,if_neg c1];by_cases c2:cellI p m.2.1=0
    · rw[bne_f c2,cond_false,if_pos c2,qab,qab,qab,qab,qdz hl k2 k3,qdz hl hrg.2.2.1 hrg.2.2.2,be];simp
    · rw[bne_t c2,cond_true,if_neg c2,qab,qab,qab,qab,qab,qdz hl k2 k3,qdz hl hrg.2.2.1 hrg.2.2.2,bx,be];simp
theorem qpd {A:Type} {s t s' t':List A} (h:s++t=s'++t') (hl:t.length=t'.length):s=s'∧t=t':=List.append_inj' h hl
def MarkB (M:List UInt8):Prop:=∀b∈M,¬b=120∧¬b=64
theorem qjX {n:Int} (h:0≤n∧n<8):(¬by8 (97+n)=120∧¬by8 (97+n)=64)∧(¬by8 (49+n)=120∧¬by8 (49+n)=64)∧¬by8 (97+n)=61:=by
  have:n=0∨n=1∨n=2∨n=3∨n=4∨n=5∨n=6∨n=7:=by omega
  rcases this with rfl | rfl | rfl | rfl | rfl | rfl | rfl | rfl<;>decide
theorem qqi {r:Rules} {p:Place} {m:Mv} (hb:OnB r m.1):MarkB (bl (markT r p m)):=by
  have hc:=qjX hb.c;have hd:=qjX hb.d;unfold markT;split
  · intro b hb';cases hb'
  · split
    · intro b hb';have:bl (colT (m.1.tmod r.width))=[by8 (97+m.1.tmod r.width)]:=rfl;rw[this,List.mem_singleton] at hb';subst hb';exact hc.1
    · split
      · intro b hb';have:bl (rowT (m.1.tdiv r.width))=[by8 (49+m.1.tdiv r.width)]:=rfl;rw[this,List.mem_singleton] at hb';subst hb';exact hd.2.1
      · intro b hb';rw[bl_sq] at hb';rcases List.mem_cons.1 hb' with rfl | hb'
        · exact hc.1
        · rw[List.mem_singleton] at hb';subst hb';exact hd.2.1
def qL:Option UInt8→List UInt8
  | none=>[]
  | some a=>[61,a]
theorem goB_inj {L L':UInt8} {M M':List UInt8} {x x':Bool} {c d c' d':UInt8} {q q':Option UInt8} (hM:MarkB M) (hM':MarkB M') (hd:∀a,q'=some a→¬d=a) (hd':∀a,q=some a→¬d'=a) (hc:¬c=61) (hc':¬c'=61)
    (h:goB L M (if x then [120] else []) [c,d] (qL q)=goB L' M' (if x' then [120] else []) [c',d'] (qL q')) :
    L=L'∧M=M'∧c=c'∧d=d'∧q=q':=by
  unfold goB at h;rw[List.cons.injEq] at h;obtain⟨h1,h⟩:=h;have hx:∀ {M M':List UInt8} {x x':Bool},MarkB M→MarkB M'→M++(if x then [120] else [])=M'++(if x' then [120] else [])→M=M':=by
    intro M M' x x' hM hM' e
    cases x<;>cases x'
    · simpa using e
    · exfalso;simp only[Bool.false_eq_true,if_false,List.append_nil,if_true] at e;exact(hM 120 (by rw[e];simp)).1 rfl
    · exfalso;simp only[Bool.false_eq_true,if_false,List.append_nil,if_true] at e;exact(hM' 120 (by rw[←e];simp)).1 rfl
    · exact(qpd e rfl).1
  match q,q',h with
  | none,none,h =>
    simp only[qL,List.append_nil] at h;obtain⟨a,b⟩:=qpd h rfl;simp only[List.cons.injEq,and_true] at b;exact⟨h1,hx hM hM' a,b.1,b.2,rfl⟩
  | some a,some a',h =>
    obtain⟨e1,e2⟩:=qpd h rfl;obtain⟨e3,e4⟩:=qpd e1 rfl;simp only[qL,List.cons.injEq,and_true,true_and] at e2 e4;exact⟨h1,hx hM hM' e3,e4.1,e4.2,by rw[e2]⟩
  | none,some a',h =>
    exfalso;simp only[qL,List.append_nil] at h;have e:[c,d]=[61,a']:=(qpd h rfl).2;simp only[List.cons.injEq,and_true] at e;exact hc e.1
  | some a,none,h =>
    exfalso;simp only[qL,List.append_nil] at h;have e:[61,a]=[c',d']:=(qpd h rfl).2;simp only[List.cons.injEq,and_true] at e;exact hc' e.1.symm
theorem mv_ext {x y:Mv} (h1:x.1=y.1) (h2:x.2.1=y.2.1) (h3:x.2.2.1=y.2.2.1):x=y:=by
  obtain⟨a,b,c,⟨⟩⟩:=x;obtain⟨a',b',c',⟨⟩⟩:=y;simp only at h1 h2 h3;subst h1 h2 h3;rfl
theorem sq_eq {r:Rules} {a b:Int} (ha:OnB r a) (hb:OnB r b) (h:a.tmod r.width=b.tmod r.width) (h':a.tdiv r.width=b.tdiv r.width):a=b:=by
  have e1:=Int.mul_tdiv_add_tmod a r.width;have e2:=Int.mul_tdiv_add_tmod b r.width;rw[h,h'] at e1;omega
theorem mark_inj {r:Rules} {p:Place} {m n:Mv} (hbm:OnB r m.1) (hbn:OnB r n.1) (hr:n.1∈rivals r p m) (h:markT r p m=markT r p n):m.1=n.1:=by
  have hne:¬(rivals r p m).length=0:=fun e=>by
    rw[List.length_eq_zero_iff.1 e] at hr;cases hr
  have c1:(colT (m.1.tmod r.width)).size=1:=rfl;have size1:∀i,(colT i).size=1∧(rowT i).size=1:=fun i=>⟨rfl,rfl⟩;have size2:∀i,(sqT r i).size=2:=fun _=>rfl;have size0:e0.size=0:=rfl;unfold markT at h;rw[if_neg hne] at h;by_cases a1:(rivals r p m).any (sameC r m)=false
  · rw[if_pos a1] at h;have hnc:¬n.1.tmod r.width=m.1.tmod r.width:=fun e=>by
      rw[List.any_eq_false] at a1;exact a1 _ hr (beq_t e)
    exfalso;split at h
    · have:=congrArg ByteArray.size h;rw[(size1 _).1,size0] at this;cases this
    · split at h
      · exact hnc ((col_inj hbm.c hbn.c).1 h).symm
      · split at h
        · exact qp8 hbm.c hbn.d h
        · have:=congrArg ByteArray.size h;rw[(size1 _).1,size2] at this;cases this
  · rw[if_neg a1] at h;by_cases a2:(rivals r p m).any (sameR r m)=false
    · rw[if_pos a2] at h;have hnr:¬n.1.tdiv r.width=m.1.tdiv r.width:=fun e=>by
        rw[List.any_eq_false] at a2;exact a2 _ hr (beq_t e)
      exfalso;split at h
      · have:=congrArg ByteArray.size h;rw[(size1 _).2,size0] at this;cases this
      · split at h
        · exact qp8 hbn.c hbm.d h.symm
        · split at h
          · exact hnr ((row_inj hbm.d hbn.d).1 h).symm
          · have:=congrArg ByteArray.size h;rw[(size1 _).2,size2] at this;cases this
    · rw[if_neg a2] at h;split at h
      · have:=congrArg ByteArray.size h;rw[size2,size0] at this;cases this
      · split at h
        · have:=congrArg ByteArray.size h;rw[size2,(size1 _).1] at this;cases this
        · split at h
          · have:=congrArg ByteArray.size h;rw[size2,(size1 _).2] at this;cases this
          · have e:=congrArg bl h;rw[bl_sq,bl_sq] at e;simp only[List.cons.injEq,and_true] at e;have hc:=hbm.c;have hd:=hbm.d;have hc':=hbn.c;have hd':=hbn.d;have q1:=qfI (by omega) (by omega) e.1;have q2:=qfI (by omega) (by omega) e.2;exact sq_eq hbm hbn (by omega) (by omega)
theorem text_inj {r:Rules} {p:Place} {m n:Mv} (hl:Lets r) (h:Valid r p) (ha:qh r p m=true) (hb:qh r p n=true) (e:moveT r p m=moveT r p n):m=n:=by
  have hrm:=qO ha;have hrn:=qO hb;have tm:=qaW h (n:=m.2.1) hrm.2.1.1 hrm.2.1.2;have tn:=qaW h (n:=n.2.1) hrn.2.1.1 hrn.2.1.2;have lm:=hl.rng m.2.2.1 hrm.2.2.1 hrm.2.2.2;have ln:=hl.rng n.2.2.1 hrn.2.2.1 hrn.2.2.2;have bat:bl atT=[64]:=rfl;have tmc:=tm.c;have tmd:=tm.d;have tnc:=tn.c;have tnd:=tn.d;have drop:∀x:Mv,qh r p x=true→x.1<0→bl (moveT r p x)=[by8 (qah r x.2.2.1).1,64,by8 (97+x.2.1.tmod r.width),by8 (49+x.2.1.tdiv r.width)]:=fun x hx hx0=>by
    have hrx:=qO hx;unfold moveT;rw[if_pos hx0,qab,qab,qdz hl hrx.2.2.1 hrx.2.2.2,bat,bl_sq];rfl
  have go:∀x:Mv,qh r p x=true→¬x.1<0→bl (moveT r p x)=goB (by8 (qah r (qE (cellI p x.1))).1) (bl (markT r p x)) (xB p x) (bl (sqT r x.2.1)) (qB r p x):=fun x hx hx0=>by
    unfold moveT;rw[if_neg hx0,bl_go hl h hx hx0]
  have mixed:∀x y:Mv,qh r p x=true→qh r p y=true→x.1<0→¬y.1<0→¬moveT r p x=moveT r p y:=fun x y hx hy hx0 hy0 e=>by
    have hry:=qO hy;have ty:=qaW h (n:=y.2.1) hry.2.1.1 hry.2.1.2;have by':=qaW h (n:=y.1) (by omega) hry.1.2;have hM:=qqi (p:=p) (m:=y) by';have hs:=qjX ty.c;have e:=congrArg bl e;rw[drop x hx hx0,go y hy hy0,bl_sq] at e;unfold goB xB at e;rw[List.cons.injEq] at e;have e:=e.2
    cases hb:bl (markT r p y) with
    | nil =>
      rw[hb] at e;split at e
      · simp only[List.nil_append,List.cons_append,List.cons.injEq] at e;exact hs.1.2 e.1.symm
      · simp only[List.nil_append,List.cons_append,List.cons.injEq] at e;exact absurd e.1 (by decide)
    | cons b t =>
      rw[hb] at e;simp only[List.cons_append,List.cons.injEq] at e;exact(hM b (by rw[hb];exact List.mem_cons_self)).2 e.1.symm
  by_cases cm:m.1<0
  · by_cases cn:n.1<0
    · have e:=congrArg bl e;rw[drop m ha cm,drop n hb cn] at e;simp only[List.cons.injEq,and_true,true_and] at e;have q1:=qfI (by omega) (by omega) e.1;have q2:=qfI (by omega) (by omega) e.2.1;have q3:=qfI (by omega) (by omega) e.2.2;exact mv_ext (by omega) (sq_eq tm tn (by omega) (by omega)) (hl.inj _ _ hrm.2.2.1 hrm.2.2.2 hrn.2.2.1 hrn.2.2.2 q1)
    · exact absurd e (mixed m n ha hb cm cn)
  · by_cases cn:n.1<0
    · exact absurd e.symm (mixed n m hb ha cn cm)
    · have fm:=qaW h (n:=m.1) (by omega) hrm.1.2;have fn:=qaW h (n:=n.1) (by omega) hrn.1.2;obtain⟨hc,hc2⟩:=qcg ha cm;obtain⟨hd,hd2⟩:=qcg hb cn;obtain⟨_,k2,k3⟩:=qcP h hc;obtain⟨_,j2,j3⟩:=qcP h hd;have lk:=hl.rng _ k2 k3;have lj:=hl.rng _ j2 j3;have e:=congrArg bl e;rw[go m ha cm,go n hb cn,bl_sq,bl_sq] at e;have hxB:∀x:Mv,xB p x=if (cellI p x.2.1 !=0)=true then [120] else []:=fun x=>by
        unfold xB;by_cases c:cellI p x.2.1=0
        · rw[if_pos c,bne_f c];rfl
        · rw[if_neg c,bne_t c];rfl
      have hqB:∀x:Mv,qB r p x=qL (if x.2.2.1=qE (cellI p x.1) then none else some (by8 (qah r x.2.2.1).1)):=fun x=>by
        unfold qB;by_cases c:x.2.2.1=qE (cellI p x.1)
        · rw[if_pos c,if_pos c];rfl
        · rw[if_neg c,if_neg c];rfl
      rw[hxB m,hxB n,hqB m,hqB n] at e;have lowhigh:∀(x y:Mv) (a:UInt8),qh r p x=true→0≤y.2.1.tdiv r.width∧y.2.1.tdiv r.width<8→(if x.2.2.1=qE (cellI p x.1) then none else some (by8 (qah r x.2.2.1).1):Option UInt8)=some a→¬by8 (49+y.2.1.tdiv r.width)=a:=fun x y a hx hy hq hh=>by
        have hrx:=qO hx;have:=hl.rng x.2.2.1 hrx.2.2.1 hrx.2.2.2;split at hq
        · cases hq
        · cases hq;have:=qfI (by omega) (by omega) hh;omega
      obtain⟨g1,g2,g3,g4,g5⟩:=goB_inj (qqi (p:=p) fm) (qqi (p:=p) fn) (fun a ha'=>lowhigh n m a hb tmd ha') (fun a ha'=>lowhigh m n a ha tnd ha') (qjX tmc).2.2 (qjX tnc).2.2 e;have kk:=hl.inj _ _ k2 k3 j2 j3 (qfI (by omega) (by omega) g1);have to:m.2.1=n.2.1:=by
        have q2:=qfI (by omega) (by omega) g3;have q3:=qfI (by omega) (by omega) g4;exact sq_eq tm tn (by omega) (by omega)
      have hcell:cellI p n.1=cellI p m.1:=by
        have e1:=Int.mul_tdiv_add_tmod (cellI p m.1-1) 2;have e2:=Int.mul_tdiv_add_tmod (cellI p n.1-1) 2;have e3:(cellI p m.1-1).tdiv 2=(cellI p n.1-1).tdiv 2:=kk;omega
      have from':m.1=n.1:=by
        refine Decidable.byContradiction fun hne=>hne (mark_inj fm fn ?_ (qdX g2));unfold rivals;refine List.mem_map.2 ⟨n,List.mem_filter.2 ⟨(qaS n).2 hb,?_⟩,rfl⟩;unfold riv;rw[decide_eq_true (by omega),bne_t (fun e=>hne e.symm),beq_t to.symm,beq_t hcell];rfl
      refine mv_ext from' to ?_;rw[kk] at g5;by_cases p1:m.2.2.1=qE (cellI p n.1)
      · by_cases p2:n.2.2.1=qE (cellI p n.1)
        · rw[p1,p2]
        · rw[if_pos p1,if_neg p2] at g5;cases g5
      · by_cases p2:n.2.2.1=qE (cellI p n.1)
        · rw[if_neg p1,if_pos p2] at g5;cases g5
        · rw[if_neg p1,if_neg p2,Option.some.injEq] at g5;exact hl.inj _ _ hrm.2.2.1 hrm.2.2.2 hrn.2.2.1 hrn.2.2.2 (qfI (by omega) (by omega) g5)

theorem read_L1 (l:List Mv) (e:Int) (r:Rules) (p:Place) (s:ByteArray) (i:Int):qco (l,(e,())) r p s ((i,()),())=bif (decide (i<((l.length:Nat):Int))) then(req (inb i l.length) (Option.bind (qc1 r p l (getD' l i.toNat d0)) fun t=>bif (t.toList==s.toList) then(Option.map Sum.inr (Option.map Sum.inr (bif (decide (i<0)) then some (d0,(13,())) else req (inb i l.length) (some (getD' l i.toNat d0,(0,())))))) else some (Sum.inl ((w64 (i+1),()),()))))
  else some (Sum.inr (Sum.inl ((),()))):=rfl
def qt6 (r:Rules) (p:Place) (s:ByteArray):Mv×Int×Unit:=match (qag r p).find? (fun m=>(moveT r p m).toList==s.toList) with
  | some m=>(m,(0,()))
  | none=>(d0,(13,()))
theorem read_spec (r:Rules) (p:Place) (s:ByteArray) (hL:Letters r) (hr:Rng qR r) (hn:p.1.length≤9223372036854775807):qdD r p s=some (if qaa r p=0 then qt6 r p s else(d0,(qaa r p,()))):=by
  unfold qdD qt6;rw[qqm r p hr hn,Option.bind_some];by_cases c:qaa r p=0
  · have hv:=qkI c;have hlen:=qeB hv;simp only[c,if_true];rw[show((0:Int)!=0)=false from rfl,cond_false];have hof:∀i (hi:i<(qag r p).length),qc1 r p (qag r p) (qag r p)[i]=some (moveT r p (qag r p)[i]):=fun i hi=>of_spec hL hv ((qaS _).1 (List.getElem_mem hi));generalize qag r p=l at hlen hof ⊢
    have key:∀k i,i+k=l.length→iterW (qco (l,(0,())) r p s) (((i:Int),()),())=some (match (l.drop i).find? (fun m=>(moveT r p m).toList==s.toList) with
      | some m => .inr (m,(0,()))
      | none => .inl ((),())):=by
      intro k
      induction k with
      | zero =>
        intro i hi
        have:i=l.length:=by omega
        subst this;refine qg ?_;rw[read_L1,nltd,cond_false,List.drop_length];rfl
      | succ k ih =>
        intro i hi
        have hil:i<l.length:=by omega
        have hF:=read_L1 l 0 r p s (i:Int);rw[ltd l i hil,cond_true,inbN l i hil,qa,qa] at hF;simp only[Int.toNat_natCast] at hF;rw[gd_eq l i hil,hof i hil,Option.bind_some,decide_eq_false (show ¬(i:Int)<0 by omega),cond_false,qe (n:=(i:Int)+1) (by omega) (by omega)] at hF;rw[List.drop_eq_getElem_cons hil]
        cases hc:((moveT r p l[i]).toList==s.toList) with
        | true =>
          rw[hc] at hF;rw[qg hF,List.find?_cons,hc]
        | false =>
          rw[hc] at hF;rw[qn hF,List.find?_cons,hc];exact ih (i+1) (by omega)
    have k0:=key l.length 0 (by omega);rw[List.drop_zero] at k0;have k0':iterW (qco (l,(0,())) r p s) (((0:Int),()),())=_:=k0;rw[k0',Option.bind_some]
    cases l.find? (fun m=>(moveT r p m).toList==s.toList)<;>rfl
  · simp only[if_neg c];rw[bne_t c,cond_true]

theorem step_0 {r:Rules} {s:List Place×List Mv} {m:Mv} (c:stepG r s m=0):qdM r s.1=0∧qh r (lastP s.1) m=true:=by
  unfold stepG at c;split at c
  · rename_i h1;split at c
    · rename_i h2;exact⟨h1,h2⟩
    · cases c
  · cases c

theorem bt_ext {a b:ByteArray} (h:a.data.toList=b.data.toList):a=b:=by
  obtain⟨⟨l⟩⟩:=a;obtain⟨⟨k⟩⟩:=b;simp only at h;rw[h]
theorem bt_app (a b:ByteArray):(a++b).data.toList=a.data.toList++b.data.toList:=by simp[ByteArray.data_append]
theorem bt_size (a:ByteArray):a.size=a.data.toList.length:=by
  rw[Array.length_toList];rfl
def oneT (c:UInt8):ByteArray:=ByteArray.mk #[c]
def joinB (c:UInt8) (l:List ByteArray):ByteArray:=⟨(Go.Lib.join (l.map (·.data.toList)) [c]).toArray⟩
theorem joinB_one (c:UInt8) (x:ByteArray):joinB c [x]=x:=bt_ext (by
  show Go.Lib.join [x.data.toList] [c]=_
  exact Go.Lib.join_one _ _)
theorem qvn (c:UInt8) (x y:ByteArray) (l:List ByteArray):joinB c (x::y::l)=(x++oneT c)++joinB c (y::l):=bt_ext (by
  rw[bt_app,bt_app];show Go.Lib.join (x.data.toList::y.data.toList::l.map (·.data.toList)) [c]=(x.data.toList++[c])++Go.Lib.join (y.data.toList::l.map (·.data.toList)) [c]
  simp[Go.Lib.join,List.intercalate,List.intersperse])
theorem qpe (c:UInt8) (l:List ByteArray) (h1:l.length≤140737488355328) (h2:(joinB c l).size≤140737488355328):joinS l (ByteArray.mk #[c])=some (joinB c l):=by
  unfold joinS
  have e:(Go.Lib.join (l.map (·.data.toList)) (ByteArray.mk #[c]).data.toList).length=(joinB c l).size:=by rw[bt_size];rfl
  rw[e,Nat.ble_eq_true_of_le h1,Nat.ble_eq_true_of_le h2];rfl
abbrev TRec:=List (ByteArray×ByteArray×Unit)×ByteArray×List (Int×Mv×ByteArray×Unit)×Int×Unit
abbrev qf6:=List ((Mv×ByteArray×Unit)×Option (List Nat))
abbrev rd (r:Rules) (s:ByteArray) (x:TRec):Rules×ByteArray×TRec×Unit:=(r,(s,(x,())))
def mkB (l:List UInt8):ByteArray:=⟨l.toArray⟩
theorem bl_mk (l:List UInt8):bl (mkB l)=l:=by simp[bl,mkB]
theorem mk_bl (s:ByteArray):mkB (bl s)=s:=qdX (bl_mk _)
theorem qU (l:List UInt8):(mkB l).size=l.length:=by simp[mkB,ByteArray.size]
theorem qbe (l:List UInt8):(mkB l).toList=l:=by rw[ByteArray.toList_eq];simp[mkB]
theorem qnG (a b:List UInt8):mkB a++mkB b=mkB (a++b):=qdX (by rw[qab];simp[bl_mk])
def tr (s:ByteArray):ByteArray:=⟨((bl s).dropWhile (fun b=>([32,10]:List UInt8).contains b)).toArray⟩
theorem trim_eq (s:ByteArray):qto s (ByteArray.mk #[32,10])=some (tr s):=rfl
def NB (l:List UInt8):Prop:=∀b,l.head?=some b→¬b=32∧¬b=10
def St (l:List UInt8) (s:ByteArray):Prop:=NB l∧tr s=mkB l
theorem tr_nb {l:List UInt8} (h:NB l):tr (mkB l)=mkB l:=by
  unfold tr;rw[bl_mk]
  cases l with
  | nil=>rfl
  | cons b l =>
    obtain⟨h1,h2⟩:=h b rfl
    have:([32,10]:List UInt8).contains b=false:=by simp[h1,h2]
    rw[List.dropWhile_cons,this];rfl
theorem St.self {l:List UInt8} (h:NB l):St l (mkB l):=⟨h,tr_nb h⟩
theorem St.blank {l:List UInt8} {b:UInt8} (h:NB l) (hb:b=32∨b=10):St l (mkB (b::l)):=by
  refine⟨h,?_⟩;have:=tr_nb h;unfold tr at this ⊢;rw[bl_mk] at this ⊢
  have hc:([32,10]:List UInt8).contains b=true:=by rcases hb with rfl | rfl<;>rfl
  rw[List.dropWhile_cons,hc];exact this
theorem qmq {l:List UInt8} {s:ByteArray} (h:St l s) (r:Rules) (x:TRec):qK (rd r s x)=some (rd r (mkB l) x,()):=by
  unfold qK;rw[trim_eq,h.2];rfl
theorem quc (c:UInt8) (l:List UInt8):strAt (mkB (c::l)) 0=some c:=by
  unfold strAt;rfl
theorem got_no {l:List UInt8} {s:ByteArray} (h:St l s) {c:Int} (hc:∀b,l.head?=some b→¬((b.toNat:Nat):Int)=c) (r:Rules) (x:TRec):qt (rd r s x) c=some (rd r (mkB l) x,false):=by
  unfold qt;show Option.bind (qK (rd r s x)) _=_;rw[qmq h,Option.bind_some]
  have e0:(ByteArray.mk #[]).toList=[]:=by rw[ByteArray.toList_eq]
  show Option.bind (gopt (!((mkB l).toList==(ByteArray.mk #[]).toList)) 0 (strAt (mkB l) (0:Int))) _=_;rw[e0]
  cases l with
  | nil =>
    simp only[qbe];rfl
  | cons b l =>
    rw[quc];have h2:=hc b rfl
    have h1:((mkB (b::l)).toList==([]:List UInt8))=false:=by rw[qbe];rfl
    simp only[h1,Bool.not_false,gopt,cond_true,Option.bind_some,Bool.false_or];have h3:((((b.toNat:Nat):Int)!=c):Bool)=true:=bne_t h2;rw[h3];rfl
theorem qo6 {l:List UInt8} {s:ByteArray} (h:St l s) (hc:∀b,l.head?=some b→¬b=123) (r:Rules) (x:TRec):qr (rd r s x)=some (rd r (mkB l) x,ByteArray.mk #[]):=by
  unfold qr;show Option.bind (qt (rd r s x) 123) _=_
  rw[got_no h (fun b hb e=>hc b hb (by
    have:b.toNat=123:=by omega
    exact UInt8.toNat_inj.1 this))]
  rfl
def stops:List UInt8:=[32,10,40,41,123,125]
theorem qoV:∀(W:List UInt8) (b:UInt8) (l:List UInt8),(∀c∈W,stops.contains c=false)→stops.contains b=true→Go.Lib.indexAny (W++b::l) stops=((W.length:Nat):Int)
  | [],b,l,_,hb=>by
    show(if stops.contains b then(0:Int) else _)=_;rw[if_pos hb];rfl
  | c::W,b,l,hW,hb=>by
    have ih:=qoV W b l (fun d hd=>hW d (List.mem_cons_of_mem _ hd)) hb;have hc:=hW c List.mem_cons_self;show(if stops.contains c then(0:Int) else if Go.Lib.indexAny (W++b::l) stops == -1 then -1 else Go.Lib.indexAny (W++b::l) stops+1)=_;rw[ih,if_neg (by rw[hc];simp),if_neg (by simp),List.length_cons];omega
theorem qo4 (a b:List UInt8):(mkB (a++b)).extract 0 a.length=mkB a:=by
  refine qdX ?_;simp[bl,mkB,ByteArray.data_extract]
theorem qse (a b:List UInt8) (n:Nat) (hn:n=a.length+b.length):(mkB (a++b)).extract a.length n=mkB b:=by
  refine qdX ?_;subst hn;simp[bl,mkB,ByteArray.data_extract]
theorem qpW {W:List UInt8} {b:UInt8} {l:List UInt8} {s:ByteArray} (h:St (W++b::l) s) (hW:∀c∈W,stops.contains c=false) (hb:stops.contains b=true) (ha:∀c∈W++b::l,c.toNat<128) (hn:(W++b::l).length≤100000) (r:Rules) (x:TRec) :
    qJ (rd r s x)=some (rd r (mkB (W++b::l)) x,mkB W):=by
  unfold qJ;show Option.bind (qK (rd r s x)) _=_;rw[qmq h,Option.bind_some];have hi:qga (mkB (W++b::l)) (ByteArray.mk #[32,10,40,41,123,125])=some ((W.length:Nat):Int):=by
    unfold qga
    have a1:Nat.ble (mkB (W++b::l)).size 4294967280=true:=by rw[qU];exact Nat.ble_eq_true_of_le (by omega)
    have a2:((mkB (W++b::l)).data.toList.all fun b=>decide (b.toNat<128))=true:=List.all_eq_true.2 fun c hc=>decide_eq_true (ha c (by simpa[mkB] using hc));rw[a1,a2];show some (Go.Lib.indexAny (mkB (W++b::l)).data.toList stops)=_;rw[show(mkB (W++b::l)).data.toList=W++b::l from bl_mk _,qoV W b l hW hb]
  show Option.bind (qga (mkB (W++b::l)) _) _=_;rw[hi,Option.bind_some,decide_eq_false (by omega),cond_false,Option.bind_some];have hbd:qj (0:Int) ((W.length:Nat):Int) (mkB (W++b::l)).size=true:=by
    rw[qU];simp[qj];omega
  show req (qj (0:Int) ((W.length:Nat):Int) (mkB (W++b::l)).size) _=_;rw[hbd,qa];show some (rd r (mkB (W++b::l)) x,(mkB (W++b::l)).extract 0 (((W.length:Nat):Int)).toNat)=_;rw[Int.toNat_natCast,qo4]
theorem qpF {c:UInt8} {l:List UInt8} {s:ByteArray} (h:St (c::l) s) {z:Int} (hz:((c.toNat:Nat):Int)=z) (r:Rules) (x:TRec):qt (rd r s x) z=some (rd r (mkB l) x,true):=by
  unfold qt;show Option.bind (qK (rd r s x)) _=_;rw[qmq h,Option.bind_some]
  have e0:(ByteArray.mk #[]).toList=[]:=by rw[ByteArray.toList_eq]
  show Option.bind (gopt (!((mkB (c::l)).toList==(ByteArray.mk #[]).toList)) 0 (strAt (mkB (c::l)) (0:Int))) _=_;rw[e0,quc]
  have h1:((mkB (c::l)).toList==([]:List UInt8))=false:=by rw[qbe];rfl
  simp only[h1,Bool.not_false,gopt,cond_true,Option.bind_some,Bool.false_or];rw[show((((c.toNat:Nat):Int)!=z):Bool)=false from bne_f hz,cond_false];have hbd:qj (1:Int) (((mkB (c::l)).size:Nat):Int) (mkB (c::l)).size=true:=by
    rw[qU];simp[qj];omega
  show req (qj (1:Int) (((mkB (c::l)).size:Nat):Int) (mkB (c::l)).size) _=_;rw[hbd,qa];have:=qse [c] l (mkB (c::l)).size (by rw[qU];simp;omega);have e:(mkB (c::l)).extract 1 (((mkB (c::l)).size:Nat):Int).toNat=mkB l:=by
    rw[Int.toNat_natCast];exact this
  rw[e]
theorem qtq {z:UInt8} (zs:List UInt8):∀(a l:List UInt8),z∉a→Go.Lib.index (a++z::(zs++l)) (z::zs)=((a.length:Nat):Int)
  | [],l,_=>by
    show(if (z::zs).isPrefixOf (z::(zs++l)) then(0:Int) else _)=_;rw[if_pos (by simp)];rfl
  | b::a,l,h=>by
    have ih:=qtq zs a l (fun e=>h (List.mem_cons_of_mem _ e));have hb:¬z=b:=fun e=>h (by rw[e];exact List.mem_cons_self);show(if (z::zs).isPrefixOf (b::(a++z::(zs++l))) then(0:Int) else if Go.Lib.index (a++z::(zs++l)) (z::zs) == -1 then -1 else Go.Lib.index (a++z::(zs++l)) (z::zs)+1)=_;rw[ih,if_neg (by simp[List.isPrefixOf,hb]),if_neg (by simp),List.length_cons];omega
theorem cut_at {z:UInt8} (zs a l:List UInt8) (h:z∉a):Go.Lib.cut (a++z::(zs++l)) (z::zs)=(a,l,true):=by
  unfold Go.Lib.cut;rw[qtq zs a l h,if_pos (by omega),Int.toNat_natCast];refine Prod.ext (by simp) (Prod.ext ?_ rfl);show(a++z::(zs++l)).drop (a.length+(zs.length+1))=l;rw[←List.drop_drop,List.drop_left];simp
theorem qsn {z:UInt8} (zs a l:List UInt8) (h:z∉a) (hn:(a++z::(zs++l)).length≤100000) (r:Rules) (x:TRec):qZ (rd r (mkB (a++z::(zs++l))) x) (mkB (z::zs))=some (rd r (mkB l) x,mkB a):=by
  unfold qZ;have hc:cutS (mkB (a++z::(zs++l))) (mkB (z::zs))=some (mkB a,(mkB l,(true,()))):=by
    unfold cutS;rw[show Nat.ble (mkB (a++z::(zs++l))).size 4294967280=true by rw[qU];exact Nat.ble_eq_true_of_le (by omega),cond_true];have:=cut_at zs a l h;rw[show(mkB (a++z::(zs++l))).data.toList=a++z::(zs++l) from bl_mk _,show(mkB (z::zs)).data.toList=z::zs from bl_mk _,this];rfl
  show Option.bind (cutS (mkB (a++z::(zs++l))) (mkB (z::zs))) _=_;rw[hc,Option.bind_some];simp only[Bool.not_true,cond_false];have hcl:qe2 (mkB a)=some (mkB a):=by
    unfold qe2 qtR;rw[show Nat.ble (mkB a).size 281474976710656=true by rw[qU];exact Nat.ble_eq_true_of_le (by simp at hn;omega),cond_true];rfl
  rw[hcl];rfl
theorem qnk {a l:List UInt8} {s:ByteArray} (h:St (123::(a++125::l)) s) (ha:(125:UInt8)∉a) (h0:¬a=[]) (hn:(a++125::l).length≤100000) (r:Rules) (x:TRec):qr (rd r s x)=some (rd r (mkB l) x,mkB a):=by
  unfold qr;show Option.bind (qt (rd r s x) 123) _=_;rw[qpF h (z:=123) rfl,Option.bind_some];simp only[Bool.not_true,cond_false];show Option.bind (qZ (rd r (mkB (a++125::([]++l))) x) (mkB [125])) _=_;rw[qsn [] a l ha hn,Option.bind_some];have h1:((mkB a).toList==(ByteArray.mk #[]).toList)=false:=by
    rw[qbe,show(ByteArray.mk #[]).toList=([]:List UInt8) by rw[ByteArray.toList_eq]];exact beq_f h0
  simp only[h1,cond_false]
theorem qmG (r:Rules) (p:Place) (m:Mv):(moveT r p m).size≤20:=by
  have l1:=qbx r m.2.2.1;have l2:=qbx r (qE (cellI p m.1));have l3:=qqV r p m;have l4:=qp0 r m.2.1;have l5:atT.size=1:=rfl;have l6:xT.size=1:=rfl;have l7:eqT.size=1:=rfl;unfold moveT goT;split
  · simp only[ByteArray.size_append];omega
  · cases (m.2.2.1 !=qE (cellI p m.1))<;>cases (cellI p m.2.1 !=0)<;>simp only[cond_true,cond_false,ByteArray.size_append]<;>omega
theorem reads_own {r:Rules} {p:Place} {m:Mv} (hl:Lets r) (h:Valid r p) (ha:qh r p m=true):qt6 r p (moveT r p m)=(m,(0,())):=by
  unfold qt6;have:(qag r p).find? (fun x=>(moveT r p x).toList==(moveT r p m).toList)=some m:=by
    have hmem:=(qaS m).2 ha
    cases hf:(qag r p).find? (fun x=>(moveT r p x).toList==(moveT r p m).toList) with
    | none =>
      have:=List.find?_eq_none.1 hf m hmem;simp at this
    | some x =>
      have h1:=List.find?_some hf;have h2:=(qaS x).1 (List.mem_of_find?_eq_some hf);simp only[qa1,decide_eq_true_eq] at h1;rw[text_inj hl h h2 ha h1]
  rw[this]
def okb (b:UInt8):Prop:=49≤b.toNat∧b.toNat≤122∧¬b.toNat=91
theorem qjo {n:Int} (h:49≤n∧n≤122∧¬n=91):okb (by8 n):=by
  unfold okb by8;have:(UInt8.ofNat n.toNat).toNat=n.toNat:=by
    rw[UInt8.toNat_ofNat'];exact Nat.mod_eq_of_lt (by omega)
  omega
theorem okb_stop {b:UInt8} (h:okb b):stops.contains b=false:=by
  refine Bool.eq_false_iff.2 fun e=>?_
  have e:b∈stops:=by simpa using e
  obtain⟨h1,h2,h3⟩:=h;unfold stops at e;simp only[List.mem_cons,List.not_mem_nil,or_false] at e
  rcases e with rfl | rfl | rfl | rfl | rfl | rfl<;>simp at h1 h2
theorem sq_ok {r:Rules} {n:Int} (hb:OnB r n):∀b∈bl (sqT r n),okb b:=by
  rw[bl_sq];have hc:=hb.c;have hd:=hb.d;intro b h;rcases List.mem_cons.1 h with rfl | h
  · exact qjo (by omega)
  · rw[List.mem_singleton] at h;subst h;exact qjo (by omega)
theorem mark_ok {r:Rules} {p:Place} {m:Mv} (hb:OnB r m.1):∀b∈bl (markT r p m),okb b:=by
  have hc:=hb.c;have hd:=hb.d;unfold markT;split
  · intro b h;cases h
  · split
    · intro b h;have:bl (colT (m.1.tmod r.width))=[by8 (97+m.1.tmod r.width)]:=rfl;rw[this,List.mem_singleton] at h;subst h;exact qjo (by omega)
    · split
      · intro b h;have:bl (rowT (m.1.tdiv r.width))=[by8 (49+m.1.tdiv r.width)]:=rfl;rw[this,List.mem_singleton] at h;subst h;exact qjo (by omega)
      · exact sq_ok hb
theorem qfR {r:Rules} {p:Place} {m:Mv} (hl:Lets r) (h:Valid r p) (ha:qh r p m=true):∃L t,bl (moveT r p m)=L::t∧65≤L.toNat∧∀b∈L::t,okb b:=by
  have hrg:=qO ha;have hto:=qaW h (n:=m.2.1) hrg.2.1.1 hrg.2.1.2;have b8:∀n:Int,65≤n∧n≤122→65≤(by8 n).toNat:=fun n hn=>by
    unfold by8;have:(UInt8.ofNat n.toNat).toNat=n.toNat:=by
      rw[UInt8.toNat_ofNat'];exact Nat.mod_eq_of_lt (by omega)
    omega
  unfold moveT;split
  · have hq:=hl.rng _ hrg.2.2.1 hrg.2.2.2;rw[qab,qab,qdz hl hrg.2.2.1 hrg.2.2.2];refine⟨_,_,rfl,b8 _ (by omega),?_⟩;intro b e;rcases List.mem_cons.1 e with rfl | e
    · exact qjo (by omega)
    · rcases List.mem_append.1 e with e | e
      · have:bl atT=[64]:=rfl;have e:b∈bl atT:=e;rw[this,List.mem_singleton] at e;subst e;exact⟨by decide,by decide,by decide⟩
      · exact sq_ok hto b e
  · rename_i hm;obtain⟨hc,hc2⟩:=qcg ha hm;obtain⟨k1,k2,k3⟩:=qcP h hc;have hq:=hl.rng _ k2 k3;have hq2:=hl.rng _ hrg.2.2.1 hrg.2.2.2;have hfr:=qaW h (n:=m.1) (by omega) hrg.1.2;rw[bl_go hl h ha hm];unfold goB;refine⟨_,_,rfl,b8 _ (by omega),?_⟩;intro b e;rcases List.mem_cons.1 e with rfl | e
    · exact qjo (by omega)
    · rcases List.mem_append.1 e with e | e
      · rcases List.mem_append.1 e with e | e
        · rcases List.mem_append.1 e with e | e
          · exact mark_ok hfr b e
          · unfold xB at e;split at e
            · cases e
            · rw[List.mem_singleton] at e;subst e;exact⟨by decide,by decide,by decide⟩
        · exact sq_ok hto b e
      · unfold qB at e;split at e
        · cases e
        · rcases List.mem_cons.1 e with rfl | e
          · exact⟨by decide,by decide,by decide⟩
          · rw[List.mem_singleton] at e;subst e;exact qjo (by omega)
theorem qn0:(ByteArray.mk #[]).toList=[]:=by rw[ByteArray.toList_eq]
def sep (l:List UInt8):List UInt8:=if l.head?=some 41 then l else 32::l
theorem St.sep {l:List UInt8} (h:NB l):St l (mkB (sep l)):=by
  unfold Go.Proofs.YthidcmjpbokeeaaGreatDoor.sep;split
  · exact .self h
  · exact .blank h (.inl rfl)
theorem qpZ (l:List UInt8):l.length≤(sep l).length∧(sep l).length≤l.length+1:=by
  unfold sep
  split<;>simp
theorem qsD {l:List UInt8} {b:UInt8} (h:b∈sep l):b=32∨b∈l:=by
  unfold sep at h;split at h
  · exact .inr h
  · rcases List.mem_cons.1 h with h | h
    · exact .inl h
    · exact .inr h
def CmO (c:ByteArray):Prop:=(∀b∈bl c,32≤b.toNat∧b.toNat≤126∧¬b=123∧¬b=125)∧(bl c).length≤60
def mvC (r:Rules) (p:Place) (m:Mv) (c:ByteArray) (l:List UInt8):List UInt8:=bl (moveT r p m)++(if bl c=[] then sep l else 32::123::(bl c++125::sep l))
theorem mv_len (r:Rules) (p:Place) (m:Mv):(bl (moveT r p m)).length≤20:=by
  have hsz:=qmG r p m
  have hlen:(bl (moveT r p m)).length=(moveT r p m).size:=by unfold bl;rw[Array.length_toList];rfl
  omega
theorem mvC_len (r:Rules) (p:Place) (m:Mv) {c:ByteArray} (hc:CmO c) (l:List UInt8):(mvC r p m c l).length≤84+l.length:=by
  have h1:=mv_len r p m;have h2:=qpZ l;have h3:=hc.2;unfold mvC
  split<;>simp only[List.length_append,List.length_cons]<;>omega
theorem qs7 {r:Rules} {p:Place} {m:Mv} (hl:Lets r) (h:Valid r p) (ha:qh r p m=true) {c:ByteArray} (hc:CmO c) {l:List UInt8} (hasc:∀b∈l,b.toNat<128):∀b∈mvC r p m c l,b.toNat<128:=by
  obtain⟨L,t,e1,e2,e3⟩:=qfR hl h ha;have hs:∀b∈sep l,b.toNat<128:=fun b hb=>by
    rcases qsD hb with rfl | hb
    · decide
    · exact hasc b hb
  intro b hb;unfold mvC at hb;rcases List.mem_append.1 hb with hb | hb
  · rw[e1] at hb;have:=(e3 b hb).2.1;omega
  · split at hb
    · exact hs b hb
    · rcases List.mem_cons.1 hb with rfl | hb
      · decide
      · rcases List.mem_cons.1 hb with rfl | hb
        · decide
        · rcases List.mem_append.1 hb with hb | hb
          · have:=(hc.1 b hb).2.1;omega
          · rcases List.mem_cons.1 hb with rfl | hb
            · decide
            · exact hs b hb
theorem qtH {r:Rules} {p:Place} {m:Mv} (hl:Lets r) (h:Valid r p) (ha:qh r p m=true) (c:ByteArray) (l:List UInt8):∃L t,mvC r p m c l=L::t∧65≤L.toNat∧okb L:=by
  obtain⟨L,t,e1,e2,e3⟩:=qfR hl h ha;unfold mvC;rw[e1];exact⟨L,_,rfl,e2,e3 L List.mem_cons_self⟩
theorem qlX {L:UInt8} (h:65≤L.toNat) (ho:okb L) (n:UInt8) (hn:n.toNat<65∨n.toNat=91∨122<n.toNat):¬L=n:=fun e=>by
  subst e;obtain⟨_,a2,a3⟩:=ho;omega
theorem mvC_word {r:Rules} {p:Place} {m:Mv} (c:ByteArray) {l:List UInt8}:∃b l',mvC r p m c l=bl (moveT r p m)++b::l'∧stops.contains b=true:=by
  unfold mvC;split
  · unfold sep;split
    · rename_i h
      cases l with
      | nil=>cases h
      | cons b l =>
        have:b=41:=Option.some.inj h;subst this;exact⟨_,_,rfl,rfl⟩
    · exact⟨_,_,rfl,rfl⟩
  · exact⟨_,_,rfl,rfl⟩
theorem word_mv {r:Rules} {p:Place} {m:Mv} (hl:Lets r) (h:Valid r p) (ha:qh r p m=true) {c:ByteArray} (hc:CmO c) {l:List UInt8} {s:ByteArray} (hs:St (mvC r p m c l) s) (hasc:∀b∈l,b.toNat<128) (hn:l.length≤10000) (x:TRec) :
    qJ (rd r s x)=some (rd r (mkB (mvC r p m c l)) x,moveT r p m):=by
  obtain⟨L,t,e1,e2,e3⟩:=qfR hl h ha;obtain⟨b,l',e,hb⟩:=mvC_word (r:=r) (p:=p) (m:=m) c (l:=l);have h1:=qs7 hl h ha hc hasc;have h2:=mvC_len r p m hc l;rw[e] at hs h1 h2 ⊢;rw[qpW hs (fun b hb=>okb_stop (e3 b (by rw[←e1];exact hb))) hb h1 (by omega)];rw[show mkB (bl (moveT r p m))=moveT r p m from mk_bl _]
theorem quy {r:Rules} {p:Place} {m:Mv} (hr:Rng qR r) (c:qu r=0) (h:Valid r p) (ha:qh r p m=true) (h0:qaJ r p=0) {k:ByteArray} (hk:CmO k) {l:List UInt8} {s:ByteArray} (hs:St (mvC r p m k l) s) (hl:NB l) (hl2:∀b,l.head?=some b→¬b=123)
    (hasc:∀b∈l,b.toNat<128) (hn:l.length≤10000) (x:TRec) (ns:qf6) :
    ∃s',St l s'∧qas (rd r s x) ns p=some (rd r s' x,addP ns (m,(k,())),ns.length+1):=by
  have hls:=qqj c;obtain⟨L,t,e1,e2,e3⟩:=qfR hls h ha;have hsz:=qmG r p m
  have hlen:(bl (moveT r p m)).length=(moveT r p m).size:=by unfold bl;rw[Array.length_toList];rfl
  have hpe:=qmB c h;have hread:qdD r p (moveT r p m)=some (m,(0,())):=by
    rw[read_spec r p _ (qkY hr) hr (by have:=h.cells;have h2:=h.r0.area;have h3:((p.1.length:Nat):Int)=r.width*r.height:=this;omega),if_pos hpe,reads_own hls h ha]
  have h1:((moveT r p m).toList==(ByteArray.mk #[]).toList)=false:=by
    have:(moveT r p m).toList=bl (moveT r p m):=by rw[ByteArray.toList_eq];rfl
    rw[this,qn0,e1];rfl
  let T:=if bl k=[] then sep l else 32::123::(bl k++125::sep l)
  have hT:mvC r p m k l=bl (moveT r p m)++T:=rfl;have hsl:=qpZ l;have hcom:∃s',St l s'∧qr (rd r (mkB T) x)=some (rd r s' x,k):=by
    by_cases hk0:bl k=[]
    · have e:T=sep l:=if_pos hk0;refine⟨mkB l,.self hl,?_⟩;rw[e,qo6 (.sep hl) hl2];rw[show k=ByteArray.mk #[] from qdX (by rw[hk0];rfl)]
    · have e:T=32::123::(bl k++125::sep l):=if_neg hk0;refine⟨mkB (sep l),.sep hl,?_⟩;have hst:St (123::(bl k++125::sep l)) (mkB T):=by
        rw[e]
        exact .blank (fun b hb=>by
          have:(123:UInt8)=b:=Option.some.inj hb;subst this
          exact⟨by decide,by decide⟩) (.inl rfl)
      have hkl:=hk.2;rw[qnk hst (fun hm=>(hk.1 _ hm).2.2.2 rfl) hk0 (by simp only[List.length_append,List.length_cons];omega),mk_bl]
  obtain⟨s',hs',hcom⟩:=hcom;refine⟨s',hs',?_⟩;unfold qas;show Option.bind (qJ (rd r s x)) _=_;rw[word_mv hls h ha hk hs hasc hn,Option.bind_some];simp only[h1,cond_false,agree_self];rw[qjq h,Option.bind_some,h0];simp only[bne_self_eq_false,cond_false];rw[hread];simp only[Option.bind_some,bne_self_eq_false,cond_false];have hbd:qj (((moveT r p m).size:Nat):Int) (((mkB (mvC r p m k l)).size:Nat):Int) (mkB (mvC r p m k l)).size=true:=by
    rw[qU,hT,List.length_append,hlen];simp only[qj,Bool.and_eq_true,decide_eq_true_eq];omega
  rw[hbd,qa];have hdrop:(mkB (mvC r p m k l)).extract (((moveT r p m).size:Nat):Int).toNat (((mkB (mvC r p m k l)).size:Nat):Int).toNat=mkB T:=by
    rw[Int.toNat_natCast,Int.toNat_natCast,qU,hT,←hlen];exact qse _ _ _ (by simp)
  rw[hdrop];have hcom:qr (r,(mkB T,((x.1,(x.2.1,(x.2.2.1,x.2.2.2))),())))=some (rd r s' x,k):=hcom;show Option.bind (Option.bind (qr (r,(mkB T,((x.1,(x.2.1,(x.2.2.1,x.2.2.2))),())))) _) _=_;rw[hcom];rfl
theorem idx_none (s:List ByteArray) (v:ByteArray) (hn:s.length≤1000) (h:∀w∈s,¬v.toList=w.toList):qP s v=some (-1):=by
  unfold qP
  have:=qbD (f:=qA s v) s.length (fun i=>(((i:Int),()),())) (.inl ((),())) (fun i hi=>by
    unfold qA;rw[decide_eq_true (show(i:Int)<((s.length:Nat):Int) by omega),cond_true,at?_eq s (i:Int) (by omega) (by omega),Option.bind_some];simp only[Int.toNat_natCast];rw[show(v.toList==s[i].toList)=false from beq_f (h _ (List.getElem_mem _)),cond_false,qe (by omega) (by omega)]
    simp only[Int.natCast_add,Int.natCast_one]) (by
    unfold qA
    rw[decide_eq_false (show ¬((s.length:Nat):Int)<((s.length:Nat):Int) by omega),cond_false])
  rw[show iterW (qA s v) (((0:Int),()),())=_ from this];rfl
theorem idx_at (s:List ByteArray) (v:ByteArray) (hn:s.length≤1000) (i:Nat) (hi:i<s.length) (h:v.toList=s[i].toList) (hb:∀j (hj:j<i),¬v.toList=(s[j]'(by omega)).toList):qP s v=some (i:Int):=by
  unfold qP
  have:=qbD (f:=qA s v) i (fun i=>(((i:Int),()),())) (.inr (i:Int)) (fun j hj=>by
    unfold qA;rw[decide_eq_true (show(j:Int)<((s.length:Nat):Int) by omega),cond_true,at?_eq s (j:Int) (by omega) (by omega),Option.bind_some];simp only[Int.toNat_natCast];rw[show(v.toList==s[j].toList)=false from beq_f (hb j hj),cond_false,qe (by omega) (by omega)]
    simp only[Int.natCast_add,Int.natCast_one]) (by
    unfold qA;rw[decide_eq_true (show(i:Int)<((s.length:Nat):Int) by omega),cond_true,at?_eq s (i:Int) (by omega) (by omega),Option.bind_some];simp only[Int.toNat_natCast]
    rw[show(v.toList==s[i].toList)=true from beq_t h,cond_true])
  rw[show iterW (qA s v) (((0:Int),()),())=_ from this];rfl
def resL:List (List UInt8):=[[42],[49,45,48],[48,45,49],[49,47,50]]
abbrev resT:List ByteArray:=[ByteArray.mk #[42],ByteArray.mk #[49,45,48],ByteArray.mk #[48,45,49],ByteArray.mk #[49,47,50]]
theorem resT_eq:resT=resL.map mkB:=rfl
theorem res_move {L:UInt8} {t:List UInt8} (h:65≤L.toNat):qH resT (mkB (L::t))=some false:=by
  unfold qH
  rw[idx_none resT _ (by decide) (fun w hw e=>by
    rw[resT_eq] at hw;obtain⟨q,hq,rfl⟩:=List.mem_map.1 hw;rw[qbe,qbe] at e;unfold resL at hq;simp only[List.mem_cons,List.not_mem_nil,or_false] at hq
    rcases hq with rfl | rfl | rfl | rfl<;>(injection e with e1 e2;subst e1;simp at h))]
  rfl
theorem resT_at {j:Nat} (hj:j<4):resT[j]'(hj)=mkB (resL.getD j []):=by
  obtain rfl | rfl | rfl | rfl:j=0∨j=1∨j=2∨j=3:=by omega
  all_goals rfl
theorem resL_ne:∀i,i<4→∀j,j<i→¬resL.getD i []=resL.getD j []:=by decide
theorem res_idx {i:Nat} (hi:i<4):qP resT (mkB (resL.getD i []))=some (i:Int) :=
  idx_at resT _ (by decide) i hi (by rw[resT_at hi]) (fun j hj e=>by
    rw[resT_at (show j<4 by omega),qbe,qbe] at e
    exact resL_ne i hi j hj e)
theorem res_has {i:Nat} (hi:i<4):qH resT (mkB (resL.getD i []))=some true:=by
  unfold qH;rw[res_idx hi,Option.bind_some,decide_eq_true (by omega)]
abbrev flR (r:Rules) (s:ByteArray) (x:TRec):=(r.1,(r.2.1,(r.2.2.1,(r.2.2.2.1,(r.2.2.2.2.1,(r.2.2.2.2.2.1,(r.2.2.2.2.2.2.1,(r.2.2.2.2.2.2.2.1,(r.2.2.2.2.2.2.2.2.1,(r.2.2.2.2.2.2.2.2.2.1,(r.2.2.2.2.2.2.2.2.2.2.1,(s,(x.1,(x.2.1,(x.2.2.1,x.2.2.2)))))))))))))))
structure ResB (R:List UInt8):Prop where
  ex:∃i,i<4∧R=resL.getD i []
theorem ResB.facts {R:List UInt8} (h:ResB R):(∃L t,R=L::t∧¬L=32∧¬L=10∧¬L=40∧¬L=123∧¬L=91)∧(∀c∈R,stops.contains c=false)∧(∀c∈R,c.toNat<128)∧R.length≤3:=by
  obtain⟨i,hi,rfl⟩:=h.ex
  obtain rfl | rfl | rfl | rfl:i=0∨i=1∨i=2∨i=3:=by omega
  · exact⟨⟨42,[],rfl,by decide,by decide,by decide,by decide,by decide⟩,by decide,by decide,by decide⟩
  · exact⟨⟨49,[45,48],rfl,by decide,by decide,by decide,by decide,by decide⟩,by decide,by decide,by decide⟩
  · exact⟨⟨48,[45,49],rfl,by decide,by decide,by decide,by decide,by decide⟩,by decide,by decide,by decide⟩
  · exact⟨⟨49,[47,50],rfl,by decide,by decide,by decide,by decide,by decide⟩,by decide,by decide,by decide⟩

abbrev RTag:=ByteArray×ByteArray×Unit
abbrev RNode:=Int×Mv×ByteArray×Unit
abbrev Rec:=List RTag×ByteArray×List RNode×Int×Unit
abbrev tyTag:Ty := .st .str (.st .str .nil)
abbrev tyMv:Ty := .st (.int .i64) (.st (.int .i64) (.st (.int .i64) .nil))
abbrev tyNode:Ty := .st (.int .i64) (.st tyMv (.st .str .nil))
abbrev tyRec:Ty := .st (.sl tyTag) (.st .str (.st (.sl tyNode) (.st (.int .i64) .nil)))
theorem qcS {A:Type} (xs:List A) (i:Nat) (h:i<xs.length):at? xs (i:Int)=some xs[i]:=by
  rw[at?_eq xs _ (Int.natCast_nonneg i) (Int.ofNat_lt.2 h)];simp only[Int.toNat_natCast]
def badC (w:List UInt8) (c:UInt8):Bool:=(decide (((c.toNat:Nat):Int)<32)||decide (((c.toNat:Nat):Int)>126))||w.any (· == c)
def fineT (s w:ByteArray):Bool:=!(s.data.toList.any (badC w.data.toList))
theorem qno (s:ByteArray):s.data.toList.length=s.size:=by rw[Array.length_toList];rfl
theorem quJ (s:ByteArray) (i:Nat) (h:i<s.data.toList.length):strAt s (i:Int)=some s.data.toList[i]:=by
  have h':i<s.size:=by rw[←qno];exact h
  have h0:decide ((0:Int)≤(i:Int))=true:=by simp
  unfold strAt;rw[h0,cond_true,Int.toNat_natCast,getElem?_pos s i h',ByteArray.getElem_eq_getElem_data,Array.getElem_toList]
theorem qtO (s:ByteArray) (i:Nat) (h:i<s.data.toList.length):getD' (ql s) i 0=((s.data.toList[i].toNat:Nat):Int):=by
  unfold getD' ql;rw[List.getD_eq_getElem?_getD,List.getElem?_map,List.getElem?_eq_getElem h];rfl
theorem qnm (s:ByteArray):(ql s).length=s.data.toList.length:=by unfold ql;rw[List.length_map]
theorem idx_any (c:UInt8):∀l:List UInt8,decide (Go.Lib.indexByte l c≥0)=l.any (· == c)
  | []=>rfl
  | b::l=>by
    have ih:=idx_any c l;have hg:=Go.Lib.indexByte_ge l c;rw[List.any_cons,←ih,show Go.Lib.indexByte (b::l) c=if b==c then 0 else if Go.Lib.indexByte l c == -1 then -1 else Go.Lib.indexByte l c+1 from rfl];by_cases h:(b==c)=true
    · rw[if_pos h,h];rfl
    · rw[if_neg h,Bool.eq_false_iff.2 h,Bool.false_or];by_cases h2:(Go.Lib.indexByte l c == -1)=true
      · have:Go.Lib.indexByte l c = -1:=by simpa using h2
        rw[if_pos h2,this]
      · have:¬Go.Lib.indexByte l c = -1:=by simpa using h2
        rw[if_neg h2,Bool.eq_iff_iff];simp only[decide_eq_true_eq];omega
theorem qiW (s w:ByteArray) (hs:s.size≤9223372036854775807):qbC s w=some (fineT s w):=by
  have hl:=qno s;unfold qbC fineT
  have hL:=qY s.data.toList (badC w.data.toList) (qbl s w) (.inr false) (.inl ((),())) (fun i hi=>by
    unfold qbl
    have h3:(i:Int)<(s.size:Int):=by omega
    have hg:∀b (c:UInt8),gopt b 0 (some c)=some (bif b then c else 0):=fun b c=>by cases b<;>rfl
    simp only[h3,decide_true,cond_true,quJ s i hi,Option.bind_some,hg,qe (n:=(i:Int)+1) (by omega) (by omega)];generalize s.data.toList[i]=c;have hx:decide (qel w ((c.toNat:Nat):Int)≥0)=w.data.toList.any (· == c):=by
      unfold qel;rw[Int.toNat_natCast,←idx_any,show(c.toNat).toUInt8=c from UInt8.ofNat_toNat]
    unfold badC;cases h1:decide (((c.toNat:Nat):Int)<32)
    · simp only[Bool.not_false,cond_true,Bool.false_or];cases h2:decide (((c.toNat:Nat):Int)>126)
      · simp only[Bool.not_false,cond_true,Bool.false_or,hx];rfl
      · simp only[Bool.true_or,cond_true]
    · simp only[Bool.true_or,cond_true]) (by
    unfold qbl;rw[hl]
    simp)
  rw[hL]
  cases s.data.toList.any (badC w.data.toList)<;>rfl
theorem any_cast (w:List UInt8) (c:UInt8):(w.map fun b=>((b.toNat:Nat):Int)).any (fun b=>((c.toNat:Nat):Int)==b)=w.any (· == c):=by
  rw[List.any_map];congr 1;funext b;show(((c.toNat:Nat):Int)==((b.toNat:Nat):Int))=(b==c);rw[Bool.eq_iff_iff];simp only[beq_iff_eq];constructor
  · intro h;exact(UInt8.toNat_inj.1 (by omega)).symm
  · intro h;rw[h]
theorem qm4 (s w:ByteArray) (hs:s.size≤140737488355328) (hw:w.size≤140737488355328):qhZ s w=some (fineT s w):=by
  have hl:=qno s;have hl2:=qno w;unfold qhZ fineT;rw[Nat.ble_eq_true_of_le hs,qa]
  have hL:=qY s.data.toList (badC w.data.toList) (qgm s w) (.inr false) (.inl ((),())) (fun i hi=>by
    unfold qgm
    have h3:(i:Int)<(((ql s).length:Nat):Int):=by rw[qnm];omega
    have hin:inb (i:Int) (ql s).length=true:=inb_iff.2 ⟨by omega,h3⟩;simp only[h3,decide_true,cond_true,hin,qa,Nat.ble_eq_true_of_le hw,Int.toNat_natCast,qtO s i hi]
    have hL2:=qY (ql w) (fun b=>getD' (ql s) i 0==b) (qgo w s (((i:Int),()),())) (.inr (.inr (.inr (.inr false)))) (.inl ((),())) (fun j hj=>by
      unfold qgo
      have h4:(j:Int)<(((ql w).length:Nat):Int):=by omega
      have hj2:inb (j:Int) (ql w).length=true:=inb_iff.2 ⟨by omega,h4⟩
      have hjs:j<w.data.toList.length:=by rw[←qnm];exact hj
      simp only[h4,decide_true,cond_true,hj2,qa,Int.toNat_natCast,qe (n:=(j:Int)+1) (by rw[qnm] at hj;omega) (by rw[qnm] at hj;omega)];rw[show getD' (ql w) j 0=(ql w)[j] by simp[getD',hj]]
      rfl) (by unfold qgo;simp)
    rw[qtO s i hi] at hL2;rw[hL2,Option.bind_some,qe (n:=(i:Int)+1) (by omega) (by omega)];generalize s.data.toList[i]=c;have ha:(ql w).any (fun b=>((c.toNat:Nat):Int)==b)=w.data.toList.any (· == c):=any_cast _ c;rw[ha];unfold badC;cases w.data.toList.any (· == c)
    · simp only[cond_false,Sum.elim_inl,Bool.or_false]
      cases (decide (((c.toNat:Nat):Int)<32)||decide (((c.toNat:Nat):Int)>126))<;>rfl
    · simp only[cond_true,Sum.elim_inr,Bool.or_true,Option.bind_some]) (by
    unfold qgm;rw[qnm]
    simp)
  rw[hL]
  cases s.data.toList.any (badC w.data.toList)<;>rfl
theorem bo_ch (s:ByteArray) (i:Nat) (h:i<s.size):getD' (ql s) i 0=((ch s i:Nat):Int):=by
  have h':i<s.data.toList.length:=by rw[qno];exact h
  rw[qtO s i h'];unfold ch;rw[getElem?_pos s i h,ByteArray.getElem_eq_getElem_data,Array.getElem_toList];rfl
theorem quX (s:ByteArray) (hs:s.size≤9223372036854775807):qmA s=some (qdT s):=by
  unfold qmA;by_cases h0:s.size=0∨8<s.size
  · have e:((s.toList==(ByteArray.mk #[]).toList)||(decide (((s.size:Nat):Int)>8)))=true:=by
      rw[qni];simp only[Bool.or_eq_true,decide_eq_true_eq];omega
    have hn:qdT s=false:=by
      unfold qdT;rw[show decide (1≤s.size∧s.size≤8)=false by simp only[decide_eq_false_iff_not];omega,Bool.and_false]
    rw[e,hn];rfl
  · have e:((s.toList==(ByteArray.mk #[]).toList)||(decide (((s.size:Nat):Int)>8)))=false:=by
      rw[qni];simp only[Bool.or_eq_false_iff,decide_eq_false_iff_not];omega
    obtain⟨c,hc1,hc2⟩:=qtA s 0 (by omega);have hc1:strAt s 0=some c:=hc1
    have hg:∀b (c:UInt8),gopt b 0 (some c)=some (bif b then c else 0):=fun b c=>by cases b<;>rfl
    rw[e,hc1];simp only[hg,Bool.not_false,cond_true,Option.bind_some,Bool.false_or,hc2]
    have hd:decide (1≤s.size∧s.size≤8)=true:=by simp only[decide_eq_true_eq];omega
    by_cases h1:65≤ch s 0∧ch s 0≤90
    · have e1:decide (((ch s 0:Nat):Int)<65)=false:=by simp only[decide_eq_false_iff_not];omega
      have e2:decide (((ch s 0:Nat):Int)>90)=false:=by simp only[decide_eq_false_iff_not];omega
      simp only[e1,Bool.not_false,cond_true,hc2,e2,Bool.or_self,cond_false];rw[Nat.ble_eq_true_of_le (show s.size≤140737488355328 by omega),qa]
      have hL:=qY (List.range s.size) (qdH s) (qgr s) (.inr false) (.inl ((),())) (fun i hi=>by
        have hi':i<s.size:=by simpa using hi
        unfold qgr
        have h3:(i:Int)<(((ql s).length:Nat):Int):=by rw[qnm,qno];omega
        have hin:inb (i:Int) (ql s).length=true:=inb_iff.2 ⟨by omega,h3⟩;simp only[h3,decide_true,cond_true,hin,qa,Int.toNat_natCast,bo_ch s i hi',List.getElem_range,qe (n:=(i:Int)+1) (by omega) (by omega)];have hb:((decide (((ch s i:Nat):Int)<65)||decide (((ch s i:Nat):Int)>90))&&(decide (((ch s i:Nat):Int)<48)||decide (((ch s i:Nat):Int)>57)))=qdH s i:=by
          unfold qdH;rw[Bool.eq_iff_iff];simp only[Bool.and_eq_true,Bool.or_eq_true,decide_eq_true_eq,Bool.not_eq_true',Bool.or_eq_false_iff,decide_eq_false_iff_not];by_cases hz:i=0
          · subst hz;omega
          · omega
        rw[hb]
        rfl) (by
        unfold qgr;rw[qnm,qno,List.length_range]
        simp)
      rw[hL];unfold qdT;rw[hd,Bool.and_true]
      cases (List.range s.size).any (qdH s)<;>rfl
    · have hn:qdT s=false:=by
        unfold qdT;have:(List.range s.size).any (qdH s)=true:=by
          rw[List.any_eq_true];refine⟨0,List.mem_range.2 (by omega),?_⟩;unfold qdH;simp only[Bool.not_eq_true',Bool.or_eq_false_iff,decide_eq_false_iff_not];omega
        rw[this];rfl
      rw[hn];cases e1:decide (((ch s 0:Nat):Int)<65)
      · simp only[decide_eq_false_iff_not] at e1;simp only[Bool.not_false,cond_true,hc2,show decide (((ch s 0:Nat):Int)>90)=true by simp only[decide_eq_true_eq];omega,Bool.or_true]
      · simp only[Bool.true_or,cond_true]
def cErr (s:ByteArray):Int:=if 60<s.size then 2 else if fineT s (ByteArray.mk #[123,125])=false then 3 else 0
theorem qlF (s:ByteArray) (hs:s.size≤9223372036854775807):qcH s=some (cErr s):=by
  unfold qcH cErr;by_cases h:60<s.size
  · rw[if_pos h,show decide (((s.size:Nat):Int)>60)=true by simp only[decide_eq_true_eq];omega];rfl
  · rw[if_neg h,show decide (((s.size:Nat):Int)>60)=false by simp only[decide_eq_false_iff_not];omega,cond_false,qiW _ _ (by omega),Option.bind_some]
    cases fineT s (ByteArray.mk #[123,125])<;>rfl
def tErrD (pre:List RTag) (d:RTag):Int:=if qdT d.1=false then 6 else if 40<d.2.1.size then 2 else if fineT d.2.1 (ByteArray.mk #[34])=false then 3 else if pre.any (fun u=>u.1.toList==d.1.toList)=true then 7 else 0
def tErr (ts:List RTag) (i:Nat):Int:=match ts[i]? with
  | none=>0
  | some d=>tErrD (ts.take i) d
theorem qsL (ts:List RTag) (i:Nat) (h:i<ts.length):tErr ts i=tErrD (ts.take i) ts[i]:=by
  unfold tErr;rw[List.getElem?_eq_getElem h]
theorem tags_spec (x:Rec) (hx:Rng tyRec x):qh5 x=some (qau (tErr x.1) x.1.length):=by
  have hn:x.1.length≤9223372036854775807:=hx.1.1;unfold qh5
  have:=qq2 x.1.length (qea x) (tErr x.1) ((),()) (some 0) (fun i hi=>by
    have hd1:(x.1[i]).1.size≤9223372036854775807:=(hx.1.2 _ (List.getElem_mem hi)).1;have hd2:(x.1[i]).2.1.size≤9223372036854775807:=(hx.1.2 _ (List.getElem_mem hi)).2.1;rw[qsL _ _ hi];unfold qea;simp only[show decide ((i:Int)<((x.1.length:Nat):Int))=true by simp;omega,cond_true];rw[qcS _ _ hi,Option.bind_some];generalize x.1[i]=d at hd1 hd2;unfold tErrD;rw[qq5 _ (by omega),Option.bind_some];cases qdT d.1
    · rfl
    · simp only[Bool.not_true,cond_false,if_neg (show ¬(true=false) by decide)];by_cases h1:40<d.2.1.size
      · rw[if_pos h1,show decide (((d.2.1.size:Nat):Int)>40)=true by simp only[decide_eq_true_eq];omega];rfl
      · rw[if_neg h1,show decide (((d.2.1.size:Nat):Int)>40)=false by simp only[decide_eq_false_iff_not];omega,cond_false,qiW _ _ (by omega),Option.bind_some];cases fineT d.2.1 (ByteArray.mk #[34])
        · rfl
        · simp only[Bool.not_true,cond_false,if_neg (show ¬(true=false) by decide)];rw[show qj 0 (i:Int) x.1.length=true by simp only[qj,Bool.and_eq_true,decide_eq_true_eq];omega,qa]
          have hl:(x.1.take i).length=i:=by rw[List.length_take];omega
          have hL:=qY (x.1.take i) (fun u=>u.1.toList==d.1.toList) (qee x (((i:Int),()),()) d) (.inr (.inr (.inr 7))) (.inl ((),())) (fun j hj=>by
            have hj':j<i:=by rw[List.length_take] at hj;omega
            unfold qee;simp only[Int.toNat_natCast,List.drop_zero,hl];simp only[show decide ((j:Int)<((i:Nat):Int))=true by simp;omega,cond_true];rw[qcS _ _ hj,Option.bind_some];simp only[Int.toNat_natCast,show decide ((j:Int)≥0)=true by simp,cond_true,qe (n:=(j:Int)+1) (by omega) (by omega)]
            rfl) (by
            unfold qee;simp only[Int.toNat_natCast,List.drop_zero,hl]
            simp)
          rw[hL,Option.bind_some,qe (n:=(i:Int)+1) (by omega) (by omega)]
          cases (x.1.take i).any (fun u=>u.1.toList==d.1.toList)<;>rfl) (by
    unfold qea
    simp)
  rw[this];split
  · rename_i h;rw[h]
  · rfl
theorem qq0 (x:Rec) (hx:Rng tyRec x) (z:Option Int):Option.bind (iterW (qaN x) ((0,()),())) (Sum.elim (fun _=>z) some)=if qau (tErr x.1) x.1.length=0 then z else some (qau (tErr x.1) x.1.length):=by
  have hn:x.1.length≤9223372036854775807:=hx.1.1;refine qq2 x.1.length (qaN x) (tErr x.1) ((),()) z (fun i hi=>?_) (by unfold qaN;simp);have hd1:(x.1[i]).1.size≤9223372036854775807:=(hx.1.2 _ (List.getElem_mem hi)).1;have hd2:(x.1[i]).2.1.size≤9223372036854775807:=(hx.1.2 _ (List.getElem_mem hi)).2.1;rw[qsL _ _ hi];unfold qaN;simp only[show decide ((i:Int)<((x.1.length:Nat):Int))=true by simp;omega,cond_true];rw[qcS _ _ hi,Option.bind_some];generalize x.1[i]=d at hd1 hd2;unfold tErrD;rw[quX _ (by omega),Option.bind_some];cases qdT d.1
  · rfl
  · simp only[Bool.not_true,cond_false,if_neg (show ¬(true=false) by decide)];by_cases h1:40<d.2.1.size
    · rw[if_pos h1,show decide (((d.2.1.size:Nat):Int)>40)=true by simp only[decide_eq_true_eq];omega];rfl
    · rw[if_neg h1,show decide (((d.2.1.size:Nat):Int)>40)=false by simp only[decide_eq_false_iff_not];omega,cond_false,qm4 _ _ (by omega) (by decide),Option.bind_some];cases fineT d.2.1 (ByteArray.mk #[34])
      · rfl
      · simp only[Bool.not_true,cond_false,if_neg (show ¬(true=false) by decide)]
        have hL:=qY (x.1.take i) (fun u=>u.1.toList==d.1.toList) (qbm (((i:Int),()),()) x d) (.inr (.inr (.inr (.inr 7)))) (.inl ((),())) (fun j hj=>by
          have hj':j<i:=by rw[List.length_take] at hj;omega
          unfold qbm;simp only[show decide ((j:Int)<(i:Int))=true by simp;omega,cond_true];rw[qcS _ _ (show j<x.1.length by omega),Option.bind_some];simp only[Int.toNat_natCast,qe (n:=(j:Int)+1) (by omega) (by omega),List.getElem_take]
          rfl) (by
          unfold qbm;simp only[List.length_take,Nat.min_eq_left (Nat.le_of_lt hi)]
          simp)
        rw[hL,Option.bind_some,qe (n:=(i:Int)+1) (by omega) (by omega)]
        cases (x.1.take i).any (fun u=>u.1.toList==d.1.toList)<;>rfl

inductive Fo where
  | nil
  | cons (m:Mv) (c:ByteArray) (k r:Fo)
def rootsF:Fo→List Mv
  | .nil=>[]
  | .cons m _ _ r=>m::rootsF r
def Dis:Fo→Prop
  | .nil=>True
  | .cons m _ k r=>m∉rootsF r∧Dis k∧Dis r
def insF (g:Fo→Fo) (m:Mv) (c:ByteArray) (k:Fo):Fo→Fo
  | .nil => .cons m c k .nil
  | .cons m' c' k' r=>if m'=m then .cons m' (if c'.toList=[] then c else c') (g k') r else .cons m' c' k' (insF g m c k r)
def mgF:Fo→Fo→Fo
  | .nil,o=>o
  | .cons m c k r,o=>mgF r (insF (mgF k) m c k o)
def wfF (p:List Mv):Fo→List (List Mv×ByteArray)
  | .nil=>[]
  | .cons m c k r=>(p++[m],c)::(wfF (p++[m]) k++wfF p r)
def lookF:Fo→List Mv→Option ByteArray
  | .nil,_=>none
  | .cons m c k r,[]=>none
  | .cons m c k r,x::t=>if x=m then(match t with | []=>some c | _::_=>lookF k t) else lookF r (x::t)
def combF:Option ByteArray→Option ByteArray→Option ByteArray
  | none,y=>y
  | some a,none=>some a
  | some a,some b=>some (if a.toList=[] then b else a)
theorem qlf (x:Option ByteArray):combF x none=x:=by cases x<;>rfl
where
  insF_lookD {k:Fo} (hg:∀k' t,Dis k'→lookF (mgF k k') t=combF (lookF k' t) (lookF k t)) (m:Mv) (c:ByteArray):∀(o:Fo) (t:List Mv),Dis o→lookF (insF (mgF k) m c k o) t=combF (lookF o t) (lookF (.cons m c k .nil) t)
  | .nil,t,_=>by
    rw[insF];cases t<;>rfl
  | .cons m' c' k' r,[],_=>by
    unfold insF
    split<;>rfl
  | .cons m' c' k' r,x::t,⟨h1,h2,h3⟩=>by
    unfold insF;split
    · rename_i e;subst e;by_cases hx:x=m'
      · subst hx
        cases t with
        | nil=>simp[lookF,combF]
        | cons y t=>simp[lookF,hg k' _ h2]
      · simp only[lookF,if_neg hx,qlf]
    · rename_i e;by_cases hx:x=m'
      · subst hx
        cases t with
        | nil=>simp[lookF,e,qlf]
        | cons y t=>simp[lookF,e,qlf]
      · have:=insF_lookD hg m c r (x::t) h3;simp only[lookF,if_neg hx] at this ⊢;exact this
theorem qrT:Mono qdm:=by
  intro self self' hself x
  unfold qdm qnh
  repeat (first | exact Le.refl _ | assumption | apply hself | apply Le.cond | apply Le.req | apply Le.gopt | apply Le.map | apply Le.agreeW | refine Le.iterW (fun _=>?_) _ | refine Le.bind ?_ (Le.elim (fun _=>?_) (fun _=>?_)) | refine Le.bind ?_ (fun _=>?_))

def rpar (ns:List RNode) (i:Nat):Int:=((ns[i]?).map (·.1)).getD (-1)
def rmv (ns:List RNode) (i:Nat):Mv:=((ns[i]?).map (·.2.1)).getD (0,(0,(0,())))
def qrU (ns:List RNode):Nat→Int→List Nat
  | 0,_=>[]
  | f+1,n=>if n<0 then [] else n.toNat::qrU ns f (rpar ns n.toNat)
def Down (ns:List RNode) (k:Nat):Prop:=∀i,i<k→rpar ns i<(i:Int)
theorem Down.mono {ns:List RNode} {k j:Nat} (h:Down ns k) (hj:j≤k):Down ns j:=fun i hi=>h i (by omega)
theorem qpa {ns:List RNode}:∀(f g:Nat) (n:Int),Down ns (n+1).toNat→n<(f:Int)→n<(g:Int)→qrU ns f n=qrU ns g n
  | 0,0,n,_,_,_=>rfl
  | 0,g+1,n,_,h,_=>by
    show []=if n<0 then [] else _;rw[if_pos (by omega)]
  | f+1,0,n,_,_,h=>by
    show(if n<0 then [] else _)=[];rw[if_pos (by omega)]
  | f+1,g+1,n,hd,h1,h2=>by
    show(if n<0 then [] else _)=if n<0 then [] else _;by_cases h:n<0
    · rw[if_pos h,if_pos h]
    · rw[if_neg h,if_neg h];have:=hd n.toNat (by omega);rw[qpa f g (rpar ns n.toNat) (hd.mono (by omega)) (by omega) (by omega)]
def wayN (ns:List RNode) (n:Int):List Nat:=qrU ns (n+1).toNat n
theorem qb9 (ns:List RNode) {n:Int} (h:n<0):wayN ns n=[]:=by
  unfold wayN;rw[show(n+1).toNat=0 by omega];rfl
theorem qbK {ns:List RNode} {n:Int} (h:0≤n) (hd:Down ns (n+1).toNat):wayN ns n=n.toNat::wayN ns (rpar ns n.toNat):=by
  have hp:=hd n.toNat (by omega);unfold wayN;rw[show(n+1).toNat=n.toNat+1 by omega];show(if n<0 then [] else n.toNat::qrU ns n.toNat (rpar ns n.toNat))=_;rw[if_neg (by omega),qpa n.toNat (rpar ns n.toNat+1).toNat (rpar ns n.toNat) (hd.mono (by omega)) (by omega) (by omega)]
def wayM (ns:List RNode) (n:Int):List Mv:=((wayN ns n).map (rmv ns)).reverse
theorem wayN_le {ns:List RNode}:∀(k:Nat) (n:Int),(n+1).toNat≤k→Down ns (n+1).toNat→∀j∈wayN ns n,(j:Int)≤n
  | 0,n,hk,_,j,hj=>by rw[qb9 ns (by omega)] at hj;cases hj
  | k+1,n,hk,hd,j,hj=>by
    by_cases h:n<0
    · rw[qb9 ns h] at hj;cases hj
    · have hp:=hd n.toNat (by omega);rw[qbK (by omega) hd] at hj;rcases List.mem_cons.1 hj with rfl | hj
      · omega
      · have:=wayN_le k (rpar ns n.toNat) (by omega) (hd.mono (by omega)) j hj;omega
theorem qh6 {ns:List RNode}:∀(k:Nat) (n:Int),(n+1).toNat≤k→Down ns (n+1).toNat→(wayN ns n).length≤k
  | 0,n,hk,_=>by rw[qb9 ns (by omega)];exact Nat.le_refl _
  | k+1,n,hk,hd=>by
    by_cases h:n<0
    · rw[qb9 ns h];exact Nat.zero_le _
    · have hp:=hd n.toNat (by omega);rw[qbK (by omega) hd,List.length_cons];have:=qh6 k (rpar ns n.toNat) (by omega) (hd.mono (by omega));omega
theorem qg4 {ns:List RNode} {n:Int} (h0:0≤n) (h1:n<((ns.length:Nat):Int)):∃d,at? ns n=some d∧d.1=rpar ns n.toNat∧d.2.1=rmv ns n.toNat:=by
  have hl:n.toNat<ns.length:=by omega
  refine⟨ns[n.toNat],at?_eq _ _ h0 h1,?_,?_⟩
  · unfold rpar;rw[List.getElem?_eq_getElem hl];rfl
  · unfold rmv;rw[List.getElem?_eq_getElem hl];rfl
theorem way_L1 (x:Rec) (hn:x.2.2.1.length≤1000):∀s:((List Mv×Int×Unit)×Unit),(s.1.2.1<((x.2.2.1.length:Nat):Int)∧Down x.2.2.1 (s.1.2.1+1).toNat∧s.1.1.length+(s.1.2.1+1).toNat≤2000) →
    iterW (qe6 x) s=some ((s.1.1++(wayN x.2.2.1 s.1.2.1).map (rmv x.2.2.1),()),()):=by
  refine qqF _ (fun s:((List Mv×Int×Unit)×Unit)=>(s.1.2.1+1).toNat) (fun s=>((s.1.1++(wayN x.2.2.1 s.1.2.1).map (rmv x.2.2.1),()),())) ?_
  rintro ⟨⟨acc,n,⟨⟩⟩,⟨⟩⟩ ⟨h1,hd,hl⟩
  simp only at h1 hd hl ⊢;by_cases h:n<0
  · refine .inr ?_;unfold qe6;simp only[show decide (n≥0)=false by simp;omega,cond_false,qb9 _ h,List.map_nil,List.append_nil]
  · refine .inl ?_;have hp:=hd n.toNat (by omega);obtain⟨d,e1,e2,e3⟩:=qg4 (ns:=x.2.2.1) (n:=n) (by omega) h1;refine⟨((acc++[rmv x.2.2.1 n.toNat],rpar x.2.2.1 n.toNat,()),()),?_,⟨by simp only;omega,hd.mono (by simp only;omega),by simp only[List.length_append,List.length_cons,List.length_nil];omega⟩,by simp only;omega,?_⟩
    · unfold qe6;simp only[show decide (n≥0)=true by simp;omega,cond_true];rw[e1];simp only[Option.bind_some];rw[qae (by simp only[List.length_cons,List.length_nil];omega),qa,e2,e3]
    · simp only;rw[qbK (by omega) hd,List.map_cons,List.append_assoc];rfl
def revK (xs:List Mv) (k:Nat):List Mv:=(List.range xs.length).map fun t=>if t<k∨xs.length-k≤t then xs.getD (xs.length-1-t) (0,(0,(0,()))) else xs.getD t (0,(0,(0,())))
theorem qeb (xs:List Mv) (k:Nat):(revK xs k).length=xs.length:=by simp[revK]
theorem qt8 (xs:List Mv) (k t:Nat) (h:t<xs.length):getD' (revK xs k) t (0,(0,(0,())))=if t<k∨xs.length-k≤t then xs.getD (xs.length-1-t) (0,(0,(0,()))) else xs.getD t (0,(0,(0,()))):=by
  unfold getD' revK;rw[List.getD_eq_getElem?_getD,List.getElem?_map,List.getElem?_range h];rfl
theorem revK_step (xs:List Mv) (k:Nat) (h:k+1<xs.length-k):((revK xs k).set k (getD' (revK xs k) (xs.length-1-k) (0,(0,(0,()))))).set (xs.length-1-k) (getD' (revK xs k) k (0,(0,(0,()))))=revK xs (k+1):=by
  rw[qt8 xs k k (by omega),qt8 xs k (xs.length-1-k) (by omega),if_neg (by omega),if_neg (by omega)];apply List.ext_getElem
  · simp[qeb]
  · intro t h1 h2
    have ht:t<xs.length:=by rw[qeb] at h2;exact h2
    have e:∀j,(revK xs j)[t]?=some (if t<j∨xs.length-j≤t then xs.getD (xs.length-1-t) (0,(0,(0,()))) else xs.getD t (0,(0,(0,())))):=fun j=>by
      unfold revK;rw[List.getElem?_map,List.getElem?_range ht];rfl
    have e1:(revK xs (k+1))[t]=if t<k+1∨xs.length-(k+1)≤t then xs.getD (xs.length-1-t) (0,(0,(0,()))) else xs.getD t (0,(0,(0,()))):=by
      have:=e (k+1);rw[List.getElem?_eq_getElem h2] at this;exact Option.some.inj this
    have hk:t<(revK xs k).length:=by rw[qeb];exact ht
    have e2:(revK xs k)[t]=if t<k∨xs.length-k≤t then xs.getD (xs.length-1-t) (0,(0,(0,()))) else xs.getD t (0,(0,(0,()))):=by
      have:=e k;rw[List.getElem?_eq_getElem hk] at this;exact Option.some.inj this
    rw[e1,List.getElem_set,List.getElem_set,e2];by_cases c1:xs.length-1-k=t
    · rw[if_pos c1,if_pos (by omega),show xs.length-1-t=k by omega]
    · rw[if_neg c1];by_cases c2:k=t
      · rw[if_pos c2,if_pos (by omega),c2]
      · rw[if_neg c2];by_cases c3:t<k∨xs.length-k≤t
        · rw[if_pos c3,if_pos (by omega)]
        · rw[if_neg c3,if_neg (by omega)]
theorem revK_zero (xs:List Mv):revK xs 0=xs:=by
  apply List.ext_getElem
  · exact qeb xs 0
  · intro t h1 h2;have e:(revK xs 0)[t]?=some (xs.getD t (0,(0,(0,())))):=by
      unfold revK;rw[List.getElem?_map,List.getElem?_range h2];show some (if t<0∨xs.length-0≤t then _ else _)=_;rw[if_neg (by omega)]
    rw[List.getElem?_eq_getElem h1] at e;rw[Option.some.inj e];simp[List.getD_eq_getElem?_getD,h2]
theorem revK_all (xs:List Mv) (k:Nat) (h:xs.length≤2*k+1) (hk:2*k≤xs.length):revK xs k=xs.reverse:=by
  apply List.ext_getElem
  · rw[qeb,List.length_reverse]
  · intro t h1 h2
    have ht:t<xs.length:=by rw[qeb] at h1;exact h1
    have e:(revK xs k)[t]?=some (if t<k∨xs.length-k≤t then xs.getD (xs.length-1-t) (0,(0,(0,()))) else xs.getD t (0,(0,(0,())))):=by
      unfold revK;rw[List.getElem?_map,List.getElem?_range ht];rfl
    rw[List.getElem?_eq_getElem h1] at e;rw[Option.some.inj e,List.getElem_reverse];by_cases c:t<k∨xs.length-k≤t
    · rw[if_pos c];simp[List.getD_eq_getElem?_getD,show xs.length-1-t<xs.length by omega]
    · rw[if_neg c]
      have:t=xs.length-1-t:=by omega
      simp only[←this];simp[List.getD_eq_getElem?_getD,ht]
theorem way_L2 (xs:List Mv) (hx:xs.length≤1000000):iterW qdv ((0,(w64 (((xs.length:Nat):Int)-1)),()),(xs,()))=some ((),(xs.reverse,())):=by
  have:=qbD (f:=qdv) (xs.length / 2) (fun k=>(((k:Int),((xs.length:Nat):Int)-1-(k:Int),()),(revK xs k,()))) ((),(xs.reverse,())) (fun k hk=>by
    unfold qdv
    have e1:(((xs.length:Nat):Int)-1-(k:Int)).toNat=xs.length-1-k:=by omega
    simp only[show decide ((k:Int)<((xs.length:Nat):Int)-1-(k:Int))=true by simp;omega,cond_true];rw[show inb (((xs.length:Nat):Int)-1-(k:Int)) (revK xs k).length=true from inb_iff.2 (by rw[qeb];omega),show inb (k:Int) (revK xs k).length=true from inb_iff.2 (by rw[qeb];omega)];simp only[qa,Int.toNat_natCast,e1]
    rw[show ∀y,inb (((xs.length:Nat):Int)-1-(k:Int)) ((revK xs k).set k y).length=true from fun y=>inb_iff.2 (by rw[List.length_set,qeb];omega),qa,revK_step xs k (by omega),qe (by omega) (by omega),qe (by omega) (by omega),show((k+1:Nat):Int)=(k:Int)+1 by omega,show((xs.length:Nat):Int)-1-((k:Int)+1)=((xs.length:Nat):Int)-1-(k:Int)-1 by omega]) (by
    unfold qdv;simp only[show decide (((xs.length / 2:Nat):Int)<((xs.length:Nat):Int)-1-((xs.length / 2:Nat):Int))=false by simp only[decide_eq_false_iff_not];omega,cond_false]
    rw[revK_all xs _ (by omega) (by omega)])
  simp only[Int.natCast_zero,Int.sub_zero,revK_zero] at this;rw[qe (by omega) (by omega)];exact this
theorem way_rec (x:Rec) (hn:x.2.2.1.length≤1000) {n:Int} (h0 : -1≤n) (h1:n<((x.2.2.1.length:Nat):Int)) (hd:Down x.2.2.1 (n+1).toNat):qaC x n=some (wayM x.2.2.1 n):=by
  unfold qaC;have e:=way_L1 x hn (([],n,()),()) ⟨h1,hd,by simp only[List.length_nil];omega⟩;simp only[List.nil_append] at e;have hl:=qh6 _ n (Nat.le_refl _) hd;rw[e,Option.bind_some];simp only;rw[way_L2 _ (by rw[List.length_map];omega),Option.bind_some];rfl
theorem qrv (ns:List RNode) (hn:ns.length≤1000):∀x:List RNode×Int×Unit,(x.1=ns ∧ -1≤x.2.1∧x.2.1<((ns.length:Nat):Int)∧Down ns (x.2.1+1).toNat∧∀i,i<(x.2.1+1).toNat → -1≤rpar ns i)→fixW qdm x=some (wayM ns x.2.1,(true,())):=by
  refine fixW_ind qrT _ (fun x=>(x.2.1+1).toNat) (fun x=>(wayM ns x.2.1,(true,()))) ?_
  rintro φ ⟨l,n,⟨⟩⟩ ⟨rfl,h0,h1,hd,hm⟩ hφ
  simp only at h0 h1 hd hm hφ ⊢;have hn:l.length≤1000:=hn;unfold qdm qnh;simp only;by_cases h:n = -1
  · subst h;simp only[beq_self_eq_true,cond_true];rw[show wayM l (-1)=[] by unfold wayM;rw[qb9 l (by omega)];rfl]
  · obtain⟨d,e1,e2,e3⟩:=qg4 (ns:=l) (n:=n) (by omega) h1;have hp:=hd n.toNat (by omega);have hp2:=hm n.toNat (by omega);rw[beq_f h,cond_false,show(decide (n<0)||decide (n≥((l.length:Nat):Int)))=false by simp only[Bool.or_eq_false_iff,decide_eq_false_iff_not];omega]
    have hgat:∀z,gat true z l n=some d:=fun z=>by show at? l n=_;exact e1
    simp only[Bool.not_false,hgat,Option.bind_some,Bool.false_or,e2,show decide (rpar l n.toNat≥n)=false by simp only[decide_eq_false_iff_not];omega,cond_false];rw[e1];simp only[Option.bind_some,e2];rw[hφ (l,rpar l n.toNat,()) ⟨rfl,hp2,by simp only;omega,hd.mono (by simp only;omega),fun i hi=>hm i (by simp only at hi;omega)⟩ (by simp only;omega),Option.bind_some];have hl:=qh6 _ (rpar l n.toNat) (Nat.le_refl _) (hd.mono (by omega));rw[qae (by unfold wayM;simp only[List.length_reverse,List.length_map,List.length_cons,List.length_nil];omega),qa,e3];have:wayM l n=wayM l (rpar l n.toNat)++[rmv l n.toNat]:=by
      unfold wayM;rw[qbK (by omega) hd,List.map_cons,List.reverse_cons]
    rw[this]
theorem way3 (ns:List RNode) (hn:ns.length≤1000) {n:Int} (h0 : -1≤n) (h1:n<((ns.length:Nat):Int)) (hd:Down ns (n+1).toNat) (hm:∀i,i<(n+1).toNat → -1≤rpar ns i):qpV ns n=some (wayM ns n,(true,())) :=
  qrv ns hn (ns,n,()) ⟨rfl,h0,h1,hd,hm⟩
theorem on_L1 (a:Int) (x:Rec):∀s:((Int×Unit)×Unit),(s.1.1<((x.2.2.1.length:Nat):Int)∧Down x.2.2.1 (s.1.1+1).toNat) →
    iterW (qeu a x) s=some (if 0≤a∧a.toNat∈wayN x.2.2.1 s.1.1 then .inr true else .inl ((),())):=by
  refine qqF _ (fun s:((Int×Unit)×Unit)=>(s.1.1+1).toNat) (fun s=>if 0≤a∧a.toNat∈wayN x.2.2.1 s.1.1 then(Sum.inr true:(Unit×Unit) ⊕ Bool) else Sum.inl ((),())) ?_
  rintro ⟨⟨n,⟨⟩⟩,⟨⟩⟩ ⟨h1,hd⟩
  simp only at h1 hd ⊢;by_cases h:n<0
  · refine .inr ?_;unfold qeu;simp only[show decide (n≥0)=false by simp;omega,cond_false,qb9 _ h];rw[if_neg (by simp)]
  · have hp:=hd n.toNat (by omega);have hw:=qbK (ns:=x.2.2.1) (by omega) hd;by_cases ha:n=a
    · refine .inr ?_;subst ha;unfold qeu;simp only[show decide (n≥0)=true by simp;omega,cond_true,beq_self_eq_true];rw[if_pos ⟨by omega,by rw[hw];exact List.mem_cons_self⟩]
    · refine .inl ⟨((rpar x.2.2.1 n.toNat,()),()),?_,⟨by simp only;omega,hd.mono (by simp only;omega)⟩,by simp only;omega,?_⟩
      · obtain⟨d,e1,e2,e3⟩:=qg4 (ns:=x.2.2.1) (n:=n) (by omega) h1;unfold qeu;simp only[show decide (n≥0)=true by simp;omega,cond_true,beq_f ha,cond_false];rw[e1,Option.bind_some,e2]
      · simp only;rw[hw];have:(0≤a∧a.toNat∈n.toNat::wayN x.2.2.1 (rpar x.2.2.1 n.toNat))↔(0≤a∧a.toNat∈wayN x.2.2.1 (rpar x.2.2.1 n.toNat)):=by
          rw[List.mem_cons];constructor
          · rintro ⟨q1,q2 | q2⟩
            · omega
            · exact⟨q1,q2⟩
          · rintro ⟨q1,q2⟩;exact⟨q1,.inr q2⟩
        simp only[this]
theorem on_spec (x:Rec) (a:Int) {n:Int} (h1:n<((x.2.2.1.length:Nat):Int)) (hd:Down x.2.2.1 (n+1).toNat):qks x a n=some (decide (0≤a∧a.toNat∈wayN x.2.2.1 n)||(a == -1)):=by
  unfold qks;rw[on_L1 a x ((n,()),()) ⟨h1,hd⟩,Option.bind_some];by_cases h:0≤a∧a.toNat∈wayN x.2.2.1 n
  · simp only[if_pos h,decide_eq_true h,Bool.true_or];rfl
  · simp only[if_neg h,decide_eq_false h,Bool.false_or];rfl
theorem above_L1 (a:Int) (ha:0≤a) (ns:List RNode):∀s:((Int×Unit)×Unit),(s.1.1<((ns.length:Nat):Int)∧Down ns (s.1.1+1).toNat) →
    ∃r,iterW (qcd a ns) s=some r∧(r.1.1==a)=decide (a.toNat∈wayN ns s.1.1):=by
  have key:∀k (n:Int),(n+1).toNat≤k→n<((ns.length:Nat):Int)→Down ns (n+1).toNat→∃r,iterW (qcd a ns) ((n,()),())=some r∧(r.1.1==a)=decide (a.toNat∈wayN ns n):=by
    intro k
    induction k with
    | zero =>
      intro n hk h1 hd;refine⟨((n,()),()),qg ?_,?_⟩
      · unfold qcd;simp only[show(decide (n>a)&&decide (n≥0))=false by simp;omega,cond_false]
      · simp only[qb9 ns (show n<0 by omega)];rw[beq_f (by omega)];simp
    | succ k ih =>
      intro n hk h1 hd;by_cases h:n>a
      · have hp:=hd n.toNat (by omega);obtain⟨d,e1,e2,e3⟩:=qg4 (ns:=ns) (n:=n) (by omega) h1;obtain⟨r,q1,q2⟩:=ih (rpar ns n.toNat) (by omega) (by omega) (hd.mono (by omega));refine⟨r,?_,?_⟩
        · rw[qn (y:=((rpar ns n.toNat,()),()))]
          · exact q1
          · unfold qcd;simp only[show(decide (n>a)&&decide (n≥0))=true by simp;omega,cond_true];rw[e1,Option.bind_some,e2]
        · rw[q2,qbK (by omega) hd];congr 1;rw[List.mem_cons,eq_iff_iff];constructor
          · exact .inr
          · rintro (q | q)
            · omega
            · exact q
      · refine⟨((n,()),()),qg ?_,?_⟩
        · unfold qcd;simp only[show(decide (n>a)&&decide (n≥0))=false by simp;omega,cond_false]
        · simp only;by_cases e:n=a
          · subst e;rw[beq_self_eq_true,qbK ha hd];simp
          · rw[beq_f e];have:¬a.toNat∈wayN ns n:=fun hm=>by
              have:=wayN_le _ n (Nat.le_refl _) hd _ hm;omega
            simp[this]
  rintro ⟨⟨n,⟨⟩⟩,⟨⟩⟩ ⟨h1,hd⟩
  exact key _ n (Nat.le_refl _) h1 hd
theorem quA (ns:List RNode) {a n:Int} (ha:0≤a) (h1:n<((ns.length:Nat):Int)) (hd:Down ns (n+1).toNat):qhM ns a n=some (decide (a.toNat∈wayN ns n)):=by
  obtain⟨r,q1,q2⟩:=above_L1 a ha ns ((n,()),()) ⟨h1,hd⟩;unfold qhM;rw[q1,Option.bind_some,q2]

def rcom (ns:List RNode) (i:Nat):ByteArray:=((ns[i]?).map (·.2.2.1)).getD ByteArray.empty
def gErr (r:Rules) (l:List Mv):Int:=if qu r=0 then(match qgS r l with
    | .inl _=>0
    | .inr e=>e) else qu r
theorem run_err (r:Rules) (l:List Mv):(quf r l).2.2.1=gErr r l:=by
  unfold quf gErr;by_cases c:qu r=0
  · rw[if_pos c,if_pos c]
    cases qgS r l<;>rfl
  · rw[if_neg c,if_neg c]
theorem qpo (r:Rules) (l:List Mv):(qfT r l).2.1=gErr r l:=by
  unfold qfT gErr;by_cases c:qu r=0
  · rw[if_pos c,if_pos c]
    cases qgS r l<;>rfl
  · rw[if_neg c,if_neg c]
def ordB (ns:List RNode) (i:Nat):Bool:=decide (rpar ns i<(i:Int))&&(decide (0≤rpar ns i∧(rpar ns i).toNat∈wayN ns ((i:Int)-1))||(rpar ns i == -1))
def twinB (ns:List RNode) (i:Nat):Bool:=(List.range i).any fun k=>(rpar ns k==rpar ns i)&&(rmv ns k==rmv ns i)
def sibB (ns:List RNode) (i:Nat):Bool:=(List.range i).any fun k=>rpar ns k==rpar ns i
def nErr (r:Rules) (ns:List RNode) (i:Nat):Int:=if cErr (rcom ns i)≠0 then cErr (rcom ns i) else if ordB ns i=false then 3 else if twinB ns i=true then 7 else gErr r (wayM ns (i:Int))
def Ord (ns:List RNode) (k:Nat):Prop:=∀i,i<k→ordB ns i=true
theorem Ord.down {ns:List RNode} {k:Nat} (h:Ord ns k):Down ns k:=fun i hi=>by
  have:=h i hi;unfold ordB at this;simp only[Bool.and_eq_true,decide_eq_true_eq] at this;exact this.1
theorem Ord.low {ns:List RNode} {k:Nat} (h:Ord ns k):∀i,i<k → -1≤rpar ns i:=fun i hi=>by
  have:=h i hi;unfold ordB at this;simp only[Bool.and_eq_true,Bool.or_eq_true,decide_eq_true_eq,beq_iff_eq] at this;omega
theorem Ord.mono {ns:List RNode} {k j:Nat} (h:Ord ns k) (hj:j≤k):Ord ns j:=fun i hi=>h i (by omega)
theorem Ord.step {ns:List RNode} {k:Nat} (h:Ord ns k) (hk:ordB ns k=true):Ord ns (k+1):=fun i hi=>by
  by_cases e:i=k
  · subst e;exact hk
  · exact h i (by omega)
theorem qjx {ns:List RNode} {i:Nat} (hi:i<ns.length):ns[i].1=rpar ns i∧ns[i].2.1=rmv ns i∧ns[i].2.2.1=rcom ns i:=by
  unfold rpar rmv rcom;rw[List.getElem?_eq_getElem hi];exact⟨rfl,rfl,rfl⟩
theorem qsp {ns:List RNode} {i:Nat} (h:Down ns i) (hs:sibB ns i=true):rpar ns i+2≤(i:Int)∨rpar ns i<0∧1≤i:=by
  unfold sibB at hs;rw[List.any_eq_true] at hs;obtain⟨k,hk,e⟩:=hs;have hk:=List.mem_range.1 hk;have:=h k hk
  have e:rpar ns k=rpar ns i:=by simpa using e
  omega
structure qul (ns:List RNode) (deep:List Int) (i:Nat):Prop where
  len:deep.length=ns.length
  all:∀j,j<ns.length→0≤deep.getD j 0∧2*deep.getD j 0≤(j:Int)+1
  zero:∀j,i≤j→deep.getD j 0=0
theorem gdD (xs:List Int) (i:Nat):getD' xs i 0=xs.getD i 0:=rfl
theorem setD (xs:List Int) (i j:Nat) (a:Int) (h:i<xs.length):(xs.set i a).getD j 0=if i=j then a else xs.getD j 0:=by
  rw[List.getD_eq_getElem?_getD,List.getD_eq_getElem?_getD,List.getElem?_set];by_cases e:i=j
  · rw[if_pos e,if_pos e,if_pos h];rfl
  · rw[if_neg e,if_neg e]
abbrev eqMv (a b:Mv):Bool:=(a.1==b.1)&&((a.2.1==b.2.1)&&((a.2.2.1==b.2.2.1)&&true))
theorem qtB (a b:Mv):eqMv a b=(a==b):=by
  obtain⟨a1,a2,a3,⟨⟩⟩:=a;obtain⟨b1,b2,b3,⟨⟩⟩:=b;rw[Bool.eq_iff_iff];simp[eqMv]
theorem qha {r:Rules} (hr:Rng qR r) (x:Rec) (hx:Rng tyRec x) (h30:x.2.2.1.length≤30) {i:Nat} (hi:i<x.2.2.1.length) (ho:Ord x.2.2.1 i) {deep:List Int} (hD:qul x.2.2.1 deep i) :
    ∃deep',qhV deep r x (i:Int)=some (deep',nErr r x.2.2.1 i)∧(nErr r x.2.2.1 i=0→qul x.2.2.1 deep' (i+1)):=by
  have hcs:(rcom x.2.2.1 i).size≤9223372036854775807:=by
    have:=(hx.2.2.1.2 _ (List.getElem_mem hi)).2.2.1;rw[←(qjx hi).2.2];exact this
  have hd:=ho.down;obtain⟨n1,n2,n3⟩:=qjx hi;unfold qhV;rw[qcS _ _ hi,Option.bind_some];simp only[n1,n2,n3];rw[qlF _ hcs,Option.bind_some];unfold nErr;by_cases hc:cErr (rcom x.2.2.1 i)=0
  rotate_left
  · rw[bne_t hc,cond_true,if_pos hc];exact⟨_,rfl,fun h=>absurd h hc⟩
  rw[bne_f hc,cond_false,if_neg (fun h=>h hc)];have hon:qks x (rpar x.2.2.1 i) (w64 ((i:Int)-1))=some (decide (0≤rpar x.2.2.1 i∧(rpar x.2.2.1 i).toNat∈wayN x.2.2.1 ((i:Int)-1))||(rpar x.2.2.1 i == -1)):=by
    rw[qe (by omega) (by omega)];exact on_spec x _ (by omega) (by rw[show((i:Int)-1+1).toNat=i by omega];exact hd)
  rw[hon];by_cases hob:ordB x.2.2.1 i=true
  rotate_left
  · rw[Bool.not_eq_true] at hob;rw[if_pos hob];refine⟨deep,?_,fun h=>by cases h⟩;unfold ordB at hob;by_cases hp:rpar x.2.2.1 i<(i:Int)
    · rw[decide_eq_true hp,Bool.true_and] at hob;rw[show decide (rpar x.2.2.1 i≥(i:Int))=false by simp only[decide_eq_false_iff_not];omega,hob];rfl
    · rw[show decide (rpar x.2.2.1 i≥(i:Int))=true by simp only[decide_eq_true_eq];omega];rfl
  rw[if_neg (by rw[hob];decide)];have hor:=ho.step hob;have hd1:=hor.down;have hpi:=hd1 i (Nat.lt_succ_self i);have hpl:=hor.low i (Nat.lt_succ_self i);have hob2:=hob;unfold ordB at hob2;rw[decide_eq_true hpi,Bool.true_and] at hob2;rw[show decide (rpar x.2.2.1 i≥(i:Int))=false by simp only[decide_eq_false_iff_not];omega,hob2];simp only[Bool.not_false,gopt,cond_true,Option.bind_some,Bool.not_true,Bool.or_self,cond_false];have hdl:=hD.len
  obtain⟨dp,hdp1,hdp2⟩:∃dp:List Int,(bif (decide (rpar x.2.2.1 i≥0)) then req (inb (rpar x.2.2.1 i) deep.length) (req (inb (i:Int) deep.length) (some ((),((deep.set (((i:Int)).toNat) (getD' deep ((rpar x.2.2.1 i).toNat) 0)),()))))
      else some ((),(deep,())))=some ((),(dp,()))∧(qul x.2.2.1 dp (i+1)∧(2*dp.getD i 0≤rpar x.2.2.1 i+1)):=by
    by_cases h0:0≤rpar x.2.2.1 i
    · rw[show decide (rpar x.2.2.1 i≥0)=true by simp only[decide_eq_true_eq];omega,cond_true,inb_iff.2 ⟨h0,by omega⟩,qa,show inb (i:Int) deep.length=true from inb_iff.2 (by omega),qa];have q:=hD.all (rpar x.2.2.1 i).toNat (by omega);refine⟨_,rfl,⟨by rw[List.length_set];exact hdl,fun j hj=>?_,fun j hj=>?_⟩,?_⟩
      · rw[Int.toNat_natCast,gdD,setD _ _ _ _ (by omega)];by_cases e:i=j
        · rw[if_pos e];omega
        · rw[if_neg e];exact hD.all j hj
      · rw[Int.toNat_natCast,gdD,setD _ _ _ _ (by omega),if_neg (by omega)];exact hD.zero j (by omega)
      · rw[Int.toNat_natCast,gdD,setD _ _ _ _ (by omega),if_pos rfl];omega
    · rw[show decide (rpar x.2.2.1 i≥0)=false by simp only[decide_eq_false_iff_not];omega,cond_false];exact⟨_,rfl,⟨hdl,hD.all,fun j hj=>hD.zero j (by omega)⟩,by rw[hD.zero i (Nat.le_refl _)];omega⟩
  rw[hdp1,Option.bind_some];rw[show qj 0 (i:Int) x.2.2.1.length=true by simp only[qj,Bool.and_eq_true,decide_eq_true_eq];omega,qa,qa]
  have htl:(x.2.2.1.take i).length=i:=by rw[List.length_take];omega
  have tk:∀k (hk:k<(x.2.2.1.take i).length),(x.2.2.1.take i)[k].1=rpar x.2.2.1 k∧(x.2.2.1.take i)[k].2.1=rmv x.2.2.1 k:=fun k hk=>by
    rw[List.getElem_take];exact⟨(qjx (by omega)).1,(qjx (by omega)).2.1⟩
  obtain⟨nd,hnd⟩:∃nd:RNode,x.2.2.1[i]=nd:=⟨_,rfl⟩;rw[hnd] at n1 n2;rw[hnd];have anyT:(x.2.2.1.take i).any (fun d=>(d.1==rpar x.2.2.1 i)&&(d.2.1==rmv x.2.2.1 i))=twinB x.2.2.1 i:=by
    unfold twinB;rw[Bool.eq_iff_iff,List.any_eq_true,List.any_eq_true];constructor
    · rintro ⟨d,hd,e⟩
      obtain⟨k,hk,rfl⟩:=List.mem_iff_getElem.1 hd;rw[(tk k hk).1,(tk k hk).2] at e;exact⟨k,List.mem_range.2 (by omega),e⟩
    · rintro ⟨k,hk,e⟩
      have hk:=List.mem_range.1 hk;refine⟨(x.2.2.1.take i)[k]'(by omega),List.getElem_mem _,?_⟩;rw[(tk k (by omega)).1,(tk k (by omega)).2];exact e
  have anyS:(x.2.2.1.take i).any (fun d=>d.1==rpar x.2.2.1 i)=sibB x.2.2.1 i:=by
    unfold sibB;rw[Bool.eq_iff_iff,List.any_eq_true,List.any_eq_true];constructor
    · rintro ⟨d,hd,e⟩
      obtain⟨k,hk,rfl⟩:=List.mem_iff_getElem.1 hd;rw[(tk k hk).1] at e;exact⟨k,List.mem_range.2 (by omega),e⟩
    · rintro ⟨k,hk,e⟩
      have hk:=List.mem_range.1 hk;refine⟨(x.2.2.1.take i)[k]'(by omega),List.getElem_mem _,?_⟩;rw[(tk k (by omega)).1];exact e
  have hL1:=qY (x.2.2.1.take i) (fun d=>(d.1==rpar x.2.2.1 i)&&(d.2.1==rmv x.2.2.1 i)) (qed x (i:Int) nd ((),(dp,()))) (.inr (dp,7)) (.inl ((),())) (fun k hk=>by
    unfold qed;simp only[Int.toNat_natCast,List.drop_zero,n1,n2];rw[htl];simp only[show decide ((k:Int)<((i:Nat):Int))=true by simp;omega,cond_true];rw[qcS _ _ hk,Option.bind_some,(tk k hk).1,(tk k hk).2];rw[qe (n:=(k:Int)+1) (by omega) (by omega)];have:=qtB (rmv x.2.2.1 k) (rmv x.2.2.1 i);unfold eqMv at this;rw[this];cases e1:(rpar x.2.2.1 k==rpar x.2.2.1 i)
    · simp only[bne,e1,Bool.not_false,cond_true,Option.bind_some,Sum.elim_inl,Bool.false_and,cond_false];rfl
    · simp only[bne,e1,Bool.not_true,cond_false,Bool.true_and]
      cases (rmv x.2.2.1 k==rmv x.2.2.1 i)<;>rfl) (by
    unfold qed;simp only[Int.toNat_natCast,List.drop_zero];rw[htl]
    simp)
  rw[hL1,anyT,Option.bind_some];cases htw:twinB x.2.2.1 i
  rotate_left
  · simp only[cond_true,Sum.elim_inr,if_true];exact⟨dp,rfl,fun h=>by cases h⟩
  simp only[cond_false,Sum.elim_inl,if_neg (show ¬(false=true) by decide)];have hway:qaC x (i:Int)=some (wayM x.2.2.1 (i:Int)):=way_rec x (by omega) (by omega) (by omega) (by rw[show((i:Int)+1).toNat=i+1 by omega];exact hd1);have hwl:(wayM x.2.2.1 (i:Int)).length≤1000:=by
    unfold wayM;rw[List.length_reverse,List.length_map];have:=qh6 _ (i:Int) (Nat.le_refl _) (by rw[show((i:Int)+1).toNat=i+1 by omega];exact hd1);omega
  have hrun:=run_spec r (wayM x.2.2.1 (i:Int)) hr (by omega)
  have gm:∀z:List Int,z.length=x.2.2.1.length→2*z.getD i 0≤(i:Int)+1→(Option.bind (Option.bind (qaC x (i:Int)) fun r15=>Option.bind (qaG r r15) fun r16=>some ((r16.2.2.1,()),())) fun x27:((Int×Unit)×Unit) =>
      bif (x27.1.1 !=0) then some (z,x27.1.1) else req (inb (i:Int) z.length) (bif (decide ((getD' z (((i:Int)).toNat) 0)>20)) then some (z,2) else some (z,0)))=some (z,gErr r (wayM x.2.2.1 (i:Int))):=fun z hz h2=>by
    rw[hway,Option.bind_some,hrun,Option.bind_some,Option.bind_some,run_err];by_cases e:gErr r (wayM x.2.2.1 (i:Int))=0
    · simp only[e,bne_self_eq_false,cond_false];rw[inb_iff.2 ⟨by omega,by omega⟩,qa,Int.toNat_natCast,gdD,show decide (z.getD i 0>20)=false by simp only[decide_eq_false_iff_not];omega,cond_false]
    · simp only[bne_t e,cond_true]
  have hL2:=qY (x.2.2.1.take i) (fun d=>d.1==rpar x.2.2.1 i) (qd7 x (i:Int) nd ((),(dp,())) r) (.inr ((dp.set i (dp.getD i 0+1)),gErr r (wayM x.2.2.1 (i:Int)))) (.inl ((),())) (fun k hk=>by
    unfold qd7;simp only[Int.toNat_natCast,List.drop_zero,n1,n2];rw[htl];simp only[show decide ((k:Int)<((i:Nat):Int))=true by simp;omega,cond_true];rw[qcS _ _ hk,Option.bind_some,(tk k hk).1];rw[qe (n:=(k:Int)+1) (by omega) (by omega)];cases e1:(rpar x.2.2.1 k==rpar x.2.2.1 i)
    · rfl
    · have hs:sibB x.2.2.1 i=true:=by
        unfold sibB;rw[List.any_eq_true];exact⟨k,List.mem_range.2 (by omega),e1⟩
      have hgap:=qsp hd hs;have hq:=hdp2.1.all i hi;have hq2:=hdp2.2;have hdl2:=hdp2.1.len;simp only[cond_true,show decide ((k:Int)≥0)=true by simp];rw[inb_iff.2 ⟨by omega,by omega⟩,qa,qa,Option.bind_some];simp only[agree_self];have:=gm (dp.set i (dp.getD i 0+1)) (by rw[List.length_set];exact hdl2) (by rw[setD _ _ _ _ (by omega),if_pos rfl];omega);simp only[Int.toNat_natCast] at this;rw[gdD,qe (by omega) (by omega),this]
      rfl) (by
    unfold qd7;simp only[Int.toNat_natCast,List.drop_zero];rw[htl]
    simp)
  rw[hL2,anyS,Option.bind_some];have hq:=hdp2.1.all i hi;have hq2:=hdp2.2;have hdl2:=hdp2.1.len;cases hsb:sibB x.2.2.1 i
  · simp only[cond_false,Sum.elim_inl,agree_self];exact⟨dp,gm dp hdl2 (by omega),fun _=>hdp2.1⟩
  · have hgap:=qsp hd hsb;simp only[cond_true,Sum.elim_inr];refine⟨_,rfl,fun _=>⟨by rw[List.length_set];exact hdl2,fun j hj=>?_,fun j hj=>?_⟩⟩
    · rw[setD _ _ _ _ (by omega)];by_cases e:i=j
      · rw[if_pos e];omega
      · rw[if_neg e];exact hdp2.1.all j hj
    · rw[setD _ _ _ _ (by omega),if_neg (by omega)];exact hdp2.1.zero j hj
theorem scan_nz (e:Nat→Int) (i k:Nat):scan (fun i=>nz (e i)) 0 i (k+1)=if e i=0 then scan (fun i=>nz (e i)) 0 (i+1) k else e i:=by
  by_cases h:e i=0
  · rw[if_pos h]
    conv=>lhs;unfold scan
    simp only[nz,if_pos h]
  · rw[if_neg h]
    conv=>lhs;unfold scan
    simp only[nz,if_neg h]
def qiC (r:Rules) (x:Rec):Int:=if qu r≠0 then qu r else if 10<x.1.length then 2 else if qau (tErr x.1) x.1.length≠0 then qau (tErr x.1) x.1.length else if x.2.2.2.1<0∨3<x.2.2.2.1 then 4 else if cErr x.2.1≠0 then cErr x.2.1 else qau (nErr r x.2.2.1) x.2.2.1.length
theorem qmt {r:Rules} {ns:List RNode} {i:Nat} (h:nErr r ns i=0):ordB ns i=true:=by
  unfold nErr at h;split at h
  · contradiction
  · cases e:ordB ns i
    · rw[e,if_pos rfl] at h;cases h
    · rfl
theorem ord_of {r:Rules} {ns:List RNode} (h:qau (nErr r ns) ns.length=0):Ord ns ns.length:=fun i hi=>qmt (qbs h i hi)
theorem quz {r:Rules} (hr:Rng qR r) (x:Rec) (hx:Rng tyRec x) (h30:x.2.2.1.length≤30):∀(k i:Nat) (deep:List Int),i+k=x.2.2.1.length→Ord x.2.2.1 i→qul x.2.2.1 deep i →
    Option.bind (iterW (qb4 x r) (((i:Int),()),(deep,()))) (Sum.elim (fun _=>some 0) some)=some (scan (fun i=>nz (nErr r x.2.2.1 i)) 0 i k):=by
  intro k
  induction k with
  | zero =>
    intro i deep hi ho hD
    have:i=x.2.2.1.length:=by omega
    subst this;rw[qg (r := .inl ((),(deep,()))) (by unfold qb4;simp)];rfl
  | succ k ih =>
    intro i deep hi ho hD;obtain⟨deep',h1,h2⟩:=qha hr x hx h30 (i:=i) (by omega) ho hD;have hs:=scan_nz (nErr r x.2.2.1) i k;rw[hs];by_cases e:nErr r x.2.2.1 i=0
    · rw[if_pos e,qn (y:=((((i+1:Nat):Int),()),(deep',())))]
      · exact ih (i+1) deep' (by omega) (ho.step (qmt e)) (h2 e)
      · unfold qb4;simp only[show decide ((i:Int)<((x.2.2.1.length:Nat):Int))=true by simp;omega,cond_true];rw[h1,Option.bind_some];simp only[e,bne_self_eq_false,cond_false];rw[qe (by omega) (by omega)];rfl
    · rw[if_neg e,qg (r := .inr (nErr r x.2.2.1 i))]
      · rfl
      · unfold qb4;simp only[show decide ((i:Int)<((x.2.2.1.length:Nat):Int))=true by simp;omega,cond_true];rw[h1,Option.bind_some];simp only[bne_t e,cond_true]
theorem qnD {r:Rules} (hr:Rng qR r) (x:Rec) (hx:Rng tyRec x) (h30:x.2.2.1.length≤30):qa7 r x=some (qiC r x):=by
  unfold qa7 qiC;rw[qhS r hr,Option.bind_some];by_cases c:qu r=0
  rotate_left
  · rw[bne_t c,cond_true,if_pos c]
  rw[bne_f c,cond_false,if_neg (fun h=>h c)];rw[show decide (((x.2.2.1.length:Nat):Int)>200)=false by simp only[decide_eq_false_iff_not];omega,Bool.or_false];by_cases c1:10<x.1.length
  · rw[if_pos c1,show decide (((x.1.length:Nat):Int)>10)=true by simp only[decide_eq_true_eq];omega];rfl
  rw[if_neg c1,show decide (((x.1.length:Nat):Int)>10)=false by simp only[decide_eq_false_iff_not];omega,cond_false,tags_spec x hx,Option.bind_some];by_cases c2:qau (tErr x.1) x.1.length=0
  rotate_left
  · rw[bne_t c2,cond_true,if_pos c2]
  rw[bne_f c2,cond_false,if_neg (fun h=>h c2)];by_cases c3:x.2.2.2.1<0∨3<x.2.2.2.1
  · rw[if_pos c3,show(decide (x.2.2.2.1<0)||decide (x.2.2.2.1>3))=true by simp only[Bool.or_eq_true,decide_eq_true_eq];omega];rfl
  rw[if_neg c3,show(decide (x.2.2.2.1<0)||decide (x.2.2.2.1>3))=false by simp only[Bool.or_eq_false_iff,decide_eq_false_iff_not];omega,cond_false];rw[qlF _ hx.2.1,Option.bind_some];by_cases c4:cErr x.2.1=0
  rotate_left
  · rw[bne_t c4,cond_true,if_pos c4]
  rw[bne_f c4,cond_false,if_neg (fun h=>h c4)]
  rw[show(decide (0≤((x.2.2.1.length:Nat):Int))&&((((x.2.2.1.length:Nat):Int)==((x.2.2.1.length:Nat):Int))&&room (((x.2.2.1.length:Nat):Int)).toNat 8))=true by
    rw[beq_self_eq_true,qae (by omega)];simp,qa]
  exact quz hr x hx h30 x.2.2.1.length 0 _ (by omega) (fun i hi=>by omega) ⟨by simp,fun j hj=>by simp[List.getD_eq_getElem?_getD,hj];omega,fun j _=>by
    rw[List.getD_eq_getElem?_getD,List.getElem?_replicate]
    split<;>rfl⟩
theorem within_L2 (ns:List RNode) (h30:ns.length≤1000) (n c:Int) (h0:0≤n) (h1:n<((ns.length:Nat):Int)) (hd:Down ns (n.toNat+1)) :
    ∃d,iterW (qbP ((n,c,()),()) ns) ((c,0,()),())=some ((d,()),())∧(d=c∨d=w64 (c+1)∧sibB ns n.toNat=true):=by
  have key:∀k i:Nat,i+k=n.toNat→∃d,iterW (qbP ((n,c,()),()) ns) ((c,(i:Int),()),())=some ((d,()),())∧(d=c∨d=w64 (c+1)∧sibB ns n.toNat=true):=by
    intro k
    induction k with
    | zero =>
      intro i hi;refine⟨c,qg ?_,.inl rfl⟩;unfold qbP;simp only[show decide ((i:Int)<n)=false by simp only[decide_eq_false_iff_not];omega,cond_false]
    | succ k ih =>
      intro i hi;obtain⟨d,q1,q2⟩:=ih (i+1) (by omega);obtain⟨d3,e1,e2,_⟩:=qg4 (ns:=ns) (n:=(i:Int)) (by omega) (by omega);obtain⟨d4,e3,e4,_⟩:=qg4 (ns:=ns) (n:=n) h0 h1;by_cases e:rpar ns i=rpar ns n.toNat
      · refine⟨w64 (c+1),qg ?_,.inr ⟨rfl,?_⟩⟩
        · unfold qbP;simp only[show decide ((i:Int)<n)=true by simp only[decide_eq_true_eq];omega,cond_true];rw[e1,Option.bind_some,e3,Option.bind_some,e2,e4,Int.toNat_natCast,beq_t e,cond_true]
        · unfold sibB;rw[List.any_eq_true];exact⟨i,List.mem_range.2 (by omega),beq_t e⟩
      · refine⟨d,?_,q2⟩;rw[qn (y:=((c,((i+1:Nat):Int),()),()))]
        · exact q1
        · unfold qbP;simp only[show decide ((i:Int)<n)=true by simp only[decide_eq_true_eq];omega,cond_true];rw[e1,Option.bind_some,e3,Option.bind_some,e2,e4,Int.toNat_natCast,beq_f e,cond_false,qe (by omega) (by omega)];rfl
  exact key n.toNat 0 (by omega)
theorem qsd (ns:List RNode) (h30:ns.length≤30) {i:Nat} (hi:i<ns.length) (ho:Ord ns (i+1)):∃n,qh9 ns (i:Int)=some n∧n≤20:=by
  have hI:=qk8 (f:=qef ns) (fun s => -1≤s.1.1∧s.1.1≤(i:Int)∧0≤s.1.2.1∧2*s.1.2.1+s.1.1≤(i:Int)) (fun s=>(s.1.1+1).toNat) (fun r=>r.1.1≤20) (by
    rintro ⟨⟨n,c,⟨⟩⟩,⟨⟩⟩ ⟨h1,h2,h3,h4⟩
    simp only at h1 h2 h3 h4 ⊢;by_cases h:n<0
    · refine .inr ⟨((c,()),()),?_,by simp only;omega⟩;unfold qef;simp only[show decide (n≥0)=false by simp only[decide_eq_false_iff_not];omega,cond_false]
    · obtain⟨d,q1,q2⟩:=within_L2 ns (by omega) n c (by omega) (by omega) (ho.down.mono (by omega));obtain⟨d7,e1,e2,_⟩:=qg4 (ns:=ns) (n:=n) (by omega) (by omega);have hp:=ho.down n.toNat (by omega);have hp2:=ho.low n.toNat (by omega);have hw:w64 (c+1)=c+1:=qe (by omega) (by omega);refine .inl ⟨((rpar ns n.toNat,d,()),()),?_,?_,by simp only;omega⟩
      · unfold qef;simp only[show decide (n≥0)=true by simp only[decide_eq_true_eq];omega,cond_true];rw[q1,Option.bind_some,Option.bind_some,e1,Option.bind_some,e2]
      · simp only;rcases q2 with rfl | ⟨rfl,hs⟩
        · omega
        · have:=qsp (i:=n.toNat) (ho.down.mono (by omega)) hs
          omega)
  obtain⟨r,q1,q2⟩:=hI (((i:Int),0,()),()) ⟨by simp only;omega,Int.le_refl _,Int.le_refl _,by simp only;omega⟩;unfold qh9;rw[q1,Option.bind_some];exact⟨_,rfl,q2⟩
theorem qqe {r:Rules} (hr:Rng qR r) (x:Rec) (hx:Rng tyRec x) (h30:x.2.2.1.length≤30) (z:Option Int):∀(k i:Nat),i+k=x.2.2.1.length→Ord x.2.2.1 i →
    Option.bind (iterW (qaL x r) (((i:Int),()),())) (Sum.elim (fun _=>z) some)=if scan (fun i=>nz (nErr r x.2.2.1 i)) 0 i k=0 then z else some (scan (fun i=>nz (nErr r x.2.2.1 i)) 0 i k):=by
  intro k
  induction k with
  | zero =>
    intro i hi ho
    have:i=x.2.2.1.length:=by omega
    subst this;rw[qg (r := .inl ((),())) (by unfold qaL;simp)];rfl
  | succ k ih =>
    intro i hi ho
    have hi':i<x.2.2.1.length:=by omega
    have hs:=scan_nz (nErr r x.2.2.1) i k;have hf:qaL x r (((i:Int),()),())=if nErr r x.2.2.1 i=0 then some (.inl ((((i+1:Nat):Int),()),())) else some (.inr (.inr (nErr r x.2.2.1 i))):=by
      obtain⟨n1,n2,n3⟩:=qjx hi';have hd:=ho.down;unfold qaL;simp only[show decide ((i:Int)<((x.2.2.1.length:Nat):Int))=true by simp;omega,cond_true];rw[qcS _ _ hi',Option.bind_some];obtain⟨nd,hnd⟩:∃nd:RNode,x.2.2.1[i]=nd:=⟨_,rfl⟩;rw[hnd] at n1 n2 n3;rw[hnd];simp only[n1,n3];rw[qe (n:=(i:Int)+1) (by omega) (by omega)];unfold nErr;by_cases hc1:60<(rcom x.2.2.1 i).size
      · have:cErr (rcom x.2.2.1 i)=2:=by unfold cErr;rw[if_pos hc1]
        rw[show decide (((rcom x.2.2.1 i).size:Nat)>(60:Int))=true by simp only[decide_eq_true_eq];omega,this];rfl
      rw[show decide (((rcom x.2.2.1 i).size:Nat)>(60:Int))=false by simp only[decide_eq_false_iff_not];omega,cond_false,qm4 _ _ (by omega) (by decide),Option.bind_some];cases hc2:fineT (rcom x.2.2.1 i) (ByteArray.mk #[123,125])
      · have:cErr (rcom x.2.2.1 i)=3:=by unfold cErr;rw[if_neg hc1,hc2,if_pos rfl]
        rw[this];rfl
      have hc:cErr (rcom x.2.2.1 i)=0:=by unfold cErr;rw[if_neg hc1,hc2,if_neg (by decide)]
      simp only[hc,ne_eq,not_true,if_false,Bool.not_true,cond_false]
      have hcond:∃b,gopt (((decide ((i:Int)>0))&&(decide (rpar x.2.2.1 i≥0)))&&(!((decide (rpar x.2.2.1 i < -1))||(decide (rpar x.2.2.1 i≥(i:Int)))))) false (qhM x.2.2.1 (rpar x.2.2.1 i) (w64 ((i:Int)-1)))=some b ∧
          ((((decide (rpar x.2.2.1 i < -1))||(decide (rpar x.2.2.1 i≥(i:Int))))||(((decide ((i:Int)>0))&&(decide (rpar x.2.2.1 i≥0)))&&(!b)))||(((i:Int)==0)&&(rpar x.2.2.1 i != -1))) = !(ordB x.2.2.1 i):=by
        rw[qe (by omega) (by omega)];generalize hp:rpar x.2.2.1 i=p
        have hob:ordB x.2.2.1 i=(decide (p<(i:Int))&&(decide (0≤p∧p.toNat∈wayN x.2.2.1 ((i:Int)-1))||(p == -1))):=by unfold ordB;rw[hp]
        rw[hob];by_cases g1:p < -1
        · refine⟨false,by rw[show decide (p < -1)=true from decide_eq_true g1];simp[gopt],?_⟩;rw[show decide (p < -1)=true from decide_eq_true g1,beq_f (show ¬p = -1 by omega),decide_eq_false (show ¬(0≤p∧p.toNat∈wayN x.2.2.1 ((i:Int)-1)) by omega)];simp
        rw[show decide (p < -1)=false from decide_eq_false g1];by_cases g2:p≥(i:Int)
        · refine⟨false,by rw[show decide (p≥(i:Int))=true from decide_eq_true g2];simp[gopt],?_⟩;rw[show decide (p≥(i:Int))=true from decide_eq_true g2,decide_eq_false (show ¬p<(i:Int) by omega)];simp
        rw[show decide (p≥(i:Int))=false from decide_eq_false g2,decide_eq_true (show p<(i:Int) by omega)];by_cases g3:p = -1
        · refine⟨false,by rw[show decide (p≥0)=false from decide_eq_false (by omega)];simp[gopt],?_⟩;subst g3;simp
        have g4:0≤p:=by omega
        have g5:0<i:=by omega
        have hab:=quA x.2.2.1 (a:=p) (n:=(i:Int)-1) g4 (by omega) (by rw[show((i:Int)-1+1).toNat=i by omega];exact hd);refine⟨_,by rw[show decide ((i:Int)>0)=true from decide_eq_true (by omega),show decide (p≥0)=true from decide_eq_true g4];exact hab,?_⟩;rw[show decide ((i:Int)>0)=true from decide_eq_true (by omega),show decide (p≥0)=true from decide_eq_true g4,beq_f (show ¬p = -1 from g3),beq_f (show ¬(i:Int)=0 by omega)];by_cases g6:p.toNat∈wayN x.2.2.1 ((i:Int)-1)
        · simp[g4,g6]
        · simp[g4,g6]
      obtain⟨b,hb1,hb2⟩:=hcond;rw[hb1,Option.bind_some,hb2];cases hob:ordB x.2.2.1 i
      · rfl
      have hor:=ho.step hob;have hd1:=hor.down;simp only[Bool.not_true,cond_false,if_neg (show ¬(true=false) by decide)]
      have hL4:=qY (List.range i) (fun k=>(rpar x.2.2.1 k==rpar x.2.2.1 i)&&(rmv x.2.2.1 k==rmv x.2.2.1 i)) (qbk (((i:Int),()),()) x nd) (.inr (.inr (.inr (.inr 7)))) (.inl ((),())) (fun k hk=>by
        have hk':k<i:=by simpa using hk
        obtain⟨d,e1,e2,e3⟩:=qg4 (ns:=x.2.2.1) (n:=(k:Int)) (by omega) (by omega);rw[Int.toNat_natCast] at e2 e3;unfold qbk;simp only[show decide ((k:Int)<(i:Int))=true by simp;omega,cond_true,n1,n2,List.getElem_range];rw[e1,Option.bind_some,e2,qe (n:=(k:Int)+1) (by omega) (by omega)];cases e5:(rpar x.2.2.1 k==rpar x.2.2.1 i)
        · rfl
        · show Option.bind (at? x.2.2.1 (k:Int)) _=_;rw[e1,Option.bind_some];have:=qtB d.2.1 (rmv x.2.2.1 i);unfold eqMv at this;rw[this,e3]
          cases (rmv x.2.2.1 k==rmv x.2.2.1 i)<;>rfl) (by
        unfold qbk;rw[List.length_range]
        simp)
      have htw:(List.range i).any (fun k=>(rpar x.2.2.1 k==rpar x.2.2.1 i)&&(rmv x.2.2.1 k==rmv x.2.2.1 i))=twinB x.2.2.1 i:=rfl;rw[hL4,htw,Option.bind_some];cases twinB x.2.2.1 i
      rotate_left
      · rfl
      simp only[cond_false,Sum.elim_inl,if_neg (show ¬(false=true) by decide)];have hwl:(wayM x.2.2.1 (i:Int)).length≤1000:=by
        unfold wayM;rw[List.length_reverse,List.length_map];have:=qh6 _ (i:Int) (Nat.le_refl _) (by rw[show((i:Int)+1).toNat=i+1 by omega];exact hd1);omega
      rw[way3 x.2.2.1 (by omega) (n:=(i:Int)) (by omega) (by omega) (by rw[show((i:Int)+1).toNat=i+1 by omega];exact hd1) (fun j hj=>hor.low j (by omega)),Option.bind_some,qjz r (wayM x.2.2.1 (i:Int)) hr (by omega),Option.bind_some,qpo];by_cases e:gErr r (wayM x.2.2.1 (i:Int))=0
      · simp only[e,bne_self_eq_false,cond_false,if_true];rfl
      · simp only[bne_t e,cond_true,if_neg e];rfl
    rw[hs];by_cases e:nErr r x.2.2.1 i=0
    · rw[if_pos e] at hf;rw[if_pos e,qn hf];exact ih (i+1) (by omega) (ho.step (qmt e))
    · rw[if_neg e] at hf;rw[if_neg e,qg hf,if_neg e];rfl
theorem qrp (x:Rec) (h30:x.2.2.1.length≤30) (ho:Ord x.2.2.1 x.2.2.1.length):iterW (qaq x) ((0,()),())=some (.inl ((),())):=by
  have:=qY x.2.2.1 (fun _=>false) (qaq x) (.inr 2) (.inl ((),())) (fun i hi=>by
    obtain⟨n,e1,e2⟩:=qsd x.2.2.1 h30 hi (ho.mono (by omega));unfold qaq;simp only[show decide ((i:Int)<((x.2.2.1.length:Nat):Int))=true by simp;omega,cond_true];rw[e1,Option.bind_some,show decide (n>20)=false by simp only[decide_eq_false_iff_not];omega,cond_false,qe (by omega) (by omega)]
    rfl) (by unfold qaq;simp)
  rw[this,show x.2.2.1.any (fun _=>false)=false from List.any_eq_false.2 (fun _ _ h=>by cases h)];rfl
theorem qu6 {r:Rules} (hr:Rng qR r) (x:Rec) (hx:Rng tyRec x) (h30:x.2.2.1.length≤30):qa2 r x=some (qiC r x):=by
  unfold qa2 qiC;rw[qjz r [] hr (by simp),Option.bind_some,qpo];have hg:gErr r []=qu r:=by
    unfold gErr qgS;by_cases c:qu r=0
    · rw[if_pos c,c];rfl
    · rw[if_neg c]
  rw[hg];by_cases c:qu r=0
  rotate_left
  · rw[bne_t c,cond_true,if_pos c]
  rw[bne_f c,cond_false,if_neg (fun h=>h c)];rw[show decide (((x.2.2.1.length:Nat):Int)>200)=false by simp only[decide_eq_false_iff_not];omega,Bool.or_false];by_cases c1:10<x.1.length
  · rw[if_pos c1,show decide (((x.1.length:Nat):Int)>10)=true by simp only[decide_eq_true_eq];omega];rfl
  rw[if_neg c1,show decide (((x.1.length:Nat):Int)>10)=false by simp only[decide_eq_false_iff_not];omega,cond_false,qq0 x hx];by_cases c2:qau (tErr x.1) x.1.length=0
  rotate_left
  · rw[if_neg c2,if_pos c2]
  rw[if_pos c2,if_neg (fun h=>h c2)];by_cases c3:x.2.2.2.1<0∨3<x.2.2.2.1
  · rw[if_pos c3,show(decide (x.2.2.2.1<0)||decide (x.2.2.2.1>3))=true by simp only[Bool.or_eq_true,decide_eq_true_eq];omega];rfl
  rw[if_neg c3,show(decide (x.2.2.2.1<0)||decide (x.2.2.2.1>3))=false by simp only[Bool.or_eq_false_iff,decide_eq_false_iff_not];omega,cond_false];by_cases hc1:60<x.2.1.size
  · have:cErr x.2.1=2:=by unfold cErr;rw[if_pos hc1]
    rw[show decide (((x.2.1.size:Nat):Int)>60)=true by simp only[decide_eq_true_eq];omega,this];rfl
  rw[show decide (((x.2.1.size:Nat):Int)>60)=false by simp only[decide_eq_false_iff_not];omega,cond_false,qm4 _ _ (by omega) (by decide),Option.bind_some];cases hc2:fineT x.2.1 (ByteArray.mk #[123,125])
  · have:cErr x.2.1=3:=by unfold cErr;rw[if_neg hc1,hc2,if_pos rfl]
    rw[this];rfl
  have hc:cErr x.2.1=0:=by unfold cErr;rw[if_neg hc1,hc2,if_neg (by decide)]
  simp only[hc,ne_eq,not_true,if_false,Bool.not_true,cond_false];have h3:=qqe hr x hx h30 (Option.bind (iterW (qaq x) ((0,()),())) (Sum.elim (fun x28=>some 0) some)) x.2.2.1.length 0 (by omega) (fun i hi=>by omega);refine h3.trans ?_;show(if qau (nErr r x.2.2.1) x.2.2.1.length=0 then _ else some (qau (nErr r x.2.2.1) x.2.2.1.length))=some (qau (nErr r x.2.2.1) x.2.2.1.length);by_cases c5:qau (nErr r x.2.2.1) x.2.2.1.length=0
  · rw[if_pos c5,qrp x h30 (ord_of c5),c5];rfl
  · rw[if_neg c5]

def szF:Fo→Nat
  | .nil=>0
  | .cons _ _ k r=>1+(szF k+szF r)
def preF (par:Int) (i:Nat):Fo→List RNode
  | .nil=>[]
  | .cons m c k r=>(par,m,c,())::(preF (i:Int) (i+1) k++preF par (i+1+szF k) r)
theorem qdg:∀(f:Fo) (par:Int) (i:Nat),(preF par i f).length=szF f
  | .nil,_,_=>rfl
  | .cons m c k r,par,i=>by simp only[preF,List.length_cons,List.length_append,qdg k,qdg r,szF];omega
def Seg (ns:List RNode) (i:Nat) (l:List RNode):Prop:=∃e,ns.drop i=l++e
theorem Seg.head {ns:List RNode} {i:Nat} {x:RNode} {l:List RNode} (h:Seg ns i (x::l)):ns[i]?=some x:=by
  obtain⟨e,h⟩:=h;have:=congrArg (fun l=>l[0]?) h;simpa using this
theorem Seg.tail {ns:List RNode} {i:Nat} {x:RNode} {l:List RNode} (h:Seg ns i (x::l)):Seg ns (i+1) l:=by
  obtain⟨e,h⟩:=h;refine⟨e,?_⟩;have:=congrArg (fun l=>l.drop 1) h;simpa using this
theorem Seg.left {ns:List RNode} {i:Nat} {a b:List RNode} (h:Seg ns i (a++b)):Seg ns i a:=by
  obtain⟨e,h⟩:=h;exact⟨b++e,by rw[h,List.append_assoc]⟩
theorem Seg.right {ns:List RNode} {i:Nat} {a b:List RNode} (h:Seg ns i (a++b)):Seg ns (i+a.length) b:=by
  obtain⟨e,h⟩:=h;refine⟨e,?_⟩;rw[←List.drop_drop,h,List.append_assoc,List.drop_left]
theorem Seg.parts {ns:List RNode} {par:Int} {i:Nat} {m:Mv} {c:ByteArray} {k r:Fo} (h:Seg ns i (preF par i (.cons m c k r))):ns[i]?=some (par,m,c,())∧Seg ns (i+1) (preF (i:Int) (i+1) k)∧Seg ns (i+1+szF k) (preF par (i+1+szF k) r):=by
  have h2:=h.tail;have h3:=h2.right;rw[qdg] at h3;exact⟨h.head,h2.left,h3⟩
theorem qcY {ns:List RNode} {i:Nat} {x:RNode} (h:ns[i]?=some x):rpar ns i=x.1∧rmv ns i=x.2.1∧rcom ns i=x.2.2.1:=by simp[rpar,rmv,rcom,h]
theorem qux {ns:List RNode} (hd:Down ns ns.length):∀(f:Fo) (par:Int) (i:Nat) (p:List Mv),Seg ns i (preF par i f)→wayM ns par=p→(List.range (szF f)).map (fun t=>(wayM ns ((i+t:Nat):Int),rcom ns (i+t)))=wfF p f
  | .nil,par,i,p,_,_=>rfl
  | .cons m c k r,par,i,p,h,hp=>by
    obtain⟨h1,h2,h3⟩:=h.parts;obtain⟨g1,g2,g3⟩:=qcY h1;simp only at g1 g2 g3;have hi:i<ns.length:=(List.getElem?_eq_some_iff.1 h1).1;have hw:wayM ns (i:Int)=p++[m]:=by
      unfold wayM;rw[qbK (by omega) (hd.mono (by omega))];simp only[Int.toNat_natCast,List.map_cons,List.reverse_cons,g2,g1];rw[←hp];rfl
    have ek:=qux hd k (i:Int) (i+1) _ h2 hw;have er:=qux hd r par (i+1+szF k) p h3 hp;have e1:List.range (szF (.cons m c k r))=0::((List.range (szF k)).map (fun t=>1+t)++(List.range (szF r)).map fun t=>1+(szF k+t)):=by
      rw[szF,List.range_add,List.range_add,List.map_append,List.map_map];rfl
    rw[wfF,←ek,←er,e1,List.map_cons,List.map_append,List.map_map,List.map_map,Nat.add_zero,hw,g3];congr 2
    · apply List.map_congr_left;intro t _;simp only[Function.comp];rw[show i+(1+t)=i+1+t by omega]
    · apply List.map_congr_left;intro t _;simp only[Function.comp];rw[show i+(1+(szF k+t))=i+1+szF k+t by omega]
theorem qp1 {ns:List RNode} (hd:Down ns ns.length):∀(f:Fo) (par:Int) (i:Nat),Seg ns i (preF par i f)→f ≠ .nil→∀q∈wayN ns par,q∈wayN ns ((i+szF f-1:Nat):Int)
  | .nil,par,i,_,h,_,_=>absurd rfl h
  | .cons m c k r,par,i,h,_,q,hq=>by
    obtain⟨h1,h2,h3⟩:=h.parts;obtain⟨g1,g2,g3⟩:=qcY h1;simp only at g1;have hi:i<ns.length:=(List.getElem?_eq_some_iff.1 h1).1
    have hw:wayN ns (i:Int)=i::wayN ns par:=by rw[qbK (by omega) (hd.mono (by omega)),Int.toNat_natCast,g1]
    cases r with
    | cons m' c' k' r' =>
      have:=qp1 hd (.cons m' c' k' r') par (i+1+szF k) h3 (fun e=>by cases e) q hq
      rwa [show i+1+szF k+szF (.cons m' c' k' r')-1=i+szF (.cons m c k (.cons m' c' k' r'))-1 by simp only[szF];omega] at this
    | nil =>
      cases k with
      | nil =>
        rw[show i+szF (.cons m c .nil .nil)-1=i by simp[szF],hw];exact List.mem_cons_of_mem _ hq
      | cons m' c' k' r' =>
        have:=qp1 hd (.cons m' c' k' r') (i:Int) (i+1) h2 (fun e=>by cases e) q (by rw[hw];exact List.mem_cons_of_mem _ hq)
        rwa [show i+1+szF (.cons m' c' k' r')-1=i+szF (.cons m c (.cons m' c' k' r') .nil)-1 by simp only[szF];omega] at this
theorem wayN_self {ns:List RNode} {i:Nat} (hd:Down ns ns.length) (hi:i<ns.length):i∈wayN ns (i:Int):=by
  rw[qbK (by omega) (hd.mono (by omega))];simp
theorem qqw {ns:List RNode}:∀(f:Fo) (par:Int) (i:Nat),Seg ns i (preF par i f)→par<(i:Int)→∀j,i≤j→j<i+szF f→rpar ns j<(j:Int)
  | .nil,_,_,_,_,j,h1,h2=>by simp only[szF] at h2;omega
  | .cons m c k r,par,i,h,hp,j,hj1,hj2=>by
    obtain⟨h1,h2,h3⟩:=h.parts;obtain⟨g1,_,_⟩:=qcY h1;simp only at g1;simp only[szF] at hj2;by_cases e:j=i
    · subst e;rw[g1];exact hp
    · by_cases e2:j<i+1+szF k
      · exact qqw k (i:Int) (i+1) h2 (by omega) j (by omega) e2
      · exact qqw r par (i+1+szF k) h3 (by omega) j (by omega) (by omega)
theorem qsv {ns:List RNode} (hd:Down ns ns.length):∀(f:Fo) (par:Int) (i:Nat),Seg ns i (preF par i f)→par<(i:Int)→(par = -1∨0≤par∧par.toNat∈wayN ns ((i:Int)-1))→∀j,i≤j→j<i+szF f→ordB ns j=true
  | .nil,_,_,_,_,_,j,h1,h2=>by simp only[szF] at h2;omega
  | .cons m c k r,par,i,h,hp,ho,j,hj1,hj2=>by
    obtain⟨h1,h2,h3⟩:=h.parts;obtain⟨g1,_,_⟩:=qcY h1;simp only at g1;simp only[szF] at hj2;have hi:i<ns.length:=(List.getElem?_eq_some_iff.1 h1).1;by_cases e:j=i
    · subst e;unfold ordB;rw[g1];simp only[Bool.and_eq_true,decide_eq_true_eq,Bool.or_eq_true,beq_iff_eq];exact⟨hp,ho.symm⟩
    · by_cases e2:j<i+1+szF k
      · refine qsv hd k (i:Int) (i+1) h2 (by omega) (.inr ⟨by omega,?_⟩) j (by omega) e2;rw[show((i+1:Nat):Int)-1=(i:Int) by omega,Int.toNat_natCast];exact wayN_self hd hi
      · refine qsv hd r par (i+1+szF k) h3 (by omega) (ho.imp_right fun ⟨ha,hb⟩=>⟨ha,?_⟩) j (by omega) (by omega)
        have hpl:par.toNat∈wayN ns par:=by rw[qbK ha (hd.mono (by omega))];simp
        have hlast:=qp1 hd (.cons m c k .nil) par i (by
          have:=h;unfold preF at this ⊢;rw[preF,List.append_nil]
          exact Seg.left (b:=preF par (i+1+szF k) r) (by simpa using this)) (fun e=>by cases e) _ hpl
        rwa [show((i+szF (.cons m c k .nil)-1:Nat):Int)=((i+1+szF k:Nat):Int)-1 by simp only[szF];omega] at hlast
theorem qmp (f:Fo):Down (preF (-1) 0 f) (preF (-1) 0 f).length:=fun i hi=>by
  rw[qdg] at hi;exact qqw f (-1) 0 ⟨[],by simp⟩ (by omega) i (by omega) (by omega)
theorem pre_ord (f:Fo):Ord (preF (-1) 0 f) (preF (-1) 0 f).length:=fun i hi=>by
  have hd:=qmp f;rw[qdg] at hi;exact qsv hd f (-1) 0 ⟨[],by simp⟩ (by omega) (.inl rfl) i (by omega) (by omega)

def apR (m:Mv) (c:ByteArray):Fo→Fo
  | .nil => .cons m c .nil .nil
  | .cons m' c' k r => .cons m' c' k (apR m c r)
theorem qpu (m:Mv) (c:ByteArray):∀(f:Fo) (par:Int) (i:Nat),preF par i (apR m c f)=preF par i f++[(par,m,c,())]
  | .nil,par,i=>rfl
  | .cons m' c' k r,par,i=>by
    simp only[apR,preF,qpu m c r,List.cons_append,List.append_assoc]
def spF (i:Nat):Fo→List Nat
  | .nil=>[]
  | .cons m c k .nil=>i::spF (i+1) k
  | .cons m c k (.cons m' c' k' r')=>spF (i+1+szF k) (.cons m' c' k' r')
def adF (q:Int) (m:Mv) (c:ByteArray) (par:Int) (i:Nat):Fo→Fo
  | .nil => .cons m c .nil .nil
  | .cons m' c' k .nil=>if q=par then apR m c (.cons m' c' k .nil) else .cons m' c' (adF q m c (i:Int) (i+1) k) .nil
  | .cons m' c' k (.cons m2 c2 k2 r2)=>if q=par then apR m c (.cons m' c' k (.cons m2 c2 k2 r2)) else .cons m' c' k (adF q m c par (i+1+szF k) (.cons m2 c2 k2 r2))
theorem qpJ (q:Int) (m:Mv) (c:ByteArray):∀(f:Fo) (par:Int) (i:Nat),(q=par∨∃t∈spF i f,q=(t:Int))→preF par i (adF q m c par i f)=preF par i f++[(q,m,c,())]
  | .nil,par,i,h=>by
    rcases h with h | ⟨t,ht,_⟩
    · subst h;rfl
    · simp[spF] at ht
  | .cons m' c' k .nil,par,i,h=>by
    unfold adF;split
    · rename_i e;subst e;exact qpu m c _ _ _
    · rename_i e;have h':q=(i:Int)∨∃t∈spF (i+1) k,q=(t:Int):=by
        rcases h with h | ⟨t,ht,h⟩
        · exact absurd h e
        · simp only[spF,List.mem_cons] at ht;rcases ht with rfl | ht
          · exact .inl h
          · exact .inr ⟨t,ht,h⟩
      simp only[preF,qpJ q m c k (i:Int) (i+1) h',List.append_nil,List.cons_append]
  | .cons m' c' k (.cons m2 c2 k2 r2),par,i,h=>by
    unfold adF;split
    · rename_i e;subst e;exact qpu m c _ _ _
    · rename_i e;have h':q=par∨∃t∈spF (i+1+szF k) (.cons m2 c2 k2 r2),q=(t:Int):=by
        rcases h with h | ⟨t,ht,h⟩
        · exact absurd h e
        · simp only[spF] at ht;exact .inr ⟨t,ht,h⟩
      rw[preF,qpJ q m c _ par _ h',preF.eq_2 par i m' c' k,List.cons_append,List.append_assoc]
theorem qnC {ns:List RNode} (hd:Down ns ns.length):∀(f:Fo) (par:Int) (i:Nat),Seg ns i (preF par i f)→f ≠ .nil→∀q∈wayN ns ((i+szF f-1:Nat):Int),q∈spF i f∨q∈wayN ns par
  | .nil,par,i,_,h,_,_=>absurd rfl h
  | .cons m c k .nil,par,i,h,_,q,hq=>by
    obtain⟨h1,h2,h3⟩:=h.parts;obtain⟨g1,g2,g3⟩:=qcY h1;simp only at g1;have hi:i<ns.length:=(List.getElem?_eq_some_iff.1 h1).1
    have hw:wayN ns (i:Int)=i::wayN ns par:=by rw[qbK (by omega) (hd.mono (by omega)),Int.toNat_natCast,g1]
    cases k with
    | nil =>
      rw[show i+szF (.cons m c .nil .nil)-1=i by simp[szF],hw] at hq;rcases List.mem_cons.1 hq with rfl | hq
      · exact .inl (by simp[spF])
      · exact .inr hq
    | cons m' c' k' r' =>
      have:=qnC hd (.cons m' c' k' r') (i:Int) (i+1) h2 (fun e=>by cases e) q (by rwa [show i+1+szF (.cons m' c' k' r')-1=i+szF (.cons m c (.cons m' c' k' r') .nil)-1 by simp only[szF];omega]);rw[hw] at this;simp only[spF,List.mem_cons] at this ⊢;rcases this with h | h | h
      · exact .inl (.inr h)
      · exact .inl (.inl h)
      · exact .inr h
  | .cons m c k (.cons m' c' k' r'),par,i,h,_,q,hq=>by
    obtain⟨h1,h2,h3⟩:=h.parts;have:=qnC hd (.cons m' c' k' r') par (i+1+szF k) h3 (fun e=>by cases e) q (by rwa [show i+1+szF k+szF (.cons m' c' k' r')-1=i+szF (.cons m c k (.cons m' c' k' r'))-1 by simp only[szF];omega]);simpa only[spF] using this
theorem ord_pre {ns:List RNode} (ho:Ord ns ns.length):∀j,j≤ns.length→∃f,ns.take j=preF (-1) 0 f
  | 0,_=>⟨.nil,rfl⟩
  | j+1,hj=>by
    obtain⟨f,hf⟩:=ord_pre ho j (by omega);have hd:=ho.down;have hlen:szF f=j:=by
      have:=congrArg List.length hf;rw[qdg,List.length_take] at this;omega
    obtain⟨⟨q,m,c,u⟩,hx⟩:∃y,ns[j]'(by omega)=y:=⟨_,rfl⟩
    have hx':ns[j]?=some (q,m,c,u):=by rw[List.getElem?_eq_getElem (by omega),hx]
    obtain⟨g1,_,_⟩:=qcY hx';simp only at g1;have hb:=ho j (by omega);unfold ordB at hb;simp only[g1,Bool.and_eq_true,Bool.or_eq_true,decide_eq_true_eq,beq_iff_eq] at hb;refine⟨adF q m c (-1) 0 f,?_⟩;rw[qpJ q m c f (-1) 0 ?_,←hf,List.take_add_one,hx']
    · rfl
    rcases hb.2 with ⟨h0,hm⟩ | h
    · right;have hj0:0<j:=by
        rcases Nat.eq_zero_or_pos j with e | e
        · subst e;rw[qb9 _ (by omega)] at hm;cases hm
        · exact e
      have hs:Seg ns 0 (preF (-1) 0 f):=⟨ns.drop j,by rw[←hf,List.drop_zero,List.take_append_drop]⟩
      have hne:f ≠ .nil:=fun e=>by subst e;simp[szF] at hlen;omega
      have:=qnC hd f (-1) 0 hs hne q.toNat (by rwa [hlen,Nat.zero_add,show((j-1:Nat):Int)=(j:Int)-1 by omega]);rw[qb9 _ (by omega:(-1:Int)<0)] at this;rcases this with h | h
      · exact⟨_,h,by omega⟩
      · cases h
    · exact .inl h
theorem qtK:∀(f:Fo) (par:Int) (i:Nat) {ns:List RNode},Seg ns i (preF par i f)→∀m∈rootsF f,∃t,i≤t∧t<i+szF f∧t<ns.length∧rpar ns t=par∧rmv ns t=m
  | .nil,_,_,_,_,m,h=>by cases h
  | .cons m' c k r,par,i,ns,h,m,hm=>by
    obtain⟨h1,h2,h3⟩:=h.parts;obtain⟨g1,g2,_⟩:=qcY h1;simp only at g1 g2;simp only[szF];rcases List.mem_cons.1 hm with rfl | hm
    · exact⟨i,by omega,by omega,(List.getElem?_eq_some_iff.1 h1).1,g1,g2⟩
    · obtain⟨t,q1,q2,q3,q4,q5⟩:=qtK r par _ h3 m hm;exact⟨t,by omega,by omega,q3,q4,q5⟩
theorem qti {ns:List RNode} (ht:∀j,j<ns.length→twinB ns j=false):∀(f:Fo) (par:Int) (i:Nat),Seg ns i (preF par i f)→Dis f
  | .nil,_,_,_=>trivial
  | .cons m c k r,par,i,h=>by
    obtain⟨h1,h2,h3⟩:=h.parts;obtain⟨g1,g2,_⟩:=qcY h1;simp only at g1 g2;refine⟨fun hm=>?_,qti ht k _ _ h2,qti ht r _ _ h3⟩;obtain⟨t,q1,q2,q3,q4,q5⟩:=qtK r par _ h3 m hm;have:=ht t q3;unfold twinB at this;rw[List.any_eq_false] at this;exact this i (List.mem_range.2 (by omega)) (by simp[g1,g2,q4,q5])
theorem qu5 {ns:List RNode} (ho:Ord ns ns.length) (ht:∀j,j<ns.length→twinB ns j=false):∃f,ns=preF (-1) 0 f∧Dis f:=by
  obtain⟨f,hf⟩:=ord_pre ho ns.length (Nat.le_refl _);rw[List.take_length] at hf;exact⟨f,hf,qti ht f (-1) 0 ⟨[],by rw[←hf];simp⟩⟩

def kidsI (ns:List RNode) (p:Int):List Int:=(List.range ns.length).flatMap fun (k:Nat)=>bif rpar ns k==p then [(k:Int)] else []
theorem qfZ (x:Rec) (p:Int) (h30:x.2.2.1.length≤1000):qh1 x p=some (kidsI x.2.2.1 p):=by
  unfold qh1 kidsI
  have:=qh3 x.2.2.1.length 1 (qd6 x p) (fun k=>bif rpar x.2.2.1 k==p then [(k:Int)] else []) (fun a=>((a,()),())) [] (fun k _=>by
    cases (rpar x.2.2.1 k==p)
    · exact Nat.zero_le _
    · exact Nat.le_refl _) (fun i hi a ha=>by
    simp only[List.length_nil] at ha;unfold qd6;simp only[show decide ((i:Int)<((x.2.2.1.length:Nat):Int))=true by simp;omega,cond_true];rw[qcS _ _ hi,Option.bind_some,(qjx hi).1,qe (n:=(i:Int)+1) (by omega) (by omega)];cases (rpar x.2.2.1 i==p)
    · simp only[cond_false,Option.bind_some,List.append_nil]
    · simp only[cond_true];rw[qae (by simp only[List.length_cons,List.length_nil];omega),qa]
      rfl) (fun a=>by unfold qd6;simp)
  rw[this];rfl

def rlenF:Fo→Nat
  | .nil=>0
  | .cons _ _ _ r=>rlenF r+1
def qci (i:Nat):Fo→List Int
  | .nil=>[]
  | .cons _ _ k r=>(i:Int)::qci (i+1+szF k) r
theorem qlc {ns:List RNode}:∀(f:Fo) (par:Int) (i:Nat),Seg ns i (preF par i f)→∀j,i≤j→j<i+szF f→rpar ns j=par∨(i:Int)≤rpar ns j
  | .nil,_,_,_,j,h1,h2=>by simp only[szF] at h2;omega
  | .cons m c k r,par,i,h,j,hj1,hj2=>by
    obtain⟨h1,h2,h3⟩:=h.parts;obtain⟨g1,_,_⟩:=qcY h1;simp only at g1;simp only[szF] at hj2;by_cases e:j=i
    · subst e;exact .inl g1
    · by_cases e2:j<i+1+szF k
      · rcases qlc k (i:Int) (i+1) h2 j (by omega) e2 with h | h
        · exact .inr (by omega)
        · exact .inr (by omega)
      · rcases qlc r par (i+1+szF k) h3 j (by omega) (by omega) with h | h
        · exact .inl h
        · exact .inr (by omega)
theorem kids_in {ns:List RNode}:∀(f:Fo) (par:Int) (i:Nat),Seg ns i (preF par i f)→par<(i:Int)→((List.range (szF f)).flatMap fun (t:Nat)=>bif rpar ns (i+t)==par then [((i+t:Nat):Int)] else [])=qci i f
  | .nil,_,_,_,_=>rfl
  | .cons m c k r,par,i,h,hp=>by
    obtain⟨h1,h2,h3⟩:=h.parts;obtain⟨g1,_,_⟩:=qcY h1;simp only at g1;have er:=kids_in r par (i+1+szF k) h3 (by omega);have ek:((List.range (szF k)).flatMap fun (t:Nat)=>bif rpar ns (i+(1+t))==par then [((i+(1+t):Nat):Int)] else [])=[]:=by
      rw[List.flatMap_eq_nil_iff];intro t ht;have ht:=List.mem_range.1 ht;have:=qlc k (i:Int) (i+1) h2 (i+(1+t)) (by omega) (by omega)
      rw[show(rpar ns (i+(1+t))==par)=false by rw[beq_eq_false_iff_ne];rcases this with h | h<;>omega]
      rfl
    have e1:List.range (szF (.cons m c k r))=0::((List.range (szF k)).map (fun t=>1+t)++(List.range (szF r)).map fun t=>1+(szF k+t)):=by
      rw[szF,List.range_add,List.range_add,List.map_append,List.map_map];rfl
    rw[e1,List.flatMap_cons,List.flatMap_append,List.flatMap_map,List.flatMap_map,ek,qci,←er];simp only[Nat.add_zero,g1,beq_self_eq_true,cond_true,List.nil_append,List.cons_append];congr 1;rw[List.flatMap_def,List.flatMap_def];congr 1;apply List.map_congr_left;intro t _;rw[show i+(1+(szF k+t))=i+1+szF k+t by omega]
def Clo (ns:List RNode) (i:Nat) (f:Fo):Prop:=∀j,i+szF f≤j→j<ns.length→rpar ns j<(i:Int)∨((i+szF f:Nat):Int)≤rpar ns j
def Full (ns:List RNode) (par:Int) (i:Nat) (f:Fo):Prop:=Seg ns i (preF par i f)∧par<(i:Int)∧i+szF f≤ns.length∧∀j,j<ns.length→rpar ns j=par→i≤j∧j<i+szF f
theorem Full.kids {ns:List RNode} {par:Int} {i:Nat} {f:Fo} (h:Full ns par i f):kidsI ns par=qci i f:=by
  obtain⟨h1,h2,h3,h4⟩:=h;rw[←kids_in f par i h1 h2];unfold kidsI;have e1:List.range ns.length=List.range i++((List.range (szF f)).map (fun t=>i+t)++(List.range (ns.length-(i+szF f))).map fun t=>i+szF f+t):=by
    rw[show ns.length=i+szF f+(ns.length-(i+szF f)) by omega,List.range_add,List.range_add,List.append_assoc];congr 3;congr 1;omega
  rw[e1,List.flatMap_append,List.flatMap_append,List.flatMap_map,List.flatMap_map]
  rw[show((List.range i).flatMap fun (k:Nat)=>bif rpar ns k==par then [(k:Int)] else [])=[] by
    rw[List.flatMap_eq_nil_iff];intro t ht;have ht:=List.mem_range.1 ht;rw[show(rpar ns t==par)=false by rw[beq_eq_false_iff_ne];intro e;have:=(h4 t (by omega) e).1;omega]
    rfl]
  rw[show((List.range (ns.length-(i+szF f))).flatMap fun (t:Nat)=>bif rpar ns (i+szF f+t)==par then [((i+szF f+t:Nat):Int)] else [])=[] by
    rw[List.flatMap_eq_nil_iff];intro t ht;have ht:=List.mem_range.1 ht;rw[show(rpar ns (i+szF f+t)==par)=false by rw[beq_eq_false_iff_ne];intro e;have:=(h4 _ (by omega) e).2;omega]
    rfl]
  rw[List.nil_append,List.append_nil]
theorem Full.sub {ns:List RNode} (hd:Down ns ns.length) {par:Int} {i:Nat} {m:Mv} {c:ByteArray} {k r:Fo} (h:Seg ns i (preF par i (.cons m c k r))) (hp:par<(i:Int)) (hl:i+szF (.cons m c k r)≤ns.length) (hc:Clo ns i (.cons m c k r)) :
    Full ns (i:Int) (i+1) k∧Clo ns (i+1) k∧Clo ns (i+1+szF k) r:=by
  obtain⟨h1,h2,h3⟩:=h.parts;simp only[szF] at hl;have out:∀j,i+1+szF k≤j→j<ns.length→rpar ns j<(i:Int)∨((i+1+szF k:Nat):Int)≤rpar ns j:=fun j hj1 hj2=>by
    by_cases e:j<i+1+szF k+szF r
    · rcases qlc r par (i+1+szF k) h3 j hj1 e with h | h
      · exact .inl (by omega)
      · exact .inr h
    · rcases hc j (by simp only[szF];omega) hj2 with h | h
      · exact .inl h
      · refine .inr ?_;simp only[szF] at h;omega
  refine⟨⟨h2,by omega,by omega,fun j hj hr=>?_⟩,fun j hj1 hj2=>?_,fun j hj1 hj2=>?_⟩
  · have hdj:=hd j hj;refine⟨by omega,Nat.lt_of_not_le fun hge=>?_⟩
    rcases out j hge hj with h | h<;>omega
  · rcases out j hj1 hj2 with h | h<;>omega
  · rcases hc j (by simp only[szF];omega) hj2 with h | h
    · exact .inl (by omega)
    · refine .inr ?_;simp only[szF] at h;omega
end Go.Proofs.YthidcmjpbokeeaaGreatDoor
