/- Several texts in one: CoreN, CoreO, CoreR, CoreS2, CoreA, CoreB, GameP, CoreT, TextP, TextQ, TextU, TextV, GameT, TnA, JoinT, TnL, TnB, TnC, TnD, TnE, TnF, RecA, RecB, RecC, RecE, RecF. -/
import Derived.Test.YthidcmjpbokeeaaGreatDoorMAF
import Derived.Test.YthidcmjpbokeeaaGreatDoorMAE
import Derived.Lib.IndexLaws
import Derived.Lib.IndexBytes
import Derived.Lib.CountLaws
namespace Go.Proofs.YthidcmjpbokeeaaGreatDoor
open Go.Den
set_option linter.unusedVariables false
set_option linter.unusedSimpArgs false
set_option maxRecDepth 100000

def qcO (p:Place):List Int:=getD' [p.2.1.1,p.2.1.2.1] (p.2.2.1).toNat []
theorem qmU {r:Rules} {p:Place} (h:Valid r p):qcO p=if p.turn=0 then p.h0 else p.h1:=by
 unfold qcO;rcases h.turn with e | e
 ·rw[if_pos e,show p.2.2.1=0 from e];rfl
 ·rw[if_neg (by omega),show p.2.2.1=1 from e];rfl
theorem qoA {r:Rules} {p:Place} (h:Valid r p):(qcO p).length=r.pieces.length:=by
 rw[qmU h];split
 ·exact h.l0
 ·exact h.l1
theorem qvK {r:Rules} {p:Place} (h:Valid r p):∀c∈qcO p,0≤c∧c≤1000:=by
 rw[qmU h];split
 ·exact h.hand0
 ·exact h.hand1
def handI (p:Place) (k:Int):Int:=(qcO p).getD k.toNat 0
theorem at_hand {p:Place} {k:Int} (h0:0≤k) (h1:k<(((qcO p).length:Nat):Int)):at? (getD' [p.2.1.1,p.2.1.2.1] (p.2.2.1).toNat []) k=some (handI p k):=by
 show at? (qcO p) k=_;rw[at?_eq _ k h0 h1];unfold handI;rw[List.getD_eq_getElem?_getD,List.getElem?_eq_getElem (by omega)];rfl
def colF (p:Place) (W x0:Int):Nat→Bool
 | 0=>true
 | y+1=>colF p W x0 y&&(cellI p (x0+(y:Int)*W)!=0)
def qle (r:Rules) (p:Place) (s:Int):Bool:=colF p r.width (s.tmod r.width) (s.tdiv r.width).toNat
theorem div_eq {W s:Int} (hW:1≤W) (h0:0≤s):s=s.tmod W+((s.tdiv W).toNat:Int)*W:=by
 have h1:=Int.tmod_add_tdiv_mul s W
 have h2:0≤s.tdiv W:=by rw[Int.tdiv_eq_ediv_of_nonneg h0];exact Int.ediv_nonneg h0 (by omega)
 rw[Int.toNat_of_nonneg h2];exact h1.symm
theorem qpB {r:Rules} {p:Place} (h:Valid r p) {x0:Int} (hx:0≤x0∧x0<r.width):∀(y:Nat),(y:Int)≤r.height →
  (Option.bind (α:=((Unit)×(Unit)) ⊕ Bool) (iterW (qcu p r) ((x0+(y:Int)*r.width-r.width,()),())) (Sum.elim (fun x3=>some true) some))=some (colF p r.width x0 y)
 | 0,hy=>by
  rw[qi (r := .inl ((),())) (by
   unfold qcu
   have:decide (x0+((0:Nat):Int)*r.width-r.width≥0)=false:=by simp;omega
   simp only[this,cond_false])]
  rfl
 | y+1,hy=>by
  have hr:=h.r0;have:=hr.w8;have:=hr.h8;have:=hr.w1;have:=hr.h1;have ha:=hr.area;have hb:onB r x0 (y:Int)=true:=onB_iff.2 ⟨hx.1,hx.2,by omega,by omega⟩;have hs:=qwB hr hb;have hm:=qsF (show 0≤r.width by omega) (show(0:Int)≤(y:Int) by omega) (show(y:Int)<r.height by omega);have e:x0+((y+1:Nat):Int)*r.width-r.width=x0+(y:Int)*r.width:=by
   rw[show((y+1:Nat):Int)=(y:Int)+1 by omega,Int.add_mul];omega
  rw[e];have hat:=qfi (p:=p) (s:=x0+(y:Int)*r.width) (by omega) (by rw[h.cells];omega)
  have hge:decide (x0+(y:Int)*r.width≥0)=true:=by simp;omega
  cases hc:(cellI p (x0+(y:Int)*r.width)==0) with
  | true =>
   rw[qi (r := .inr false) (by
    unfold qcu
    simp only[hge,cond_true,hat,Option.bind_some,hc])]
   simp[colF,bne,hc]
  | false =>
   rw[qx (y:=((x0+(y:Int)*r.width-r.width,()),())) (by
    unfold qcu;simp only[hge,cond_true,hat,Option.bind_some,hc,cond_false]
    rw[qf (n:=x0+(y:Int)*r.width-r.2.1) (by show _≤x0+(y:Int)*r.width-r.width;omega) (by show x0+(y:Int)*r.width-r.width≤_;omega)]),qpB h hx y (by omega)]
   simp[colF,bne,hc]
theorem quM {r:Rules} {p:Place} (h:Valid r p) {s:Int} (h0:0≤s) (h1:s<r.width*r.height):qhy r p s=some (qle r p s):=by
 have hr:=h.r0;have:=hr.w8;have:=hr.h8;have:=hr.w1;have:=hr.h1;have ha:=hr.area;have hd:=qrS hr h0 h1;have e:=div_eq hr.w1 h0;unfold qhy qle;rw[qf (n:=s-r.2.1) (by show _≤s-r.width;omega) (by show s-r.width≤_;omega)];have:=qpB h hd.1 (s.tdiv r.width).toNat (by omega);rw[←e] at this;exact this
def putOk (r:Rules) (p:Place) (s:Int):Bool:=(cellI p s==0)&&(!r.falls||qle r p s)
def qik (r:Rules) (p:Place) (s:Nat):List Mv:=bif putOk r p (s:Int) then(List.range (qcO p).length).flatMap (fun k:Nat=>bif decide (handI p (k:Int)>0) then [((-1:Int),((s:Int),((k:Int),())))] else []) else []
theorem fm_len1 {A:Type} (n:Nat) (F:Nat→List A) (h:∀k,(F k).length≤1):((List.range n).flatMap F).length≤n:=by
 have:=qbM F 1 (List.range n) (fun k _=>h k);simpa using this
theorem qnC {r:Rules} {p:Place} (h:Valid r p) (s:Nat):(qik r p s).length≤6:=by
 unfold qik;cases putOk r p (s:Int)
 ·simp
 ·rw[cond_true];refine Nat.le_trans (fm_len1 _ _ fun k=>?_) (by rw[qoA h];exact h.r0.t6)
  cases decide (handI p (k:Int)>0)<;>simp
theorem qcT {r:Rules} {p:Place} (h:Valid r p):p.1.length≤64:=by
 have:=h.cells;have:=h.r0.area;have h1:((p.1.length:Nat):Int)=r.width*r.height:=h.cells;omega
theorem puts_spec {r:Rules} {p:Place} (h:Valid r p):qmt r p=some ((List.range p.1.length).flatMap (qik r p)):=by
 have hr:=h.r0;have:=hr.w8;have:=hr.h8;have:=hr.w1;have:=hr.h1;have ha:=hr.area;have hlen:((p.1.length:Nat):Int)=r.width*r.height:=h.cells;have h64:=qcT h
 have hh:(qcO p).length≤6:=by rw[qoA h];exact hr.t6
 unfold qmt;rw[qjN (A:=Mv) p.1.length 6 (qgE p r) (qik r p) (fun a=>((a,()),())) [] (fun i _=>qnC h i) (fun i hi a hal=>?_) (fun a=>?_)]
 ·simp
 ·unfold qgE
  have c1:decide ((i:Int)<((p.1.length:Nat):Int))=true:=by simp;omega
  have hat:=qfi (p:=p) (s:=(i:Int)) (by omega) (by show(i:Int)<((p.1.length:Nat):Int);omega);simp only[c1,cond_true,hat,Option.bind_some];have hf:=quM h (s:=(i:Int)) (by omega) (by omega);have hfil:(i:Int)<r.width→qle r p (i:Int)=true:=fun hlt=>by
   unfold qle;rw[Int.tdiv_eq_ediv_of_nonneg (by omega),Int.ediv_eq_zero_of_lt (by omega) hlt];rfl
  rw[hf]
  have hg:∀b c:Bool,gopt b false (some c)=some (b&&c):=fun b c=>by cases b<;>rfl
  rw[hg,Option.bind_some];have hcond:((cellI p (i:Int)!=(0:Int))||((r.2.2.2.2.2.1&&(decide ((i:Int)≥r.2.1)))&&(!(((r.2.2.2.2.2.1&&(decide ((i:Int)≥r.2.1)))&&(!(cellI p (i:Int)!=(0:Int))))&&qle r p (i:Int))))) = !putOk r p (i:Int):=by
   unfold putOk;rw[show r.2.2.2.2.2.1=r.falls from rfl];by_cases hlt:(i:Int)<r.width
   ·rw[hfil hlt,show decide ((i:Int)≥r.2.1)=false by simp;exact hlt];simp only[bne]
    cases (cellI p (i:Int)==0)<;>cases r.falls<;>rfl
   ·rw[show decide ((i:Int)≥r.2.1)=true by simp;show r.width≤(i:Int);omega];simp only[bne]
    cases (cellI p (i:Int)==0)<;>cases r.falls<;>cases qle r p (i:Int)<;>rfl
  rw[hcond,qf (n:=(i:Int)+1) (by omega) (by omega)];unfold qik
  cases hp:putOk r p (i:Int) with
  | false=>simp
  | true =>
   have hin:inb p.2.2.1 2=true:=inb_iff.2 (by have:=h.turn;show 0≤p.turn∧p.turn<((2:Nat):Int);omega);simp only[Bool.not_true,cond_false,cond_true,hin,qc]
   rw[qjN (A:=Mv) (qcO p).length 1 (qga p ((a,(i:Int),()),())) (fun k=>bif decide (handI p (k:Int)>0) then [((-1:Int),((i:Int),((k:Int),())))] else []) (fun a=>((a,()),())) a (fun k _=>by cases decide (handI p (k:Int)>0)<;>simp) (fun k hk a2 ha2=>?_) (fun a2=>?_)]
   ·rfl
   ·unfold qga;have c2:decide ((k:Int)<(((getD' [p.2.1.1,p.2.1.2.1] (p.2.2.1).toNat []).length:Nat):Int))=true:=by
     have:k<(getD' [p.2.1.1,p.2.1.2.1] (p.2.2.1).toNat []).length:=hk;simp;exact this
    have hat2:=at_hand (p:=p) (k:=(k:Int)) (by omega) (by omega);simp only[c2,cond_true,hat2,Option.bind_some];rw[qf (n:=(k:Int)+1) (by omega) (by omega)];cases decide (handI p (k:Int)>0)
    ·simp
    ·have hroom:room (a2.length+[((-1:Int),((i:Int),((k:Int),())))].length) 24=true:=qO (by
      simp only[List.length_singleton,List.length_nil] at *;have:i*6≤64*6:=Nat.mul_le_mul_right _ (by omega)
      omega)
     simp only[cond_true,hroom,qc,Option.bind_some]
   ·unfold qga;have c2:decide ((((qcO p).length:Nat):Int)<(((getD' [p.2.1.1,p.2.1.2.1] (p.2.2.1).toNat []).length:Nat):Int))=false:=by
     show decide ((((qcO p).length:Nat):Int)<(((qcO p).length:Nat):Int))=false;simp
    simp only[c2,cond_false]
 ·unfold qgE;simp

def lastB (r:Rules) (pl t:Int):Bool:=bif pl==0 then t.tdiv r.width==r.height-1 else t.tdiv r.width==0
theorem qqb {r:Rules} (hr:VR0 r) (pl:Int) {t:Int} (h0:0≤t) (h1:t<r.width*r.height):qfC r pl t=some (lastB r pl t):=by
 have:=hr.w8;have:=hr.h8;have:=hr.w1;have:=hr.h1;have hd:=qrS hr h0 h1;have hq:(r.2.1 !=0)=true:=bne_t (by show ¬r.width=0;omega);have w1:w64 (t.tdiv r.2.1)=t.tdiv r.width:=qf (by show _≤t.tdiv r.width;omega) (by show t.tdiv r.width≤_;omega);have w2:w64 (r.2.2.1-1)=r.height-1:=qf (by show _≤r.height-1;omega) (by show r.height-1≤_;omega);unfold qfC lastB;rw[hq,qc,qc,w1,w2];exact qba _ _ _
def qas (r:Rules) (k:Int):Piece:=r.pieces.getD k.toNat (0,0,0,[],())
theorem qoy {r:Rules} {k:Int} (h0:0≤k) (h1:k<((r.pieces.length:Nat):Int)):at? r.2.2.2.1 k=some (qas r k)∧qas r k∈r.pieces:=by
 have h1':k<((r.2.2.2.1.length:Nat):Int):=h1;rw[at?_eq r.2.2.2.1 k h0 h1];unfold qas;rw[List.getD_eq_getElem?_getD,List.getElem?_eq_getElem (by show k.toNat<r.2.2.2.1.length;omega)];exact⟨rfl,List.getElem_mem _⟩
def qJ (c:Int):Int:=(c-1).tdiv 2
theorem qdd {r:Rules} {p:Place} (h:Valid r p) {s:Int} (hm:cellI p s>0):w64 ((w64 (cellI p s-1)).tdiv 2)=qJ (cellI p s)∧0≤qJ (cellI p s)∧qJ (cellI p s)<((r.pieces.length:Nat):Int):=by
 have hc:=qv9 h s;have ht:=h.r0.t6;rw[qf (n:=cellI p s-1) (by omega) (by omega)];unfold qJ;rw[Int.tdiv_eq_ediv_of_nonneg (by omega)];refine⟨qf (by omega) (by omega),by omega,by omega⟩
def becomes (r:Rules) (p:Place) (k t:Int):Int:=bif decide ((qas r k).2.2.1>0)&&lastB r p.turn t then(qas r k).2.2.1-1 else k
def goAt (r:Rules) (p:Place) (s:Nat):List Mv:=bif mineB p (cellI p (s:Int)) then(qas r (qJ (cellI p (s:Int)))).2.2.2.1.flatMap (fun w=>(wayS r p (s:Int) w).map fun t=>((s:Int),(t,(becomes r p (qJ (cellI p (s:Int))) t,())))) else []
theorem qlT {A C:Type} (l:List C) (F:C→List A) (d:C):(List.range l.length).flatMap (fun i=>F (l.getD i d))=l.flatMap F:=by
 induction l with
 | nil=>rfl
 | cons x l ih =>
  rw[List.length_cons,List.range_succ_eq_map,List.flatMap_cons,List.flatMap_cons,List.flatMap_map]
  have e:(fun a=>F ((x::l).getD a.succ d))=fun i=>F (l.getD i d):=by funext i;simp
  rw[e,ih];rfl
theorem map_range {A C:Type} (l:List C) (F:C→A) (d:C):(List.range l.length).flatMap (fun i=>[F (l.getD i d)])=l.map F:=by
 rw[qlT l (fun x=>[F x]) d]
 induction l with
 | nil=>rfl
 | cons x l ih=>rw[List.flatMap_cons,List.map_cons,ih];rfl
theorem qu3 {r:Rules} {p:Place} {s:Int} {w:RWay} (hw:WayOk w):(wayS r p s w).length≤7:=by
 obtain⟨_,_,_,h4,_⟩:=hw;exact Nat.le_trans (qvQ _ _ _ _ _ _) (by omega)
theorem qwo {r:Rules} {p:Place} (h:Valid r p) (s:Nat):(goAt r p s).length≤112:=by
 unfold goAt
 cases hm:mineB p (cellI p (s:Int)) with
 | false=>simp
 | true =>
  have hc:cellI p (s:Int)>0:=by unfold mineB at hm;simp at hm;exact hm.1
  have hk:=qdd h hc;have hmem:=(qoy (r:=r) hk.2.1 hk.2.2).2;rw[cond_true];refine Nat.le_trans (qbM _ 7 _ fun w hw=>?_) ?_
  ·rw[List.length_map];exact qu3 (h.wayOk hmem hw)
  ·have:=h.r0.ways _ hmem;omega
def qdL (r:Rules) (p:Place):List Mv:=(List.range p.1.length).flatMap (qik r p)++(List.range p.1.length).flatMap (goAt r p)
theorem list_raw {r:Rules} {p:Place} (h:Valid r p):iterW (qej p r) (((List.range p.1.length).flatMap (qik r p),(0:Int),()),())=some ((qdL r p,()),()):=by
 have hr:=h.r0;have:=hr.w8;have:=hr.h8;have:=hr.w1;have:=hr.h1;have ha:=hr.area;have hlen:((p.1.length:Nat):Int)=r.width*r.height:=h.cells;have h64:=qcT h;have hpl:((List.range p.1.length).flatMap (qik r p)).length≤64*6:=by
  refine Nat.le_trans (qbM _ 6 _ fun i _=>qnC h i) ?_;rw[List.length_range];exact Nat.mul_le_mul_right _ h64
 unfold qdL;generalize (List.range p.1.length).flatMap (qik r p)=pl at hpl;refine qjN (A:=Mv) p.1.length 112 (qej p r) (goAt r p) (fun a=>((a,()),())) pl (fun i _=>qwo h i) (fun i hi a hal=>?_) (fun a=>?_)
 ·have hal2:a.length≤64*6+64*112:=by
   have:i*112≤64*112:=Nat.mul_le_mul_right _ (by omega);omega
  unfold qej
  have c1:decide ((i:Int)<((p.1.length:Nat):Int))=true:=by simp;omega
  have hat:=qfi (p:=p) (s:=(i:Int)) (by omega) (by show(i:Int)<((p.1.length:Nat):Int);omega);have hc:=qnu h (i:Int)
  have hi2:(i:Int)<r.width*r.height:=by omega
  simp only[c1,cond_true,hat,Option.bind_some,show ∀b,imp b true=true from fun b=>by cases b<;>rfl,qc]
  have hcond:((cellI p (i:Int)==(0:Int))||(((w64 (cellI p (i:Int)-(1:Int))).tmod (2:Int))!=p.2.2.1)) = !mineB p (cellI p (i:Int)):=by
   rw[qf (n:=cellI p (i:Int)-1) (by omega) (by omega)];unfold mineB;rw[show p.turn=p.2.2.1 from rfl];by_cases hz:cellI p (i:Int)=0
   ·simp[hz]
   ·rw[beq_f hz,show decide (cellI p (i:Int)>0)=true by simp;omega];simp[bne]
  rw[hcond,qf (n:=(i:Int)+1) (by omega) (by omega)];unfold goAt
  cases hm:mineB p (cellI p (i:Int)) with
  | false=>simp
  | true =>
   have hcp:cellI p (i:Int)>0:=by unfold mineB at hm;simp at hm;exact hm.1
   have hk:=qdd h hcp;obtain⟨hpa,hmem⟩:=qoy (r:=r) hk.2.1 hk.2.2;simp only[Bool.not_true,cond_false,hk.1,hpa,Option.bind_some,cond_true];generalize hK:qJ (cellI p (i:Int))=K at *;have hways:=h.r0.ways _ hmem;have hWl:(qas r K).2.2.2.1.length≤16:=hways;rw[qjN (A:=Mv) (qas r K).2.2.2.1.length 7 (qgf (qas r K) r p ((a,(i:Int),()),()) (cellI p (i:Int))) (fun j=>(wayS r p (i:Int) ((qas r K).2.2.2.1.getD j (0,0,0,0,()))).map fun t=>((i:Int),(t,(becomes r p K t,())))) (fun a=>((a,()),())) a (fun j hj=>?_) (fun j hj a2 ha2=>?_) (fun a2=>?_)]
   ·rw[qlT (qas r K).2.2.2.1 (fun w=>(wayS r p (i:Int) w).map fun t=>((i:Int),(t,(becomes r p K t,())))) (0,0,0,0,())];rfl
   ·rw[List.length_map,List.getD_eq_getElem?_getD,List.getElem?_eq_getElem hj];exact qu3 (h.wayOk hmem (List.getElem_mem hj))
   ·have ha22:a2.length≤64*6+64*112+112:=by
     have:j*7≤16*7:=Nat.mul_le_mul_right _ (by omega);omega
    unfold qgf
    have c2:decide ((j:Int)<(((qas r K).2.2.2.1.length:Nat):Int))=true:=by simp;omega
    have hatw:at? (qas r K).2.2.2.1 (j:Int)=some ((qas r K).2.2.2.1.getD j (0,0,0,0,())):=by
     rw[at?_eq _ _ (by omega) (by omega),List.getD_eq_getElem?_getD,List.getElem?_eq_getElem hj];rfl
    have hwm:(qas r K).2.2.2.1.getD j (0,0,0,0,())∈(qas r K).2.2.2.1:=by
     rw[List.getD_eq_getElem?_getD,List.getElem?_eq_getElem hj];exact List.getElem_mem hj
    have hwo:=h.wayOk hmem hwm;simp only[c2,cond_true,hatw,Option.bind_some];generalize (qas r K).2.2.2.1.getD j (0,0,0,0,())=w at *;rw[way_spec h hwo (by omega) hi2,Option.bind_some];have hwl:=qu3 (r:=r) (p:=p) (s:=(i:Int)) hwo;have hwr:∀t∈wayS r p (i:Int) w,0≤t∧t<r.width*r.height:=fun t ht=>qo8 hr ht;generalize wayS r p (i:Int) w=T at *;rw[qjN (A:=Mv) T.length 1 (qgl T r (cellI p (i:Int)) p ((a,(i:Int),()),())) (fun t=>[((i:Int),(T.getD t 0,(becomes r p K (T.getD t 0),())))]) (fun a=>((a,()),())) a2 (fun _ _=>by simp) (fun t ht a3 ha3=>?_) (fun a3=>?_)]
    ·rw[map_range T (fun t=>((i:Int),(t,(becomes r p K t,())))) 0];simp only[Option.bind_some];rw[qf (n:=(j:Int)+1) (by omega) (by omega)]
    ·unfold qgl
     have c3:decide ((t:Int)<((T.length:Nat):Int))=true:=by simp;omega
     have c4:inb (t:Int) T.length=true:=inb_iff.2 ⟨by omega,by omega⟩;have hg:getD' T t (0:Int)=T.getD t 0:=rfl;have htr:=hwr (T.getD t 0) (by rw[List.getD_eq_getElem?_getD,List.getElem?_eq_getElem ht];exact List.getElem_mem ht);simp only[c3,cond_true,c4,qc,hk.1,hpa,Option.bind_some,Int.toNat_natCast,hg];generalize T.getD t 0=tt at *;rw[qqb hr p.2.2.1 htr.1 htr.2];have hpr:=h.r0.prom _ hmem;have ht6:=h.r0.t6
     have hgo:∀b c:Bool,gopt b false (some c)=some (b&&c):=fun b c=>by cases b<;>rfl
     rw[hgo,Option.bind_some,qf (n:=(qas r K).2.2.1-1) (by omega) (by omega),qf (n:=(t:Int)+1) (by omega) (by omega)];unfold becomes;rw[show p.turn=p.2.2.1 from rfl];have hroom:room (a3.length+1) 24=true:=qO (by omega)
     cases decide ((qas r K).2.2.1>0)<;>cases lastB r p.2.2.1 tt<;>simp[hroom,qc]
    ·unfold qgl;simp
   ·unfold qgf;simp
 ·unfold qej;simp
theorem raw_len {r:Rules} {p:Place} (h:Valid r p):(qdL r p).length≤10000:=by
 have h64:=qcT h;unfold qdL;rw[List.length_append];have h1:((List.range p.1.length).flatMap (qik r p)).length≤64*6:=by
  refine Nat.le_trans (qbM _ 6 _ fun i _=>qnC h i) ?_;rw[List.length_range];exact Nat.mul_le_mul_right _ h64
 have h2:((List.range p.1.length).flatMap (goAt r p)).length≤64*112:=by
  refine Nat.le_trans (qbM _ 112 _ fun i _=>qwo h i) ?_;rw[List.length_range];exact Nat.mul_le_mul_right _ h64
 omega
theorem list_dd {r:Rules} {p:Place} (h:Valid r p):qaj r p=some (dd (qbW (qdL r p))):=by
 unfold qaj;rw[puts_spec h,Option.bind_some,list_raw h,Option.bind_some];have hl:=raw_len h;have hb:Nat.blt (qdL r p).length 4611686018427387904=true:=by
  rw[Nat.blt_eq];omega
 simp only[hb,qc];have hs:=sort_len (qdL r p);generalize qbW (qdL r p)=xs at hs;by_cases h2:xs.length<2
 ·have c:decide (((xs.length:Nat):Int)<2)=true:=by simp;omega
  rw[c,cond_true];have:dd xs=xs:=by
   match xs,h2 with
   | [],_=>rfl
   | [x],_=>rfl
  rw[this];rfl
 ·have c:decide (((xs.length:Nat):Int)<2)=false:=by simp;omega
  rw[c,cond_false,compact4 xs (by omega) (by omega)];rfl

def mvOk (r:Rules) (p:Place) (m:Mv):Bool:=decide ((-1≤m.1∧m.1<((p.1.length:Nat):Int))∧(0≤m.2.1∧m.2.1<((p.1.length:Nat):Int))∧(0≤m.2.2.1∧m.2.2.1<((r.pieces.length:Nat):Int)))
def goOk (r:Rules) (p:Place) (m:Mv):Bool:=mineB p (cellI p m.1)&&((becomes r p (qJ (cellI p m.1)) m.2.1==m.2.2.1)&&(qas r (qJ (cellI p m.1))).2.2.2.1.any (fun w=>decide (m.2.1∈wayS r p m.1 w)))
def ql (r:Rules) (p:Place) (m:Mv):Bool:=mvOk r p m&&(bif m.1 == -1 then decide (handI p m.2.2.1>0)&&putOk r p m.2.1 else goOk r p m)
def at3 (r:Rules) (p:Place) (i j k:Nat):List Mv:=bif ql r p ((i:Int)-1,((j:Int),((k:Int),()))) then [((i:Int)-1,((j:Int),((k:Int),())))] else []
def at2 (r:Rules) (p:Place) (i j:Nat):List Mv:=(List.range r.2.2.2.1.length).flatMap (at3 r p i j)
def at1 (r:Rules) (p:Place) (i:Nat):List Mv:=(List.range p.1.length).flatMap (at2 r p i)
def qaA (r:Rules) (p:Place):List Mv:=(List.range (p.1.length+1)).flatMap (at1 r p)
theorem at3_len (r:Rules) (p:Place) (i j k:Nat):(at3 r p i j k).length≤1:=by unfold at3;cases ql r p ((i:Int)-1,((j:Int),((k:Int),())))<;>simp
theorem at2_len {r:Rules} {p:Place} (h:Valid r p) (i j:Nat):(at2 r p i j).length≤6:=Nat.le_trans (fm_len1 _ _ (at3_len r p i j)) h.r0.t6
theorem at1_len {r:Rules} {p:Place} (h:Valid r p) (i:Nat):(at1 r p i).length≤384:=by
 refine Nat.le_trans (qbM _ 6 _ fun j _=>at2_len h i j) ?_;have:=qcT h;rw[List.length_range];omega
theorem qsb (n:Nat) (F:Nat→List Mv) (h1:∀i,i<n→(F i).Pairwise (fun x y=>mvLt x y=true)) (h2:∀i j,i<j→∀x∈F i,∀y∈F j,mvLt x y=true):((List.range n).flatMap F).Pairwise (fun x y=>mvLt x y=true):=by
 rw[List.pairwise_flatMap];exact⟨fun i hi=>h1 i (List.mem_range.1 hi),List.pairwise_lt_range.imp fun hij=>h2 _ _ hij⟩
theorem qvr {r:Rules} {p:Place} {i j k:Nat} {x:Mv} (h:x∈at3 r p i j k):x=((i:Int)-1,((j:Int),((k:Int),())))∧ql r p x=true:=by
 unfold at3 at h
 cases hb:ql r p ((i:Int)-1,((j:Int),((k:Int),()))) with
 | false=>simp[hb] at h
 | true =>
  rw[hb,cond_true,List.mem_singleton] at h;rw[h];exact⟨rfl,hb⟩
theorem quK {r:Rules} {p:Place} {i j:Nat} {x:Mv} (h:x∈at2 r p i j):x.1=(i:Int)-1∧x.2.1=(j:Int)∧ql r p x=true:=by
 obtain⟨k,_,hk⟩:=List.mem_flatMap.1 h;obtain⟨e,h2⟩:=qvr hk;refine⟨by rw[e],by rw[e],h2⟩
theorem qvf {r:Rules} {p:Place} {i:Nat} {x:Mv} (h:x∈at1 r p i):x.1=(i:Int)-1∧ql r p x=true:=by
 obtain⟨j,_,hj⟩:=List.mem_flatMap.1 h;obtain⟨h1,_,h3⟩:=quK hj;exact⟨h1,h3⟩
theorem qbn {r:Rules} {p:Place} (x:Mv):x∈qaA r p↔ql r p x=true:=by
 constructor
 ·intro h;obtain⟨i,_,hi⟩:=List.mem_flatMap.1 h;exact(qvf hi).2
 ·intro h
  have hok:mvOk r p x=true:=by unfold ql at h;simp only[Bool.and_eq_true] at h;exact h.1
  unfold mvOk at hok;rw[decide_eq_true_eq] at hok;obtain⟨⟨a1,a2⟩,⟨b1,b2⟩,c1,c2⟩:=hok;have c2':x.2.2.1<((r.2.2.2.1.length:Nat):Int):=c2;have e:(((((x.1+1).toNat:Nat):Int)-1,(((x.2.1.toNat:Nat):Int),(((x.2.2.1.toNat:Nat):Int),()))):Mv)=x:=mv_eq (by show(((x.1+1).toNat:Nat):Int)-1=x.1;omega) (by show((x.2.1.toNat:Nat):Int)=x.2.1;omega) (by show((x.2.2.1.toNat:Nat):Int)=x.2.2.1;omega);refine List.mem_flatMap.2 ⟨(x.1+1).toNat,List.mem_range.2 (by omega),List.mem_flatMap.2 ⟨x.2.1.toNat,List.mem_range.2 (by omega),List.mem_flatMap.2 ⟨x.2.2.1.toNat,List.mem_range.2 (by omega),?_⟩⟩⟩;unfold at3;rw[e,h,cond_true,List.mem_singleton]
theorem qwV (r:Rules) (p:Place):(qaA r p).Pairwise (fun x y=>mvLt x y=true):=by
 refine qsb _ _ (fun i _=>qsb _ _ (fun j _=>qsb _ _ (fun k _=>?_) fun k k' hk x hx y hy=>?_) fun j j' hj x hx y hy=>?_) fun i i' hi x hx y hy=>?_
 ·unfold at3
  cases ql r p ((i:Int)-1,((j:Int),((k:Int),())))<;>simp
 ·obtain⟨ex,_⟩:=qvr hx;obtain⟨ey,_⟩:=qvr hy
  have e1:x.1=(i:Int)-1:=by rw[ex]
  have e2:x.2.1=(j:Int):=by rw[ex]
  have e3:x.2.2.1=(k:Int):=by rw[ex]
  have f1:y.1=(i:Int)-1:=by rw[ey]
  have f2:y.2.1=(j:Int):=by rw[ey]
  have f3:y.2.2.1=(k':Int):=by rw[ey]
  rw[qpz];omega
 ·obtain⟨e1,e2,_⟩:=quK hx;obtain⟨f1,f2,_⟩:=quK hy;rw[qpz];omega
 ·obtain⟨e1,_⟩:=qvf hx;obtain⟨f1,_⟩:=qvf hy;rw[qpz];omega
theorem raw_mem {r:Rules} {p:Place} (h:Valid r p) (x:Mv):x∈qdL r p↔ql r p x=true:=by
 have hr:=h.r0;have hlen:((p.1.length:Nat):Int)=r.width*r.height:=h.cells;have hh:=qoA h;unfold qdL;rw[List.mem_append];constructor
 ·rintro (hx | hx)
  ·obtain⟨s,hs,hx⟩:=List.mem_flatMap.1 hx;rw[List.mem_range] at hs;unfold qik at hx
   cases hp:putOk r p (s:Int) with
   | false=>simp[hp] at hx
   | true =>
    rw[hp,cond_true] at hx;obtain⟨k,hk,hx⟩:=List.mem_flatMap.1 hx;rw[List.mem_range] at hk
    cases hd:decide (handI p (k:Int)>0) with
    | false=>simp[hd] at hx
    | true =>
     rw[hd,cond_true,List.mem_singleton] at hx;have hok:mvOk r p x=true:=by
      unfold mvOk;rw[decide_eq_true_eq,hx];simp only;omega
     unfold ql;rw[hok,Bool.true_and,hx];simp only[beq_t rfl,cond_true,hd,hp,Bool.and_self]
  ·obtain⟨s,hs,hx⟩:=List.mem_flatMap.1 hx;rw[List.mem_range] at hs;unfold goAt at hx
   cases hm:mineB p (cellI p (s:Int)) with
   | false=>simp[hm] at hx
   | true =>
    have hcp:cellI p (s:Int)>0:=by unfold mineB at hm;simp at hm;exact hm.1
    have hk:=qdd h hcp;obtain⟨hpa,hmem⟩:=qoy (r:=r) hk.2.1 hk.2.2;rw[hm,cond_true] at hx;obtain⟨w,hw,hx⟩:=List.mem_flatMap.1 hx;obtain⟨t,ht,hx⟩:=List.mem_map.1 hx;have htr:0≤t∧t<r.width*r.height:=qo8 hr ht;have hpr:=hr.prom _ hmem;have hbr:0≤becomes r p (qJ (cellI p (s:Int))) t∧becomes r p (qJ (cellI p (s:Int))) t<((r.pieces.length:Nat):Int):=by
     unfold becomes
     cases hb:(decide ((qas r (qJ (cellI p (s:Int)))).2.2.1>0)&&lastB r p.turn t) with
     | false=>exact hk.2
     | true =>
      simp only[Bool.and_eq_true,decide_eq_true_eq] at hb;rw[cond_true];omega
    have hok:mvOk r p x=true:=by
     unfold mvOk;rw[decide_eq_true_eq,←hx];simp only;omega
    unfold ql goOk;rw[hok,Bool.true_and,←hx];simp only;rw[beq_f (by omega),cond_false,hm,Bool.true_and,beq_t rfl,Bool.true_and,List.any_eq_true];exact⟨w,hw,by simpa using ht⟩
 ·intro hx;unfold ql at hx;rw[Bool.and_eq_true] at hx;obtain⟨hok,hx⟩:=hx;unfold mvOk at hok;rw[decide_eq_true_eq] at hok;obtain⟨⟨a1,a2⟩,⟨b1,b2⟩,c1,c2⟩:=hok;by_cases hm:x.1 = -1
  ·rw[beq_t hm,cond_true,Bool.and_eq_true] at hx;left
   have e1:((x.2.1.toNat:Nat):Int)=x.2.1:=by omega
   have e2:((x.2.2.1.toNat:Nat):Int)=x.2.2.1:=by omega
   refine List.mem_flatMap.2 ⟨x.2.1.toNat,List.mem_range.2 (by omega),?_⟩;unfold qik;rw[e1,hx.2,cond_true];refine List.mem_flatMap.2 ⟨x.2.2.1.toNat,List.mem_range.2 (by omega),?_⟩;rw[e2,hx.1,cond_true,List.mem_singleton];exact mv_eq hm rfl rfl
  ·rw[beq_f hm,cond_false] at hx;unfold goOk at hx;simp only[Bool.and_eq_true,beq_iff_eq,List.any_eq_true,decide_eq_true_eq] at hx;obtain⟨h1,h2,w,hw,ht⟩:=hx;right
   have e1:((x.1.toNat:Nat):Int)=x.1:=by omega
   refine List.mem_flatMap.2 ⟨x.1.toNat,List.mem_range.2 (by omega),?_⟩;unfold goAt;rw[e1,h1,cond_true];refine List.mem_flatMap.2 ⟨w,hw,List.mem_map.2 ⟨x.2.1,ht,?_⟩⟩;exact mv_eq rfl rfl h2
theorem qhf {r:Rules} {p:Place} (h:Valid r p):qaj r p=some (qaA r p):=by
 rw[list_dd h];congr 1;refine qto (dd_lt (sort_pw _)) (qwV r p) fun z=>?_;rw[dd_mem,sort_mem,raw_mem h,qbn]

def own (r:Rules) (p:Place) (pl x y:Int):Bool:=onB r x y&&(decide (cellI p (sq r x y)>0)&&((cellI p (sq r x y)-1).tmod 2==pl))
def runB (r:Rules) (p:Place) (pl:Int) (n:Nat) (x y dx dy:Int):Bool:=(List.range n).all fun i=>own r p pl (x+(i:Int)*dx) (y+(i:Int)*dy)
theorem runB_cons (r:Rules) (p:Place) (pl:Int) (n:Nat) (x y dx dy:Int):runB r p pl (n+1) x y dx dy=(own r p pl x y&&runB r p pl n (x+dx) (y+dy) dx dy):=by
 unfold runB;rw[List.range_succ_eq_map,List.all_cons,List.all_map];have e:((fun i:Nat=>own r p pl (x+(i:Int)*dx) (y+(i:Int)*dy))∘Nat.succ)=fun i:Nat=>own r p pl (x+dx+(i:Int)*dx) (y+dy+(i:Int)*dy):=by
  funext i;simp only[Function.comp]
  have e1:x+((i.succ:Nat):Int)*dx=x+dx+(i:Int)*dx:=by rw[show((i.succ:Nat):Int)=(i:Int)+1 by omega,Int.add_mul];omega
  have e2:y+((i.succ:Nat):Int)*dy=y+dy+(i:Int)*dy:=by rw[show((i.succ:Nat):Int)=(i:Int)+1 by omega,Int.add_mul];omega
  rw[e1,e2]
 rw[e];simp
theorem own_on {r:Rules} {p:Place} {pl x y:Int} (h:own r p pl x y=true):onB r x y=true:=by unfold own at h;rw[Bool.and_eq_true] at h;exact h.1
abbrev dX (d:Nat):Int:=getD' [(1:Int),(0:Int),(1:Int),(1:Int)] d 0
abbrev dY (d:Nat):Int:=getD' [(0:Int),(1:Int),(1:Int),(-1:Int)] d 0
def lineB (r:Rules) (p:Place) (pl c:Int):Bool:=(List.range p.1.length).any fun s=>(List.range 4).any fun d=>runB r p pl c.toNat ((s:Int).tmod r.width) ((s:Int).tdiv r.width) (dX d) (dY d)
theorem dX_rng (d:Nat) : -1≤dX d∧dX d≤1:=by
 match d with
 | 0=>decide
 | 1=>decide
 | 2=>decide
 | 3=>decide
 | n+4=>simp[dX,getD']
theorem dY_rng (d:Nat) : -1≤dY d∧dY d≤1:=by
 match d with
 | 0=>decide
 | 1=>decide
 | 2=>decide
 | 3=>decide
 | n+4=>simp[dY,getD']
theorem line3 {r:Rules} {p:Place} (h:Valid r p) {pl c:Int} (d:Nat) (hc:c≤64):∀(m:Nat) (x y n:Int),0≤n→n+m=c→(-1≤x∧x≤8)→(-1≤y∧y≤8) →
  ∃n',iterW (qfE c r p pl (((d:Int),()),())) ((x,y,n,()),())=some ((n',()),())∧(n'==c)=runB r p pl m x y (dX d) (dY d)
 | 0,x,y,n,h0,hn,hx,hy=>by
  refine⟨n,qi ?_,?_⟩
  ·unfold qfE
   have:decide (n<c)=false:=by simp;omega
   simp only[this,cond_false,Option.bind_some]
  ·rw[beq_t (by omega)];rfl
 | m+1,x,y,n,h0,hn,hx,hy=>by
  have hr:=h.r0;have:=hr.w8;have:=hr.h8;have:=hr.w1;have:=hr.h1;have ha:=hr.area
  have hlt:decide (n<c)=true:=by simp;omega
  have hoff:((((decide (x<(0:Int)))||(decide (x≥r.2.1)))||(decide (y<(0:Int))))||(decide (y≥r.2.2.1))) = !onB r x y:=by
   rw[Bool.eq_iff_iff];simp only[Bool.or_eq_true,decide_eq_true_eq,Bool.not_eq_true',onB,decide_eq_false_iff_not];show((x<0∨x≥r.width)∨y<0)∨y≥r.height↔_;omega
  have hown:(bif (decide (n<c)) then(bif ((((decide (x<(0:Int)))||(decide (x≥r.2.1)))||(decide (y<(0:Int))))||(decide (y≥r.2.2.1))) then some ((false,()),())
    else Option.bind (at? p.1 (w64 ((w64 (y*r.2.1))+x))) fun d4 =>
    req (imp (decide (d4>(0:Int))) true) (some ((((decide (d4>(0:Int)))&&(((w64 (d4-(1:Int))).tmod (2:Int))==pl)),()),())))
    else some ((false,()),()))=some ((own r p pl x y,()),()):=by
   rw[hlt,cond_true,hoff];unfold own
   cases hb:onB r x y with
   | false=>rfl
   | true =>
    have hs:=qwB hr hb;obtain⟨b1,b2,b3,b4⟩:=onB_iff.1 hb;have hmul:=qsF (show 0≤r.width by omega) b3 b4;have w1:w64 (y*r.2.1)=y*r.2.1:=qf (by show _≤y*r.width;omega) (by show y*r.width≤_;omega);have w2:w64 (y*r.2.1+x)=sq r x y:=qf (by show _≤sq r x y;omega) (by show sq r x y≤_;omega);have hcs:=qnu h (sq r x y);rw[w1,w2,qfi (p:=p) hs.1 (by rw[h.cells];exact hs.2)]
    simp only[Bool.not_true,cond_false,Option.bind_some,show ∀b,imp b true=true from fun b=>by cases b<;>rfl,qc,Bool.true_and]
    rw[qf (n:=cellI p (sq r x y)-1) (by omega) (by omega)]
  rw[runB_cons]
  cases ho:own r p pl x y with
  | false =>
   refine⟨n,qi ?_,?_⟩
   ·unfold qfE;rw[hown,ho];rfl
   ·rw[beq_f (by omega)];rfl
  | true =>
   obtain⟨b1,b2,b3,b4⟩:=onB_iff.1 (own_on ho);have r1:=dX_rng d;have r2:=dY_rng d;obtain⟨n',e1,e2⟩:=line3 h (pl:=pl) d hc m (x+dX d) (y+dY d) (n+1) (by omega) (by omega) (by omega) (by omega);refine⟨n',?_,by rw[e2];simp⟩
   rw[qx (y:=((x+dX d,y+dY d,n+1,()),())) (by
    unfold qfE;rw[hown,ho];simp only[Option.bind_some,cond_true,Int.toNat_natCast]
    rw[qf (n:=x+dX d) (by omega) (by omega),qf (n:=y+dY d) (by omega) (by omega),qf (n:=n+1) (by omega) (by omega)])]
   exact e1
theorem line_spec {r:Rules} {p:Place} (h:Valid r p) (pl:Int) {c:Int} (hc1:1≤c) (hc:c≤64):qoB r p pl c=some (lineB r p pl c):=by
 have hr:=h.r0;have:=hr.w8;have:=hr.h8;have:=hr.w1;have:=hr.h1;have ha:=hr.area;have hlen:((p.1.length:Nat):Int)=r.width*r.height:=h.cells;have hq:(r.2.1 !=0)=true:=bne_t (by show ¬r.width=0;omega);unfold qoB
 have hL:=qag (List.range p.1.length) (fun s=>(List.range 4).any fun d=>runB r p pl c.toNat ((s:Int).tmod r.width) ((s:Int).tdiv r.width) (dX d) (dY d)) (qhX p r c pl) (.inr true) (.inl ((),())) (fun s hs=>by
  have hs':s<p.1.length:=by simpa using hs
  have hdv:=qrS hr (show(0:Int)≤(s:Int) by omega) (show(s:Int)<r.width*r.height by omega)
  have hL2:=qag (List.range 4) (fun d=>runB r p pl c.toNat ((s:Int).tmod r.width) ((s:Int).tdiv r.width) (dX d) (dY d)) (qhF r c p pl (((s:Int),()),())) (.inr (.inr (.inr (.inr true)))) (.inl ((),())) (fun d hd=>by
   have hd':d<4:=by simpa using hd
   have w1:w64 ((s:Int).tdiv r.2.1)=(s:Int).tdiv r.width:=qf (by show _≤(s:Int).tdiv r.width;omega) (by show(s:Int).tdiv r.width≤_;omega);obtain⟨n',e1,e2⟩:=line3 h (pl:=pl) (c:=c) d hc c.toNat ((s:Int).tmod r.width) ((s:Int).tdiv r.width) 0 (by omega) (by omega) (by omega) (by omega);unfold qhF;simp only[show decide ((d:Int)<4)=true by simp;omega,cond_true,show inb (d:Int) 4=true from inb_iff.2 ⟨by omega,by omega⟩,qc,hq,w1];rw[show((s:Int).tmod r.2.1)=(s:Int).tmod r.width from rfl,e1,Option.bind_some];simp only[List.getElem_range];rw[←e2,qf (n:=(d:Int)+1) (by omega) (by omega)]
   cases (n'==c)<;>rfl) (by
   unfold qhF
   rfl)
  unfold qhX;simp only[show decide ((s:Int)<((p.1.length:Nat):Int))=true by simp;omega,cond_true,List.getElem_range];rw[hL2,qf (n:=(s:Int)+1) (by omega) (by omega)]
  cases (List.range 4).any (fun d=>runB r p pl c.toNat ((s:Int).tmod r.width) ((s:Int).tdiv r.width) (dX d) (dY d))<;>rfl) (by
  unfold qhX
  simp)
 rw[hL];unfold lineB
 cases (List.range p.1.length).any (fun s=>(List.range 4).any fun d=>runB r p pl c.toNat ((s:Int).tmod r.width) ((s:Int).tdiv r.width) (dX d) (dY d))<;>rfl

def reachB (r:Rules) (p:Place) (x:End) (mover:Int):Bool:=(List.range p.1.length).any fun s=>(cellI p (s:Int)==2*x.2.1+mover+1)&&lastB r mover (s:Int)
def fewOf (p:Place) (x:End) (mover:Int):Int:=((p.1.countP (fun c=>c==2*x.2.1+1-mover+1):Nat):Int)
def metB (r:Rules) (p:Place) (x:End) (mover:Int):Bool:=bif x.1==0 then lineB r p mover x.2.2.1 else bif x.1==1 then reachB r p x mover else decide (fewOf p x mover<x.2.2.1)
structure EndOk (r:Rules) (x:End):Prop where
 kind:0≤x.1∧x.1≤2
 cnt:x.1=0→1≤x.2.2.1∧x.2.2.1≤64
 pc:0≤x.2.1∧x.2.1≤6
theorem Valid.endOk {r:Rules} {p:Place} (h:Valid r p) {x:End} (hx:x∈r.ends):EndOk r x:=by
 obtain⟨h1,h2,h3⟩:=h.r0.ends x hx;have ht:=h.r0.t6;refine⟨h1,fun e=>?_,?_⟩
 ·rw[if_neg (by omega)] at h2;exact h2
 ·split at h3<;>omega
theorem cell_get (p:Place) (i:Nat) (hi:i<p.1.length):cellI p (i:Int)=p.1[i]:=by
 unfold cellI;rw[List.getD_eq_getElem?_getD,Int.toNat_natCast];simp[hi]
theorem qwY {r:Rules} {p:Place} (h:Valid r p) {x:End} (hx:EndOk r x) {mover:Int} (hm:mover=0∨mover=1):qme r p x mover=some (metB r p x mover):=by
 have hr:=h.r0;have ha:=hr.area;have h64:=qcT h;have hlen:((p.1.length:Nat):Int)=r.width*r.height:=h.cells;have hp:=hx.pc;unfold qme metB;by_cases k0:x.1=0
 ·rw[beq_t k0,cond_true,cond_true,line_spec h mover (hx.cnt k0).1 (hx.cnt k0).2];rfl
 ·rw[beq_f k0,cond_false,cond_false];by_cases k1:x.1=1
  ·rw[beq_t k1,cond_true,cond_true]
   have hL:=qag (List.range p.1.length) (fun s=>(cellI p (s:Int)==2*x.2.1+mover+1)&&lastB r mover (s:Int)) (qgn p x mover r) (.inr (.inr true)) (.inl ((),())) (fun s hs=>by
    have hs':s<p.1.length:=by simpa using hs
    unfold qgn;simp only[show decide ((s:Int)<((p.1.length:Nat):Int))=true by simp;omega,cond_true,List.getElem_range];rw[qfi (p:=p) (s:=(s:Int)) (by omega) (by show(s:Int)<((p.1.length:Nat):Int);omega),Option.bind_some,qqb hr mover (by omega) (by omega)];rw[qf (n:=2*x.2.1) (by omega) (by omega),qf (n:=2*x.2.1+mover) (by omega) (by omega),qf (n:=2*x.2.1+mover+1) (by omega) (by omega),qf (n:=(s:Int)+1) (by omega) (by omega)]
    cases (cellI p (s:Int)==2*x.2.1+mover+1)<;>cases lastB r mover (s:Int)<;>rfl) (by
    unfold qgn
    simp)
   rw[hL];unfold reachB
   cases (List.range p.1.length).any (fun s=>(cellI p (s:Int)==2*x.2.1+mover+1)&&lastB r mover (s:Int))<;>rfl
  ·rw[beq_f k1,cond_false,cond_false,Option.bind_some,Sum.elim_inl]
   have hL:=qrL p.1 (fun c=>c==2*x.2.1+1-mover+1) (qgm p x mover) (fun c=>((c,()),())) (fun i hi c c0 ci=>by
    unfold qgm;simp only[show decide ((i:Int)<((p.1.length:Nat):Int))=true by simp;omega,cond_true];rw[qfi (p:=p) (s:=(i:Int)) (by omega) (by show(i:Int)<((p.1.length:Nat):Int);omega),Option.bind_some,cell_get p i hi];rw[qf (n:=2*x.2.1) (by omega) (by omega),qf (n:=2*x.2.1+1) (by omega) (by omega),qf (n:=2*x.2.1+1-mover) (by omega) (by omega),qf (n:=2*x.2.1+1-mover+1) (by omega) (by omega),qf (n:=(i:Int)+1) (by omega) (by omega),qf (n:=c+1) (by omega) (by omega)];cases (p.1[i]==2*x.2.1+1-mover+1)<;>rfl) (fun c=>by
    unfold qgm
    simp)
   rw[hL];rfl
def endE (r:Rules) (p:Place) (i:Nat):Option (((Unit)×(Unit)) ⊕ Int):=match r.2.2.2.2.2.2.2.1[i]? with
 | some x=>bif metB r p x (1-p.turn) then some (.inr (bif x.2.2.2.1 then 1+p.turn else 1+(1-p.turn))) else none
 | none=>none
def qmM (r:Rules) (p:Place):Int:=bif r.blocked==0 then 1+(1-p.turn) else bif r.blocked==1 then 1+p.turn else 3
def qan (r:Rules) (p:Place):Int:=match scan (endE r p) (.inl ((),())) 0 r.2.2.2.2.2.2.2.1.length with
 | .inl _=>bif (r.quiet !=0)&&decide (p.quiet≥r.quiet) then 3 else bif decide ((((qaA r p).length:Nat):Int)>0) then 0 else qmM r p
 | .inr v=>v
theorem turn_w {r:Rules} {p:Place} (h:Valid r p):w64 ((1:Int)-p.2.2.1)=1-p.turn∧w64 ((1:Int)+p.2.2.1)=1+p.turn∧w64 (1+(1-p.turn))=1+(1-p.turn)∧w64 (1+p.turn)=1+p.turn:=by
 have ht:=h.turn;refine⟨qf (by show _≤1-p.turn;omega) (by show 1-p.turn≤_;omega),qf (by show _≤1+p.turn;omega) (by show 1+p.turn≤_;omega),qf (by omega) (by omega),qf (by omega) (by omega)⟩
theorem qlo {r:Rules} {p:Place} (h:Valid r p):qdD r p=some (qan r p):=by
 have ht:=h.turn;obtain⟨t1,t2,t3,t4⟩:=turn_w h;have h6:r.2.2.2.2.2.2.2.1.length≤6:=h.r0.ends6;unfold qdD qan
 have hL:=qrM r.2.2.2.2.2.2.2.1.length (qeU r p) (endE r p) (.inl ((),())) (fun i hi=>by
  unfold qeU endE;rw[List.getElem?_eq_getElem hi];simp only[show decide ((i:Int)<((r.2.2.2.2.2.2.2.1.length:Nat):Int))=true by simp;omega,cond_true];rw[at?_eq r.2.2.2.2.2.2.2.1 (i:Int) (by omega) (by omega),Option.bind_some,t1];simp only[Int.toNat_natCast];rw[qwY h (h.endOk (List.getElem_mem hi)) (by omega),Option.bind_some];cases metB r p r.2.2.2.2.2.2.2.1[i] (1-p.turn)
  ·simp only[cond_false];rw[qf (n:=(i:Int)+1) (by omega) (by omega)];rfl
  ·simp only[cond_true,show decide ((i:Int)≥0)=true by simp,Option.bind_some];unfold qcS;rw[t3,show p.2.2.1=p.turn from rfl,t4]
   cases (r.2.2.2.2.2.2.2.1[i]).2.2.2.1<;>rfl) (by
  unfold qeU
  simp)
 rw[hL,Option.bind_some]
 cases scan (endE r p) (.inl ((),())) 0 r.2.2.2.2.2.2.2.1.length with
 | inr v=>rfl
 | inl u =>
  simp only[Sum.elim_inl];rw[show((r.2.2.2.2.2.2.2.2.2.1 !=(0:Int))&&(decide (p.2.2.2.1≥r.2.2.2.2.2.2.2.2.2.1)))=((r.quiet !=0)&&decide (p.quiet≥r.quiet)) from rfl];cases ((r.quiet !=0)&&decide (p.quiet≥r.quiet))
  ·rw[cond_false,cond_false,qhf h,Option.bind_some];cases decide ((((qaA r p).length:Nat):Int)>0)
   ·rw[cond_false,cond_false,t1];unfold qmM qcS;rw[t3,show p.2.2.1=p.turn from rfl,t4,show r.2.2.2.2.2.2.2.2.1=r.blocked from rfl]
    cases (r.blocked==0)<;>cases (r.blocked==1)<;>rfl
   ·rfl
  ·rfl

def qpA (p:Place) (m:Mv):Int:=2*m.2.2.1+p.turn+1
def cellsA (p:Place) (m:Mv):List Int:=(bif decide (m.1≥0) then p.1.set m.1.toNat 0 else p.1).set m.2.1.toNat (qpA p m)
def handD (m:Mv) (h:List Int):List Int:=bif decide (m.1≥0) then h else h.set m.2.2.1.toNat (h.getD m.2.2.1.toNat 0-1)
def handK (r:Rules) (c:Int) (h:List Int):List Int:=bif decide (c>0)&&r.keeps then h.set (qJ c).toNat (if 1000<h.getD (qJ c).toNat 0+1 then 1000 else h.getD (qJ c).toNat 0+1) else h
def handA (r:Rules) (p:Place) (m:Mv) (h:List Int):List Int:=handK r (cellI p m.2.1) (handD m h)
def qqP (p:Place) (m:Mv):Int:=bif decide (cellI p m.2.1>0)||decide (m.1<0) then 0 else if 200<p.quiet+1 then 200 else p.quiet+1
def qT (r:Rules) (p:Place) (m:Mv):Place:=(cellsA p m,((bif p.turn==0 then handA r p m p.2.1.1 else p.2.1.1),(bif p.turn==0 then p.2.1.2.1 else handA r p m p.2.1.2.1),()),1-p.turn,qqP p m,())
theorem copy_spec {r:Rules} {p:Place} (h:Valid r p):qfe p=some p:=by
 have h64:=qcT h;have ht:=h.r0.t6;have a0:p.2.1.1.length=r.pieces.length:=h.l0;have a1:p.2.1.2.1.length=r.pieces.length:=h.l1;unfold qfe;rw[qgd p.1 (by omega),qgd p.2.1.1 (by omega),qgd p.2.1.2.1 (by omega)];simp only[Option.bind_some,agree_self]
theorem qU {r:Rules} {p:Place} {m:Mv} (ha:ql r p m=true):(-1≤m.1∧m.1<((p.1.length:Nat):Int))∧(0≤m.2.1∧m.2.1<((p.1.length:Nat):Int))∧(0≤m.2.2.1∧m.2.2.1<((r.pieces.length:Nat):Int)):=by
 unfold ql mvOk at ha;rw[Bool.and_eq_true,decide_eq_true_eq] at ha;exact ha.1
theorem qlA {r:Rules} {p:Place} {m:Mv} (ha:ql r p m=true) (hm:m.1 = -1):handI p m.2.2.1>0∧cellI p m.2.1=0:=by
 unfold ql putOk at ha;rw[beq_t hm,cond_true] at ha;simp only[Bool.and_eq_true,decide_eq_true_eq,beq_iff_eq] at ha;exact⟨ha.2.1,ha.2.2.1⟩
theorem qpd (m:Mv) (h:List Int):(handD m h).length=h.length:=by unfold handD;cases decide (m.1≥0)<;>simp
theorem quk (r:Rules) (c:Int) (h:List Int):(handK r c h).length=h.length:=by unfold handK;cases (decide (c>0)&&r.keeps)<;>simp
theorem qoL {l:List Int} {b:Int} (hb:0≤b) (h:∀c∈l,0≤c∧c≤b) (i:Nat):0≤l.getD i 0∧l.getD i 0≤b:=by
 rw[List.getD_eq_getElem?_getD]
 cases e:l[i]? with
 | none=>simp;exact hb
 | some c=>exact h c (List.mem_of_getElem? e)
theorem qtN {r:Rules} {p:Place} {m:Mv} (h:Valid r p) (ha:ql r p m=true):∀c∈handD m (qcO p),0≤c∧c≤1000:=by
 have hr:=qvK h;unfold handD
 cases hd:decide (m.1≥0) with
 | true=>exact hr
 | false =>
  intro c hc;rw[cond_false] at hc
  have hm:m.1 = -1:=by have:=(qU ha).1.1;simp at hd;omega
  have hp:=(qlA ha hm).1;have hg:=qoL (by omega) hr m.2.2.1.toNat;rcases List.mem_or_eq_of_mem_set hc with h1 | h1
  ·exact hr c h1
  ·unfold handI at hp;omega
theorem handK_rng {r:Rules} {c:Int} {h:List Int} (hh:∀x∈h,0≤x∧x≤1000):∀x∈handK r c h,0≤x∧x≤1000:=by
 unfold handK
 cases (decide (c>0)&&r.keeps) with
 | false=>exact hh
 | true =>
  intro x hx;have hg:=qoL (by omega) hh (qJ c).toNat;rcases List.mem_or_eq_of_mem_set hx with h1 | h1
  ·exact hh x h1
  ·rw[h1];split<;>omega
theorem qtp {r:Rules} {p:Place} {m:Mv} (hv:Valid r p) (ha:ql r p m=true) (l:List Int) (hl:l=qcO p) :
  (decide (m.1≥0)=false→inb m.2.2.1 l.length=true∧w64 (getD' l m.2.2.1.toNat 0-1)=l.getD m.2.2.1.toNat 0-1) ∧
  (decide (cellI p m.2.1>0)=true→inb (qJ (cellI p m.2.1)) (handD m l).length=true∧w64 (getD' (handD m l) (qJ (cellI p m.2.1)).toNat 0+1)=(handD m l).getD (qJ (cellI p m.2.1)).toNat 0+1):=by
 subst hl;have hr:=qvK hv;have hl:=qoA hv;obtain⟨r1,r2,r3⟩:=qU ha;refine⟨fun _=>⟨inb_iff.2 ⟨r3.1,by rw[hl];exact r3.2⟩,?_⟩,fun hc=>⟨?_,?_⟩⟩
 ·have:=qoL (by omega) hr m.2.2.1.toNat;exact qf (by show _≤(qcO p).getD m.2.2.1.toNat 0-1;omega) (by show(qcO p).getD m.2.2.1.toNat 0-1≤_;omega)
 ·have hk:=qdd hv (of_decide_eq_true hc);exact inb_iff.2 ⟨hk.2.1,by rw[qpd,hl];exact hk.2.2⟩
 ·have:=qoL (by omega) (qtN hv ha) (qJ (cellI p m.2.1)).toNat;exact qf (by show _≤(handD m (qcO p)).getD (qJ (cellI p m.2.1)).toNat 0+1;omega) (by show(handD m (qcO p)).getD (qJ (cellI p m.2.1)).toNat 0+1≤_;omega)
theorem ql0 {r:Rules} {p:Place} {m:Mv} (h:Valid r p) (ha:ql r p m=true):qr r p m=some (qT r p m):=by
 obtain⟨r1,r2,r3⟩:=qU ha;have ht6:=h.r0.t6;have hq:=h.quiet;have htn:=h.turn;have h64:=qcT h;have hto:inb m.2.1 p.1.length=true:=inb_iff.2 r2;have wv:w64 (w64 (w64 (2*m.2.2.1)+p.2.2.1)+1)=qpA p m:=by
  unfold qpA;rw[show p.2.2.1=p.turn from rfl,qf (n:=2*m.2.2.1) (by omega) (by omega),qf (n:=2*m.2.2.1+p.turn) (by omega) (by omega),qf (by omega) (by omega)]
 have wq:w64 (p.2.2.2.1+1)=p.quiet+1:=qf (by show _≤p.quiet+1;omega) (by show p.quiet+1≤_;omega);have wt:w64 (1-p.2.2.1)=1-p.turn:=(turn_w h).1;have hcell:getD' p.1 m.2.1.toNat 0=cellI p m.2.1:=rfl;have hin:inb p.2.2.1 2=true:=inb_iff.2 (by show 0≤p.turn∧p.turn<((2:Nat):Int);omega);have wk:decide (cellI p m.2.1>0)=true→w64 ((w64 (cellI p m.2.1-1)).tdiv 2)=qJ (cellI p m.2.1):=fun hc=>(qdd h (of_decide_eq_true hc)).1;have hho:qcO p=if p.turn=0 then p.2.1.1 else p.2.1.2.1:=qmU h;have hneg:decide (m.1<0) = !decide (m.1≥0):=by
  rw[Bool.eq_iff_iff];simp only[decide_eq_true_eq,Bool.not_eq_true',decide_eq_false_iff_not];omega
 unfold qr qT;rw[copy_spec h,Option.bind_some];simp only[hcell,hto,qc,wv,wq,wt,hin,hneg];rcases htn with e | e
 ·have e':p.2.2.1=0:=e;rw[if_pos e] at hho;obtain⟨k1,k2⟩:=qtp h ha p.2.1.1 hho.symm;simp only[e',e,show((0:Int)==0)=true from rfl,cond_true];unfold handA cellsA qqP handK;simp only[hneg]
  cases hd:decide (m.1≥0) with
  | true =>
   have hf:inb m.1 p.1.length=true:=inb_iff.2 ⟨of_decide_eq_true hd,r1.2⟩
   have hD:handD m p.2.1.1=p.2.1.1:=by unfold handD;rw[hd];rfl
   rw[hD] at k2 ⊢;simp only[cond_true,hf,qc,Option.bind_some,List.length_set,hto]
   cases hc:decide (cellI p m.2.1>0) with
   | false=>rfl
   | true =>
    obtain⟨k3,k4⟩:=k2 hc
    cases hk:r.2.2.2.2.2.2.1 with
    | false=>rw[show r.keeps=false from hk];rfl
    | true =>
     rw[show r.keeps=true from hk];simp only[Bool.true_and,cond_true,wk hc,k3,qc,k4,Option.bind_some];rfl
  | false =>
   obtain⟨k5,k6⟩:=k1 hd
   have hD:handD m p.2.1.1=p.2.1.1.set m.2.2.1.toNat (p.2.1.1.getD m.2.2.1.toNat 0-1):=by unfold handD;rw[hd];rfl
   have hz:decide (cellI p m.2.1>0)=false:=by
    have:=(qlA ha (by simp at hd;omega)).2;rw[this];rfl
   rw[hD];simp only[cond_false,k5,k6,qc,Option.bind_some,hz,Bool.false_and,hto];rfl
 ·have e':p.2.2.1=1:=e;rw[if_neg (by omega)] at hho;obtain⟨k1,k2⟩:=qtp h ha p.2.1.2.1 hho.symm;simp only[e',e,show((1:Int)==0)=false from rfl,cond_false];unfold handA cellsA qqP handK;simp only[hneg]
  cases hd:decide (m.1≥0) with
  | true =>
   have hf:inb m.1 p.1.length=true:=inb_iff.2 ⟨of_decide_eq_true hd,r1.2⟩
   have hD:handD m p.2.1.2.1=p.2.1.2.1:=by unfold handD;rw[hd];rfl
   rw[hD] at k2 ⊢;simp only[cond_true,hf,qc,Option.bind_some,List.length_set,hto]
   cases hc:decide (cellI p m.2.1>0) with
   | false=>rfl
   | true =>
    obtain⟨k3,k4⟩:=k2 hc
    cases hk:r.2.2.2.2.2.2.1 with
    | false=>rw[show r.keeps=false from hk];rfl
    | true =>
     rw[show r.keeps=true from hk];simp only[Bool.true_and,cond_true,wk hc,k3,qc,k4,Option.bind_some];rfl
  | false =>
   obtain⟨k5,k6⟩:=k1 hd
   have hD:handD m p.2.1.2.1=p.2.1.2.1.set m.2.2.1.toNat (p.2.1.2.1.getD m.2.2.1.toNat 0-1):=by unfold handD;rw[hd];rfl
   have hz:decide (cellI p m.2.1>0)=false:=by
    have:=(qlA ha (by simp at hd;omega)).2;rw[this];rfl
   rw[hD];simp only[cond_false,k5,k6,qc,Option.bind_some,hz,Bool.false_and,hto];rfl
theorem quA {r:Rules} {p:Place} {m:Mv} (h:Valid r p) (ha:ql r p m=true):Valid r (qT r p m):=by
 obtain⟨r1,r2,r3⟩:=qU ha;have htn:=h.turn;have hq:=h.quiet;have hK:=handK_rng (r:=r) (c:=cellI p m.2.1) (qtN h ha);have hho:=qmU h;refine⟨h.r0,?_,?_,?_,?_,?_,?_,?_,?_⟩
 ·show((((bif decide (m.1≥0) then p.1.set m.1.toNat 0 else p.1).set m.2.1.toNat (qpA p m)).length:Nat):Int)=_
  have:((bif decide (m.1≥0) then p.1.set m.1.toNat 0 else p.1).set m.2.1.toNat (qpA p m)).length=p.1.length:=by cases decide (m.1≥0)<;>simp
  rw[this];exact h.cells
 ·show(bif p.turn==0 then handA r p m p.2.1.1 else p.2.1.1).length=_;cases (p.turn==0)
  ·exact h.l0
  ·rw[cond_true];unfold handA;rw[quk,qpd];exact h.l0
 ·show(bif p.turn==0 then p.2.1.2.1 else handA r p m p.2.1.2.1).length=_;cases (p.turn==0)
  ·rw[cond_false];unfold handA;rw[quk,qpd];exact h.l1
  ·exact h.l1
 ·intro c hc;have hc:c∈(bif decide (m.1≥0) then p.1.set m.1.toNat 0 else p.1).set m.2.1.toNat (qpA p m):=hc;rcases List.mem_or_eq_of_mem_set hc with h1 | h1
  ·cases hd:decide (m.1≥0) with
   | false=>rw[hd,cond_false] at h1;exact h.cell c h1
   | true =>
    rw[hd,cond_true] at h1;rcases List.mem_or_eq_of_mem_set h1 with h2 | h2
    ·exact h.cell c h2
    ·have:=h.r0.t1;omega
  ·rw[h1];unfold qpA;omega
 ·intro c hc;have hc:c∈(bif p.turn==0 then handA r p m p.2.1.1 else p.2.1.1):=hc;rcases htn with e | e
  ·rw[beq_t e,cond_true] at hc;rw[if_pos e] at hho;have hc:c∈handK r (cellI p m.2.1) (handD m p.h0):=hc;rw[←hho] at hc;exact hK c hc
  ·rw[beq_f (by omega),cond_false] at hc;exact h.hand0 c hc
 ·intro c hc;have hc:c∈(bif p.turn==0 then p.2.1.2.1 else handA r p m p.2.1.2.1):=hc;rcases htn with e | e
  ·rw[beq_t e,cond_true] at hc;exact h.hand1 c hc
  ·rw[beq_f (by omega),cond_false] at hc;rw[if_neg (by omega)] at hho;have hc:c∈handK r (cellI p m.2.1) (handD m p.h1):=hc;rw[←hho] at hc;exact hK c hc
 ·show 1-p.turn=0∨1-p.turn=1;omega
 ·show 0≤qqP p m∧qqP p m≤200;unfold qqP;cases (decide (cellI p m.2.1>0)||decide (m.1<0))
  ·rw[cond_false];split<;>omega
  ·simp

def qly (r:Rules):List Int:=r.2.2.2.1.map fun x=>x.2.1
def qn (r:Rules):Place:=(r.2.2.2.2.1,(qly r,qly r,()),0,0,())
theorem qpq {r:Rules} (h:VR0 r):Valid r (qn r):=by
 have hh:∀c∈qly r,0≤c∧c≤1000:=fun c hc=>by
  obtain⟨x,hx,rfl⟩:=List.mem_map.1 hc;have:=h.hand x hx;omega
 have hl:(qly r).length=r.pieces.length:=by unfold qly;simp
 exact⟨h,h.start,hl,hl,h.startC,hh,hh,.inl rfl,by show(0:Int)≤0∧(0:Int)≤200;omega⟩
theorem map_take {A B:Type} (l:List A) (f:A→B) (i:Nat) (hi:i<l.length):(l.take (i+1)).map f=(l.take i).map f++[f l[i]]:=by
 rw[List.take_succ_eq_append_getElem hi,List.map_append];rfl
theorem qe5 (r:Rules) (hr:Rng qae r):qbx r=some (if qz r=0 then(qn r,0,()) else(([],([],[],()),0,0,()),qz r,())):=by
 unfold qbx;rw[qjR r hr,Option.bind_some];by_cases c:qz r=0
 ·have h:=qbg c;have hs:((r.2.2.2.2.1.length:Nat):Int)=r.width*r.height:=h.start;have ha:=h.area;have ht:r.2.2.2.1.length≤6:=h.t6;rw[bne_f c,cond_false,if_pos c,qgd _ (by omega),Option.bind_some]
  have hL:=qaq (f:=qc0 r) r.2.2.2.1.length (fun i=>(((i:Int),()),((r.2.2.2.2.1,((r.2.2.2.1.take i).map (fun x=>x.2.1),((r.2.2.2.1.take i).map (fun x=>x.2.1),((0:Int),((0:Int),()))))),()))) ((),((r.2.2.2.2.1,(qly r,(qly r,((0:Int),((0:Int),()))))),())) (fun i hi=>by
   unfold qc0;simp only[show decide ((i:Int)<((r.2.2.2.1.length:Nat):Int))=true by simp;omega,cond_true];rw[at?_eq _ _ (by omega) (by omega),Option.bind_some];simp only[Int.toNat_natCast];have hroom:∀z:Int,room (((r.2.2.2.1.take i).map (fun x=>x.2.1)).length+[z].length) 8=true:=fun z=>qO (by simp;omega);simp only[hroom,qc,agree_self,Option.bind_some];rw[qf (n:=(i:Int)+1) (by omega) (by omega),map_take _ _ i hi]
   rfl) (by
   unfold qc0;simp only[show decide (((r.2.2.2.1.length:Nat):Int)<((r.2.2.2.1.length:Nat):Int))=false by simp,cond_false,List.take_length]
   rfl)
  have hL':iterW (qc0 r) (((0:Int),()),((r.2.2.2.2.1,(([]:List Int),(([]:List Int),((0:Int),((0:Int),()))))),()))=_:=hL;rw[hL',Option.bind_some];rfl
 ·rw[bne_t c,cond_true,if_neg c]
theorem qro (s:List Mv) (v:Mv) (hs:s.length≤1000000000):qp s v=some (decide (v∈s)):=by
 unfold qp qep
 have hL:=qrM s.length (qbf s v) (fun i=>if v=s.getD i d0 then some (.inr (i:Int)) else none) (.inl ((),())) (fun i hi=>by
  unfold qbf;simp only[show decide ((i:Int)<((s.length:Nat):Int))=true by simp;omega,cond_true];rw[at?_eq s _ (by omega) (by omega),Option.bind_some,qf (n:=(i:Int)+1) (by omega) (by omega)];simp only[Int.toNat_natCast,List.getD_eq_getElem?_getD,List.getElem?_eq_getElem hi,Option.getD_some,mv_beq];by_cases e:v=s[i]
  ·simp[e]
  ·simp[e]) (by unfold qbf;simp)
 rw[hL];have key:∀k i,i+k=s.length→(Option.bind (Option.bind (some (scan (fun i=>if v=s.getD i d0 then some (Sum.inr (i:Int)) else none) (Sum.inl ((),())) i k)) (Sum.elim (fun _:Unit×Unit=>some (-1:Int)) some)) fun r2=>some (decide (r2≥(0:Int))))=some (decide (v∈s.drop i)):=by
  intro k
  induction k with
  | zero =>
   intro i hi;rw[show i=s.length by omega,List.drop_length];simp[scan]
  | succ k ih =>
   intro i hi
   have hil:i<s.length:=by omega
   have hmem:(v∈s.drop i)↔v=s[i]∨v∈s.drop (i+1):=by rw[List.drop_eq_getElem_cons hil,List.mem_cons]
   unfold scan
   have hg:s.getD i d0=s[i]:=by simp[List.getD_eq_getElem?_getD,hil]
   by_cases e:v=s[i]
   ·rw[decide_eq_true (hmem.2 (.inl e))];simp only[hg,if_pos e,Option.bind_some,Sum.elim_inr];simp
   ·simp only[hg,if_neg e];rw[ih (i+1) (by omega)];have h2:(v∈s.drop (i+1))↔v∈s.drop i:=⟨fun h=>hmem.2 (.inr h),fun h=>(hmem.1 h).resolve_left e⟩;simp only[h2]
 have:=key s.length 0 (by omega);simpa using this
theorem qhQ {r:Rules} {p:Place} (h:Valid r p):(qaA r p).length≤100000:=by
 have h64:=qcT h;refine Nat.le_trans (qbM _ 384 _ fun i _=>at1_len h i) ?_;rw[List.length_range];omega

theorem pl_eta (p:Place):(p.1,((p.2.1.1,(p.2.1.2.1,())),p.2.2))=p:=rfl
theorem gd_eq {A:Type} (xs:List A) (i:Nat) (hi:i<xs.length) (d:A):getD' xs i d=xs[i]:=by simp[getD',hi]
theorem ltd {A:Type} (xs:List A) (i:Nat) (hi:i<xs.length):decide ((i:Int)<((xs.length:Nat):Int))=true:=by simp;omega
theorem nltd {A:Type} (xs:List A):decide (((xs.length:Nat):Int)<((xs.length:Nat):Int))=false:=by simp
theorem inbN {A:Type} (xs:List A) (i:Nat) (hi:i<xs.length):inb (i:Int) xs.length=true:=inb_iff.2 ⟨by omega,by omega⟩
theorem quB (a b:List Int) (ha:a.length≤1000000000):qa9 a b=some (decide (a=b)):=by
 unfold qa9;by_cases hl:a.length=b.length
 ·have e:(((a.length:Nat):Int)!=((b.length:Nat):Int))=false:=bne_f (by omega);rw[e,cond_false]
  have hL:=qag (List.range a.length) (fun i=>a.getD i 0 !=b.getD i 0) (qbK a b) (.inr false) (.inl ((),())) (fun i hi=>by
   have hi':i<a.length:=by simpa using hi
   unfold qbK;simp only[show decide ((i:Int)<((a.length:Nat):Int))=true by simp;omega,cond_true,List.getElem_range];rw[at?_eq a _ (by omega) (by omega),at?_eq b _ (by omega) (by omega),Option.bind_some,Option.bind_some,qf (n:=(i:Int)+1) (by omega) (by omega)];simp only[Int.toNat_natCast,List.getD_eq_getElem?_getD,List.getElem?_eq_getElem hi',List.getElem?_eq_getElem (show i<b.length by omega),Option.getD_some]
   cases (a[i]!=b[i])<;>rfl) (by unfold qbK;simp)
  rw[hL]
  cases hany:(List.range a.length).any (fun i=>a.getD i 0 !=b.getD i 0) with
  | true =>
   rw[List.any_eq_true] at hany;obtain⟨i,_,h⟩:=hany
   have:¬a=b:=fun e=>by subst e;simp at h
   simp[this]
  | false =>
   rw[List.any_eq_false] at hany;have:a=b:=by
    apply List.ext_getElem hl;intro i h1 h2;have:=hany i (List.mem_range.2 h1);simpa[List.getD_eq_getElem?_getD,h1,h2] using this
   simp[this]
 ·have e:(((a.length:Nat):Int)!=((b.length:Nat):Int))=true:=bne_t (by omega);rw[e,cond_true];have:¬a=b:=fun h=>hl (by rw[h]);simp[this]
def same0 (p q:Place):Bool:=((decide (p.1=q.1)&&decide (p.2.1.1=q.2.1.1))&&decide (p.2.1.2.1=q.2.1.2.1))&&(p.2.2.1==q.2.2.1)
theorem qt3 {r:Rules} {p q:Place} (h:Valid r p):qec p q=some (same0 p q):=by
 have h64:=qcT h;have t6:=h.r0.t6;have l0:p.2.1.1.length=r.pieces.length:=h.l0;have l1:p.2.1.2.1.length=r.pieces.length:=h.l1;unfold qec same0;rw[quB _ _ (by omega),quB _ _ (by omega),quB _ _ (by omega)]
 have hg:∀b c:Bool,gopt b false (some c)=some (b&&c):=fun b c=>by cases b<;>rfl
 simp only[hg,Option.bind_some,Option.some.injEq]
 cases decide (p.1=q.1)<;>cases decide (p.2.1.1=q.2.1.1)<;>cases decide (p.2.1.2.1=q.2.1.2.1)<;>cases (p.2.2.1==q.2.2.1)<;>rfl
theorem qxc {r:Rules} {p:Place} (h:Valid r p):qfe p=some p:=by
 have h64:=qcT h;have t6:=h.r0.t6;have l0:p.2.1.1.length=r.pieces.length:=h.l0;have l1:p.2.1.2.1.length=r.pieces.length:=h.l1;unfold qfe;simp only[agree_self];rw[qgd _ (by omega),Option.bind_some,qgd _ (by omega),Option.bind_some,qgd _ (by omega)];rfl
theorem qw1 (s:List (Int×Int×Int×Int×Unit)) (h:s.length≤1000000):qbh s=some s:=by
 unfold qbh;have:room (([]:List (Int×Int×Int×Int×Unit)).length+s.length) 32=true:=qO (by simp;omega);rw[this]
 cases s with
 | nil=>simp[qc,agree_self]
 | cons a l=>simp[qc]
theorem qxy (s:List (Int×Int×Int×Bool×Unit)) (h:s.length≤1000000):qaK s=some s:=by
 unfold qaK;have:room (([]:List (Int×Int×Int×Bool×Unit)).length+s.length) 32=true:=qO (by simp;omega);rw[this]
 cases s with
 | nil=>simp[qc,agree_self]
 | cons a l=>simp[qc]
theorem qjJ {r:Rules} (h:VR0 r):qaT r=some r:=by
 have t6:r.2.2.2.1.length≤6:=h.t6;have e6:r.2.2.2.2.2.2.2.1.length≤6:=h.ends6;have hs:((r.2.2.2.2.1.length:Nat):Int)=r.width*r.height:=h.start;have ha:=h.area;unfold qaT;simp only[agree_self]
 have hL:=qaq (f:=qd3 r) r.2.2.2.1.length (fun i=>(((i:Int),()),((r.1,(r.2.1,(r.2.2.1,(r.2.2.2.1.take i,r.2.2.2.2)))),()))) ((),((r.1,(r.2.1,(r.2.2.1,(r.2.2.2.1,r.2.2.2.2)))),())) (fun i hi=>by
  unfold qd3;simp only[show decide ((i:Int)<((r.2.2.2.1.length:Nat):Int))=true by simp;omega,cond_true];rw[at?_eq _ _ (by omega) (by omega),Option.bind_some];simp only[Int.toNat_natCast];rw[qw1 _ (by have:r.2.2.2.1[i].2.2.2.1.length≤16:=h.ways _ (List.getElem_mem hi);omega),Option.bind_some];have hroom:∀z:Piece,room ((r.2.2.2.1.take i).length+[z].length) 48=true:=fun z=>qO (by simp;omega);rw[hroom,qc,qf (n:=(i:Int)+1) (by omega) (by omega),List.take_succ_eq_append_getElem hi]
  rfl) (by
  unfold qd3
  simp only[show decide (((r.2.2.2.1.length:Nat):Int)<((r.2.2.2.1.length:Nat):Int))=false by simp,cond_false,List.take_length])
 have hL':iterW (qd3 r) (((0:Int),()),((r.1,(r.2.1,(r.2.2.1,(([]:List Piece),r.2.2.2.2)))),()))=_:=hL;rw[hL',Option.bind_some,qgd _ (by omega),Option.bind_some,qxy _ (by omega)];rfl
theorem qsB {r:Rules} {p:Place} (c:qz r=0) (h:Valid r p):qcG r p=0:=by
 unfold qcG;rw[if_neg (by simp[c])];have h1:qlf r p=false:=by
  unfold qlf;rw[bne_f h.cells,bne_f (by have:=h.l0;omega),bne_f (by have:=h.l1;omega)];rfl
 have h2:qhT r p=false:=by
  unfold qhT;have a1:p.cells.any (outC r)=false:=by
   rw[List.any_eq_false];intro x hx;have:=h.cell x hx;simp[outC];omega
  have a2:(p.h0++p.h1).any outH=false:=by
   rw[List.any_eq_false];intro x hx;have:0≤x∧x≤1000:=(List.mem_append.1 hx).elim (h.hand0 x) (h.hand1 x);simp[outH];omega
  have a3:outT p=false:=by
   have hq:=h.quiet;have ht:=h.turn;simp[outT];omega
  rw[a1,a2,a3];rfl
 rw[h1,h2];rfl
def dP:Place:=([],(([],([],())),((0:Int),((0:Int),()))))
def lastP (l:List Place):Place:=getD' l (l.length-1) dP
def qjA (l:List Place):Nat:=l.countP fun p=>same0 p (lastP l)
def qaa (r:Rules) (l:List Place):Int:=bif ((qan r (lastP l)==0)&&(r.repeats !=0))&&decide (((qjA l:Nat):Int)≥r.repeats) then 3 else qan r (lastP l)
structure OKG (r:Rules) (s:List Place×List Mv):Prop where
 ok:qz r=0
 all:∀p∈s.1,Valid r p
 len:s.1.length=s.2.length+1
 most:s.2.length≤400
theorem last_mem {l:List Place} (h:0<l.length):lastP l∈l:=by
 unfold lastP;rw[gd_eq l (l.length-1) (by omega)];exact List.getElem_mem _
theorem OKG.last {r:Rules} {s:List Place×List Mv} (h:OKG r s):Valid r (lastP s.1):=h.all _ (last_mem (by have:=h.len;omega))
def stepG (r:Rules) (s:List Place×List Mv) (m:Mv):Int:=if qaa r s.1=0 then if ql r (lastP s.1) m=true then if s.2.length=400 then 9 else 0 else 13 else 14
def nextG (r:Rules) (s:List Place×List Mv) (m:Mv):List Place×List Mv:=(s.1++[qT r (lastP s.1) m],s.2++[m])
theorem qpr {r:Rules} {s:List Place×List Mv} {m:Mv} (h:OKG r s) (c:stepG r s m=0):OKG r (nextG r s m):=by
 unfold stepG at c;by_cases c1:qaa r s.1=0
 ·rw[if_pos c1] at c;by_cases c2:ql r (lastP s.1) m=true
  ·rw[if_pos c2] at c;by_cases c3:s.2.length=400
   ·rw[if_pos c3] at c;cases c
   ·have hl:=h.len;have hm:=h.most;refine⟨h.ok,fun p hp=>?_,by unfold nextG;simp;omega,by unfold nextG;simp;omega⟩;rcases List.mem_append.1 hp with hp | hp
    ·exact h.all p hp
    ·rw[List.mem_singleton.1 hp];exact quA h.last c2
  ·rw[if_neg c2] at c;cases c
 ·rw[if_neg c1] at c;cases c
theorem qvG {A:Type} {L:List A} (h0:0<L.length) (h:L.length≤1000000000):w64 (((L.length:Nat):Int)-1)=((L.length-1:Nat):Int):=by
 rw[qf (by omega) (by omega)];omega
abbrev Game:=Rules×List Place×List Mv×Unit
theorem atP {L:List Place} (h0:0<L.length):at? L ((L.length-1:Nat):Int)=some (lastP L):=by
 rw[at?_eq _ _ (by omega) (by omega)];unfold lastP;rw[gd_eq L _ (by omega)];simp
theorem quJ {r:Rules} {s:List Place×List Mv} (h:OKG r s):qdS (r,(s.1,(s.2,())))=some ((qjA s.1:Nat):Int):=by
 obtain⟨l,ms⟩:=s;have hl:l.length=ms.length+1:=h.len;have hm:ms.length≤400:=h.most;have hw:=qvG (L:=l) (by omega) (by omega)
 have:=qrL l (fun p=>same0 p (lastP l)) (qch (r,(l,(ms,())))) (fun c=>((c,()),())) (fun i hi c hc0 hc1=>by
  unfold qch;simp only[agree_self];rw[ltd l i hi,cond_true,at?_eq l _ (by omega) (by omega),Option.bind_some,hw,atP (by omega),Option.bind_some];simp only[Int.toNat_natCast];rw[qt3 (h.all _ (List.getElem_mem hi)),Option.bind_some,Option.bind_some];show Option.bind (bif same0 l[i] (lastP l) then _ else _) _=_;rw[qf (n:=c+1) (by omega) (by omega),qf (n:=(i:Int)+1) (by omega) (by omega)];cases same0 l[i] (lastP l)<;>rfl) (fun c=>by
  unfold qch;simp only
  rw[nltd,cond_false])
 unfold qdS;rw[this];rfl
theorem qea {r:Rules} {s:List Place×List Mv} (h:OKG r s):qP (r,(s.1,(s.2,())))=some (qaa r s.1):=by
 have hl:=h.len;have hm:=h.most;have hw:=qvG (L:=s.1) (by omega) (by omega);have hrep:r.2.2.2.2.2.2.2.2.2.2.1=r.repeats:=rfl;unfold qP;simp only[agree_self,hw,atP (show 0<s.1.length by omega),qlo h.last,Option.bind_some,quJ h,hrep];unfold qaa
 cases hc:((qan r (lastP s.1)==0)&&(r.repeats !=0)) with
 | true =>
  simp only[gopt,cond_true,Option.bind_some,Bool.true_and]
  cases decide (((qjA s.1:Nat):Int)≥r.repeats)<;>rfl
 | false=>rfl
theorem qcx {r:Rules} {s:List Place×List Mv} (h:OKG r s):qm (r,(s.1,(s.2,())))=some (lastP s.1):=by
 have hl:=h.len;have hm:=h.most;have hw:=qvG (L:=s.1) (by omega) (by omega);unfold qm;simp only[hw,atP (show 0<s.1.length by omega),qxc h.last,Option.bind_some,pl_eta]
theorem qo1 {r:Rules} {s:List Place×List Mv} (h:OKG r s) (m:Mv):qaU (r,(s.1,(s.2,()))) m=some (if stepG r s m=0 then((r,((nextG r s m).1,((nextG r s m).2,()))),0) else((r,(s.1,(s.2,()))),stepG r s m)):=by
 obtain⟨l,ms⟩:=s;have hl:l.length=ms.length+1:=h.len;have hm:ms.length≤400:=h.most;have hv:=h.last;simp only at hv;have hw:=qvG (L:=l) (by omega) (by omega);have hi:=inbN l (l.length-1) (by omega);have hla:getD' l (l.length-1) (([],(([],([],())),((0:Int),((0:Int),())))):Place)=lastP l:=rfl;have hres:=qea h;simp only at hres;unfold qaU;simp only[agree_self,hw,hi,qc,Int.toNat_natCast,hla,hres,Option.bind_some];unfold stepG;by_cases c1:qaa r l=0
 ·rw[bne_f c1,cond_false];simp only[if_pos c1];rw[qhf hv,Option.bind_some,qro _ _ (by have:=qhQ hv;omega),Option.bind_some,Option.bind_some]
  have hmem:decide (m∈qaA r (lastP l))=ql r (lastP l) m:=by rw[Bool.eq_iff_iff,decide_eq_true_eq,qbn]
  rw[hmem];by_cases c2:ql r (lastP l) m=true
  ·simp only[if_pos c2];rw[c2,Bool.not_true,cond_false];by_cases c3:ms.length=400
   ·rw[beq_t (by omega),cond_true];simp only[if_pos c3];rfl
   ·rw[beq_f (by omega),cond_false,ql0 hv c2,Option.bind_some];simp only[if_neg c3,if_true];have hroom:∀z:Place,room (l.length+[z].length) 88=true:=fun z=>qO (by simp;omega);have hroom2:room (ms.length+[m].length) 24=true:=qO (by simp;omega);rw[hroom,qc,Option.bind_some];simp only;rw[hroom2,qc];rfl
  ·simp only[if_neg c2];rw[show ql r (lastP l) m=false by simpa using c2];rfl
 ·rw[bne_t c1,cond_true];simp only[if_neg c1];rfl
def runG (r:Rules):List Mv→List Place×List Mv→(List Place×List Mv) ⊕ Int
 | [],s => .inl s
 | m::k,s=>if stepG r s m=0 then runG r k (nextG r s m) else .inr (stepG r s m)
theorem qtb {r:Rules}:∀(k:List Mv) (s s':List Place×List Mv),OKG r s→runG r k s = .inl s'→OKG r s'∧s'.2=s.2++k
 | [],s,s',h,e=>by cases e;exact⟨h,by simp⟩
 | m::k,s,s',h,e=>by
  unfold runG at e;split at e
  ·rename_i c;obtain⟨a,b⟩:=qtb k _ _ (qpr h c) e;refine⟨a,?_⟩;rw[b];unfold nextG;simp
  ·cases e
def flG (g:Game):ByteArray×Int×Int×(List (Int×Int×Int×(List (Int×Int×Int×Int×Unit))×Unit))×(List Int)×Bool×Bool×(List (Int×Int×Int×Bool×Unit))×Int×Int×Int×(List Place)×(List Mv)×Unit :=
 (g.1.1,(g.1.2.1,(g.1.2.2.1,(g.1.2.2.2.1,(g.1.2.2.2.2.1,(g.1.2.2.2.2.2.1,(g.1.2.2.2.2.2.2.1,(g.1.2.2.2.2.2.2.2.1,(g.1.2.2.2.2.2.2.2.2.1,(g.1.2.2.2.2.2.2.2.2.2.1,(g.1.2.2.2.2.2.2.2.2.2.2.1,(g.2.1,(g.2.2.1,())))))))))))))
def gm (r:Rules) (s:List Place×List Mv):Game:=(r,(s.1,(s.2,())))
theorem qtM {r:Rules} {T R:Type} (l:List Mv) (hlen:l.length≤1000000000) (f:T→Option (T ⊕ R)) (st:Int→Game→T) (bad:Int→R) (fin:List Place×List Mv→R)
  (hf:∀i s,f (st i (gm r s))=bif (decide (i<((l.length:Nat):Int))) then(Option.bind (at? l i) fun m=>Option.bind (qaU (r,(s.1,(s.2,()))) m) fun x=>bif (x.2 !=0) then some (.inr (bad x.2)) else some (.inl (st (w64 (i+1)) x.1))) else some (.inr (fin s))) :
  ∀(k:Nat) (i:Nat) (s:List Place×List Mv),i+k=l.length→OKG r s→iterW f (st (i:Int) (gm r s))=some (match runG r (l.drop i) s with
   | .inl s'=>fin s'
   | .inr e=>bad e)
 | 0,i,s,hi,h=>by
  have:i=l.length:=by omega
  subst this;refine qi ?_;rw[hf,nltd,cond_false,List.drop_length];rfl
 | k+1,i,s,hi,h=>by
  have hil:i<l.length:=by omega
  have hL:=hf (i:Int) s;rw[ltd l i hil,cond_true,at?_eq l _ (by omega) (by omega),Option.bind_some,qo1 h,Option.bind_some] at hL;simp only[Int.toNat_natCast] at hL;rw[List.drop_eq_getElem_cons hil];unfold runG;by_cases c:stepG r s l[i]=0
  ·rw[if_pos c] at hL;simp only[bne_self_eq_false,cond_false] at hL;rw[qf (by omega) (by omega)] at hL;rw[qx hL,if_pos c];exact qtM l hlen f st bad fin hf k (i+1) _ (by omega) (qpr h c)
  ·rw[if_neg c] at hL;simp only[bne_t c,cond_true] at hL;rw[qi hL,if_neg c]
theorem qeb {r:Rules} (c:qz r=0):OKG r ([qn r],[]):=⟨c,fun p hp=>by rw[List.mem_singleton.1 hp];exact qpq (qbg c),rfl,by simp⟩
def qgD (r:Rules) (l:List Mv):(List Place×List Mv) ⊕ Int:=runG r l ([qn r],[])
abbrev FlP:=List Int×List Int×List Int×Int×Int×Unit
def flp (p:Place):FlP:=(p.1,(p.2.1.1,(p.2.1.2.1,p.2.2)))
def qi3 (r:Rules) (l:List Mv):Place×Int×Int×Unit:=if qz r=0 then(match qgD r l with
  | .inl s=>(lastP s.1,(qaa r s.1,(0,())))
  | .inr e=>(dP,(0,(e,())))) else(dP,(0,(qz r,())))
theorem qmP (r:Rules) (l:List Mv) (hr:Rng qae r) (hl:l.length≤1000000000):qah r l=some (qi3 r l):=by
 unfold qah qi3;rw[qe5 r hr,Option.bind_some];by_cases c:qz r=0
 ·simp only[if_pos c];rw[show((0:Int)!=0)=false from rfl,cond_false];simp only[agree_self];rw[qjJ (qbg c),Option.bind_some];have hP:=qtM (r:=r) l hl (qk7 l) (fun i g=>((i,()),(flp dP,(flG g,())))) (fun e => .inr (dP,(0,(e,())))) (fun s => .inl ((),(flp dP,(flG (gm r s),()))))
   (fun i s=>by rfl) l.length 0 ([qn r],[]) (by omega) (qeb c)
  rw[List.drop_zero] at hP;have hP':iterW (qk7 l) (((0:Int),()),((([]:List Int),(([]:List Int),(([]:List Int),((0:Int),((0:Int),()))))),(r.1,(r.2.1,(r.2.2.1,(r.2.2.2.1,(r.2.2.2.2.1,(r.2.2.2.2.2.1,(r.2.2.2.2.2.2.1,(r.2.2.2.2.2.2.2.1,(r.2.2.2.2.2.2.2.2.1,(r.2.2.2.2.2.2.2.2.2.1,(r.2.2.2.2.2.2.2.2.2.2.1,([((qn r).1,(((qn r).2.1.1,((qn r).2.1.2.1,())),(qn r).2.2))],(([]:List Mv),()))))))))))))),()))=_:=hP
  try simp only[Option.bind_some,bne_self_eq_false,cond_false]
  rw[hP',Option.bind_some];unfold qgD
  cases hg:runG r l ([qn r],[]) with
  | inr e=>rfl
  | inl s =>
   have hok:=(qtb l _ _ (qeb c) hg).1;simp only[Sum.elim_inl];change Option.bind (qm (r,(s.1,(s.2,())))) (fun r16=>Option.bind (qP (r,(s.1,(s.2,())))) fun r17=>some ((r16.1,((r16.2.1.1,(r16.2.1.2.1,())),r16.2.2)),(r17,((0:Int),()))))=_;rw[qcx hok,Option.bind_some,qea hok,Option.bind_some]
 ·simp only[if_neg c];rw[bne_t c,cond_true,cond_true];rfl

theorem all_spec (r:Rules) (p:Place) (hr:Rng qae r) (hn:p.1.length≤9223372036854775807):qoE r p=some (if qcG r p=0 then qaA r p else [],qcG r p,()):=by
 unfold qoE;rw[qqY r p hr hn,Option.bind_some];by_cases c:qcG r p=0
 ·rw[bne_f c,cond_false,if_pos c,qhf (qv0 c),c];rfl
 ·rw[bne_t c,cond_true,if_neg c]

theorem qo0 {c:Int} (h:0≤c) (h':c<128):Go.Utf8.encode c=ByteArray.mk #[UInt8.ofNat c.toNat]:=by
 unfold Go.Utf8.encode
 have:Go.Utf8.valid c=true:=by unfold Go.Utf8.valid;simp;omega
 simp only[this,if_true];rw[if_pos (by omega)]
theorem qsx {c:Prop} [Decidable c] {a b:ByteArray} {n:Nat} (ha:a.size≤n) (hb:b.size≤n):(if c then a else b).size≤n:=by split<;>assumption
theorem enc_size (c:Int):(Go.Utf8.encode c).size≤4:=by
 unfold Go.Utf8.encode;exact qsx (by show 1≤4;omega) (qsx (by show 2≤4;omega) (qsx (by show 3≤4;omega) (by show 4≤4;omega)))
theorem qts {a b:ByteArray} (h:a.toList=b.toList):a=b:=by
 rw[ByteArray.toList_eq,ByteArray.toList_eq] at h;cases a;cases b;simp only at h;rw[Array.toList_inj.1 h]
theorem qt9 (a b:ByteArray):(a.toList==b.toList)=decide (a=b):=by
 rw[Bool.eq_iff_iff];simp only[beq_iff_eq,decide_eq_true_eq];exact⟨qts,fun h=>by rw[h]⟩
theorem sroom {a b:ByteArray} (h:a.size≤1000000) (h':b.size≤1000000):qY a b=true:=by
 exact Nat.ble_eq_true_of_le (show a.size+b.size≤9223372036854775807 by omega)
theorem i32_id {n:Int} (h1:0≤n) (h2:n≤1000000):IntKind.wrap .i32 n=n:=by
 simp[IntKind.wrap,IntKind.signed,IntKind.bits];omega
theorem qv8 {x y:Nat} (hx:x<256) (hy:y<256):UInt8.ofNat x=UInt8.ofNat y↔x=y:=by
 constructor
 ·intro h;have:=congrArg UInt8.toNat h;simp at this;omega
 ·intro h;rw[h]
theorem qvn {a b:UInt8}:ByteArray.mk #[a]=ByteArray.mk #[b]↔a=b:=by
 constructor
 ·intro h;injection h with h;simpa using h
 ·intro h;rw[h]
def colT (i:Int):ByteArray:=ByteArray.mk #[UInt8.ofNat (97+i).toNat]
def rowT (i:Int):ByteArray:=ByteArray.mk #[UInt8.ofNat (49+i).toNat]
def sqT (r:Rules) (n:Int):ByteArray:=ByteArray.mk #[UInt8.ofNat (97+n.tmod r.width).toNat,UInt8.ofNat (49+n.tdiv r.width).toNat]
structure OnB (r:Rules) (n:Int):Prop where
 w:1≤r.width∧r.width≤8
 c:0≤n.tmod r.width∧n.tmod r.width<8
 d:0≤n.tdiv r.width∧n.tdiv r.width<8
theorem onB_of {r:Rules} (h:VR0 r) {n:Int} (h0:0≤n) (h1:n<r.width*r.height):OnB r n:=by
 have w1:=h.w1;have w8:=h.w8;have e1:=h.h1;have e8:=h.h8;have a:=Int.tmod_lt_of_pos n (show 0<r.width by omega);have b:=Int.tmod_nonneg r.width h0;have c:=Int.tdiv_nonneg h0 (show 0≤r.width by omega);have d:n.tdiv r.width<r.height:=by
  rw[Int.tdiv_eq_ediv_of_nonneg h0];exact Int.ediv_lt_of_lt_mul (by omega) (by rw[Int.mul_comm];exact h1)
 exact⟨⟨w1,w8⟩,⟨b,by omega⟩,⟨c,by omega⟩⟩
theorem qcf {r:Rules} {p:Place} (h:Valid r p) {n:Int} (h0:0≤n) (h1:n<((p.1.length:Nat):Int)):OnB r n:=by
 have hc:((p.1.length:Nat):Int)=r.width*r.height:=h.cells;exact onB_of h.r0 h0 (by omega)
theorem qve (r:Rules) (n:Int):(sqT r n).size=2:=rfl
theorem sq_app (r:Rules) (n:Int):colT (n.tmod r.width)++rowT (n.tdiv r.width)=sqT r n:=rfl
theorem col_inj {a b:Int} (ha:0≤a∧a<8) (hb:0≤b∧b<8):colT a=colT b↔a=b:=by
 unfold colT;rw[qvn,qv8 (by omega) (by omega)];omega
theorem row_inj {a b:Int} (ha:0≤a∧a<8) (hb:0≤b∧b<8):rowT a=rowT b↔a=b:=by
 unfold rowT;rw[qvn,qv8 (by omega) (by omega)];omega
theorem col_row {a b:Int} (ha:0≤a∧a<8) (hb:0≤b∧b<8):¬colT a=rowT b:=by
 unfold colT rowT;rw[qvn,qv8 (by omega) (by omega)];omega
theorem qp5 {r:Rules} {n:Int} (h:OnB r n):qaZ r n=some (colT (n.tmod r.width)):=by
 have:=h.w;have:=h.c;unfold qaZ colT;rw[show(r.2.1 !=0)=true from bne_t (by show ¬r.width=0;omega),qc];show some (Go.Utf8.encode (IntKind.wrap .i32 (w64 (97+n.tmod r.width))))=_;rw[qf (by omega) (by omega),i32_id (by omega) (by omega),qo0 (by omega) (by omega)]
theorem qww {r:Rules} {n:Int} (h:OnB r n):qbN r n=some (rowT (n.tdiv r.width)):=by
 have:=h.w;have:=h.d;unfold qbN rowT;rw[show(r.2.1 !=0)=true from bne_t (by show ¬r.width=0;omega),qc];show some (Go.Utf8.encode (IntKind.wrap .i32 (w64 (49+w64 (n.tdiv r.width)))))=_;rw[qf (n:=n.tdiv r.width) (by omega) (by omega),qf (by omega) (by omega),i32_id (by omega) (by omega),qo0 (by omega) (by omega)]
theorem qlH {r:Rules} {n:Int} (h:OnB r n):qa0 r n=some (sqT r n):=by
 unfold qa0;rw[qp5 h,qww h,Option.bind_some,Option.bind_some,sroom (by show 1≤_;omega) (by show 1≤_;omega),qc,sq_app]

def qb9 (r:Rules) (k:Int):ByteArray:=Go.Utf8.encode (qas r k).1
def Letters (r:Rules):Prop:=∀q∈r.pieces,0≤q.1∧q.1≤255
theorem qjY {r:Rules} (hr:Rng qae r):Letters r:=fun q hq=>by
 have:=(hr.2.2.2.1.2 q hq).1
 have h1:IntKind.u8.min=0:=by decide
 have h2:IntKind.u8.max=255:=by decide
 rw[←h1,←h2];exact this
theorem qlE {r:Rules} (hL:Letters r) {k:Int} (h0:0≤k) (h1:k<((r.pieces.length:Nat):Int)):qbv r k=some (qb9 r k):=by
 obtain⟨a,b⟩:=qoy h0 h1;have:=hL _ b;unfold qbv qb9;rw[a,Option.bind_some,i32_id this.1 (by omega)]
theorem qfL (r:Rules) (k:Int):(qb9 r k).size≤4:=enc_size _
def riv (p:Place) (m x:Mv):Bool:=(((decide (x.1≥0))&&(x.1 !=m.1))&&(x.2.1==m.2.1))&&(cellI p x.1==cellI p m.1)
def rivals (r:Rules) (p:Place) (m:Mv):List Int:=((qaA r p).filter (riv p m)).map fun x=>x.1
def sameC (r:Rules) (m:Mv) (n:Int):Bool:=n.tmod r.width==m.1.tmod r.width
def sameR (r:Rules) (m:Mv) (n:Int):Bool:=n.tdiv r.width==m.1.tdiv r.width
def e0:ByteArray:=ByteArray.mk #[]
def markT (r:Rules) (p:Place) (m:Mv):ByteArray:=if (rivals r p m).length=0 then e0 else if (rivals r p m).any (sameC r m)=false then colT (m.1.tmod r.width) else if (rivals r p m).any (sameR r m)=false then rowT (m.1.tdiv r.width) else sqT r m.1
theorem qs9 (r:Rules) (p:Place) (m:Mv):(markT r p m).size≤2:=by
 unfold markT;split
 ·show 0≤2;omega
 ·split
  ·show 1≤2;omega
  ·split
   ·show 1≤2;omega
   ·show 2≤2;omega
theorem mark_L1 (l:List Mv) (m:Mv) (p:Place) (i:Int) (acc:List Int):qc8 l m p ((i,()),((acc,()),()))=bif (decide (i<((l.length:Nat):Int))) then(Option.bind (at? l i) fun d=>Option.bind (gat (((decide (d.1≥0))&&(d.1 !=m.1))&&(d.2.1==m.2.1)) 0 p.1 d.1) fun a=>Option.bind (gat (((decide (d.1≥0))&&(d.1 !=m.1))&&(d.2.1==m.2.1)) 0 p.1 m.1) fun b =>
  Option.bind (bif ((((decide (d.1≥0))&&(d.1 !=m.1))&&(d.2.1==m.2.1))&&(a==b)) then req (room (acc.length+1) 8) (some ((),((acc++[d.1],()),()))) else some ((),((acc,()),()))) fun x:Unit×((List Int×Unit)×Unit)=>some (Sum.inl ((w64 (i+1),()),((x.2.1.1,()),()))))
 else some (Sum.inr ((),((acc,()),()))):=rfl
theorem mark_L2 (l:List Int) (r:Rules) (m:Mv) (i:Int):qfO ((),((l,()),())) r m ((i,()),())=bif (decide (i<((l.length:Nat):Int))) then(req (inb i l.length) (req (r.width !=0) (req (r.width !=0) (bif ((getD' l i.toNat 0).tmod r.width==m.1.tmod r.width) then(Option.map Sum.inr (Option.map Sum.inr (bif (!(decide (i≥0))) then(Option.bind (qaZ r m.1) fun a=>some a)
  else Option.bind (iterW (qdh ((),((l,()),())) r m) (((0:Int),()),())) (Sum.elim (fun _=>Option.bind (qbN r m.1) fun a=>some a) some)))) else some (Sum.inl ((w64 (i+1),()),()))))))
 else some (Sum.inr (Sum.inl ((),()))):=rfl
theorem mark_L3 (l:List Int) (r:Rules) (m:Mv) (i:Int):qdh ((),((l,()),())) r m ((i,()),())=bif (decide (i<((l.length:Nat):Int))) then(req (inb i l.length) (req (r.width !=0) (req (r.width !=0) (bif (w64 ((getD' l i.toNat 0).tdiv r.width)==w64 (m.1.tdiv r.width)) then(Option.map Sum.inr (Option.map Sum.inr (bif (!(decide (i≥0))) then(Option.bind (qbN r m.1) fun a=>some a)
  else Option.bind (qa0 r m.1) fun a=>some a))) else some (Sum.inl ((w64 (i+1),()),()))))))
 else some (Sum.inr (Sum.inl ((),()))):=rfl
theorem riv_mem {r:Rules} {p:Place} {m:Mv} {n:Int} (hn:n∈rivals r p m):0≤n∧n<((p.1.length:Nat):Int):=by
 unfold rivals at hn;obtain⟨x,hx,rfl⟩:=List.mem_map.1 hn;obtain⟨hx1,hx2⟩:=List.mem_filter.1 hx;have:=(qU ((qbn x).1 hx1)).1;have:x.1≥0:=by
  unfold riv at hx2;simp only[Bool.and_eq_true,decide_eq_true_eq] at hx2;exact hx2.1.1.1
 omega
theorem mark_spec {r:Rules} {p:Place} {m:Mv} (h:Valid r p) (ha:ql r p m=true) (hm:¬m.1<0):qgF r p (qaA r p) m=some (markT r p m):=by
 have hrg:=qU ha;have hb:=qcf h (n:=m.1) (by omega) hrg.1.2;have hlen:=qhQ h;have hw:(r.width !=0)=true:=bne_t (by have:=hb.w;omega);unfold qgF;generalize hl:qaA r p=l at hlen
 have hI:=qaq (f:=qc8 l m p) l.length (fun i=>(((i:Int),()),((((l.take i).filter (riv p m)).map (fun x=>x.1),()),()))) ((),(((l.filter (riv p m)).map (fun x=>x.1),()),())) (fun i hi=>by
  have hal:ql r p l[i]=true:=(qbn _).1 (hl▸List.getElem_mem hi);have hx:=qU hal;have ht:(((l.take (i+1)).filter (riv p m)).map (fun x=>x.1))=((l.take i).filter (riv p m)).map (fun x=>x.1)++(if riv p m l[i]=true then [l[i].1] else []):=by
   rw[List.take_succ_eq_append_getElem hi,List.filter_append,List.map_append];by_cases c:riv p m l[i]=true
   ·rw[if_pos c,List.filter_cons_of_pos c];rfl
   ·rw[if_neg c,List.filter_cons_of_neg c];rfl
  rw[mark_L1,ltd l i hi,cond_true,at?_eq l _ (by omega) (by omega),Option.bind_some,ht];simp only[Int.toNat_natCast]
  have hroom:room ((((l.take i).filter (riv p m)).map (fun x=>x.1)).length+1) 8=true:=qO (by
   have:=List.length_filter_le (riv p m) (l.take i);simp only[List.length_map,List.length_take] at this ⊢
   omega)
  rw[qf (n:=(i:Int)+1) (by omega) (by omega)];unfold riv at hroom ⊢
  cases hc:((decide (l[i].1≥0)&&(l[i].1 !=m.1))&&(l[i].2.1==m.2.1)) with
  | false=>simp[gat]
  | true =>
   have h0:l[i].1≥0:=by
    simp only[Bool.and_eq_true,decide_eq_true_eq] at hc;exact hc.1.1
   simp only[gat,cond_true,Bool.true_and];rw[qfi h0 hx.1.2,Option.bind_some,qfi (by omega) hrg.1.2,Option.bind_some]
   cases hcc:(cellI p l[i].1==cellI p m.1) with
   | false=>simp
   | true =>
    simp only[cond_true];rw[hroom,qc]
    simp) (by rw[mark_L1,nltd,cond_false,List.take_length])
 have hI':iterW (qc8 l m p) (((0:Int),()),((([]:List Int),()),()))=_:=hI;rw[hI',Option.bind_some]
 have hR:(l.filter (riv p m)).map (fun x=>x.1)=rivals r p m:=by unfold rivals;rw[hl]
 rw[hR];have hrl:(rivals r p m).length≤100000:=by
  unfold rivals;rw[hl,List.length_map];exact Nat.le_trans (List.length_filter_le _ _) hlen
 have hmem:=fun n (hn:n∈rivals r p m)=>riv_mem hn;unfold markT;generalize rivals r p m=R at hrl hmem ⊢;simp only;by_cases c0:R.length=0
 ·rw[beq_t (by omega),cond_true,if_pos c0];rfl
 ·rw[beq_f (by omega),cond_false,if_neg c0]
  have hL3:=qag R (sameR r m) (qdh ((),((R,()),())) r m) (.inr (sqT r m.1)) (.inl ((),())) (fun i hi=>by
   have hn:=hmem _ (List.getElem_mem hi);have hbn:=qcf h hn.1 hn.2;have:=hbn.d;have:=hb.d;rw[mark_L3,ltd R i hi,cond_true,inbN R i hi,qc,hw,qc,qc,Int.toNat_natCast,gd_eq R i hi,qf (n:=R[i].tdiv r.width) (by omega) (by omega),qf (n:=m.1.tdiv r.width) (by omega) (by omega),qf (n:=(i:Int)+1) (by omega) (by omega),decide_eq_true (show(i:Int)≥0 by omega),qlH hb];show(bif sameR r m R[i] then _ else _)=_
   cases sameR r m R[i]<;>rfl) (by rw[mark_L3,nltd,cond_false])
  have hL2:=qag R (sameC r m) (qfO ((),((R,()),())) r m) (.inr (if R.any (sameR r m)=false then rowT (m.1.tdiv r.width) else sqT r m.1)) (.inl ((),())) (fun i hi=>by
   rw[mark_L2,ltd R i hi,cond_true,inbN R i hi,qc,hw,qc,qc,Int.toNat_natCast,gd_eq R i hi,qf (n:=(i:Int)+1) (by omega) (by omega),decide_eq_true (show(i:Int)≥0 by omega),hL3,Option.bind_some];show(bif sameC r m R[i] then _ else _)=_;rw[qww hb]
   cases sameC r m R[i] with
   | false=>rfl
   | true=>cases R.any (sameR r m)<;>rfl) (by rw[mark_L2,nltd,cond_false])
  rw[hL2,Option.bind_some,qp5 hb]
  cases R.any (sameC r m)<;>rfl
def eqT:ByteArray:=ByteArray.mk #[61]
def xT:ByteArray:=ByteArray.mk #[120]
def atT:ByteArray:=ByteArray.mk #[64]
def goT (r:Rules) (p:Place) (m:Mv) (mark:ByteArray):ByteArray :=
 bif m.2.2.1 !=qJ (cellI p m.1) then((bif cellI p m.2.1 !=0 then(qb9 r (qJ (cellI p m.1))++mark)++xT else qb9 r (qJ (cellI p m.1))++mark)++sqT r m.2.1)++(eqT++qb9 r m.2.2.1)
 else(bif cellI p m.2.1 !=0 then(qb9 r (qJ (cellI p m.1))++mark)++xT else qb9 r (qJ (cellI p m.1))++mark)++sqT r m.2.1
def moveT (r:Rules) (p:Place) (m:Mv):ByteArray:=if m.1<0 then(qb9 r m.2.2.1++atT)++sqT r m.2.1 else goT r p m (markT r p m)
theorem qcP {r:Rules} {p:Place} {m:Mv} (ha:ql r p m=true) (hm:¬m.1<0):cellI p m.1>0∧(cellI p m.1-1).tmod 2=p.turn:=by
 unfold ql at ha;rw[Bool.and_eq_true] at ha;have h2:=ha.2;rw[beq_f (show ¬m.1 = -1 by omega),cond_false] at h2;unfold goOk mineB at h2;simp only[Bool.and_eq_true,decide_eq_true_eq,beq_iff_eq] at h2;exact h2.1
theorem quR {r:Rules} {p:Place} {m:Mv} (hL:Letters r) (h:Valid r p) (ha:ql r p m=true):qcg r p (qaA r p) m=some (moveT r p m):=by
 have hrg:=qU ha;have hbt:=qcf h (n:=m.2.1) hrg.2.1.1 hrg.2.1.2;unfold qcg moveT;by_cases hm:m.1<0
 ·rw[decide_eq_true hm,cond_true,if_pos hm,qlE hL hrg.2.2.1 hrg.2.2.2,Option.bind_some,qlH hbt];have s1:=qfL r m.2.2.1;rw[sroom (by omega) (by show 1≤_;omega),qc,Option.bind_some,sroom (by rw[ByteArray.size_append];show _+1≤_;omega) (by show 2≤_;omega),qc];rfl
 ·obtain⟨hc,_⟩:=qcP ha hm;obtain⟨k1,k2,k3⟩:=qdd h hc;have s1:=qfL r (qJ (cellI p m.1));have s2:=qs9 r p m;have s3:=qfL r m.2.2.1;have sx:xT.size=1:=rfl;have se:eqT.size=1:=rfl;have ss:=qve r m.2.1;rw[decide_eq_false hm,cond_false,if_neg hm,qfi (by omega) hrg.1.2,Option.bind_some,k1,qlE hL k2 k3,Option.bind_some,mark_spec h ha hm,Option.bind_some,sroom (by omega) (by omega),qc,qfi hrg.2.1.1 hrg.2.1.2,Option.bind_some,qlH hbt,qlE hL hrg.2.2.1 hrg.2.2.2];unfold goT;have r1:qY (qb9 r (qJ (cellI p m.1))++markT r p m) xT=true:=sroom (by rw[ByteArray.size_append];omega) (by omega);have r1':qY (qb9 r (qJ (cellI p m.1))++markT r p m) (ByteArray.mk #[120])=true:=r1;rw[r1',qc]
  have r2:∀a:ByteArray,a.size≤20→qY a (sqT r m.2.1)=true:=fun a ha=>sroom (by omega) (by omega);have r3:qY (ByteArray.mk #[61]) (qb9 r m.2.2.1)=true:=sroom (show eqT.size≤_ by omega) (by omega);have r4:∀a:ByteArray,a.size≤20→qY (a++sqT r m.2.1) ((ByteArray.mk #[61])++qb9 r m.2.2.1)=true:=fun a ha=>sroom (by rw[ByteArray.size_append];omega) (by rw[ByteArray.size_append];show eqT.size+_≤_;omega)
  have z1:(qb9 r (qJ (cellI p m.1))++markT r p m).size≤20:=by rw[ByteArray.size_append];omega
  have z2:((qb9 r (qJ (cellI p m.1))++markT r p m)++ByteArray.mk #[120]).size≤20:=by rw[ByteArray.size_append,ByteArray.size_append];show _+xT.size≤_;omega
  cases cellI p m.2.1 !=0 with
  | true =>
   simp only[cond_true,Option.bind_some];rw[r2 _ z2,qc]
   cases m.2.2.1 !=qJ (cellI p m.1) with
   | true =>
    simp only[cond_true];rw[r3,qc,r4 _ z2,qc];rfl
   | false=>rfl
  | false =>
   simp only[cond_false,Option.bind_some];rw[r2 _ z1,qc]
   cases m.2.2.1 !=qJ (cellI p m.1) with
   | true =>
    simp only[cond_true,Option.bind_some];rw[r3,qc,r4 _ z1,qc];rfl
   | false=>rfl

def bl (a:ByteArray):List UInt8:=a.data.toList
theorem qb4 (a b:ByteArray):bl (a++b)=bl a++bl b:=by simp[bl,ByteArray.data_append]
theorem qt4 {a b:ByteArray} (h:bl a=bl b):a=b:=qts (by rw[ByteArray.toList_eq,ByteArray.toList_eq];exact h)
def by8 (n:Int):UInt8:=UInt8.ofNat n.toNat
theorem qfI {a b:Int} (ha:0≤a∧a<256) (hb:0≤b∧b<256) (h:by8 a=by8 b):a=b:=by
 have:=(qv8 (by omega) (by omega)).1 h;omega
structure Lets (r:Rules):Prop where
 rng:∀k:Int,0≤k→k<((r.pieces.length:Nat):Int)→65≤(qas r k).1∧(qas r k).1≤90
 inj:∀j k:Int,0≤j→j<((r.pieces.length:Nat):Int)→0≤k→k<((r.pieces.length:Nat):Int)→(qas r j).1=(qas r k).1→j=k
theorem qp4 {r:Rules} (h:qz r=0):Lets r:=by
 unfold qz at h;split at h
 ·cases h
 split at h
 ·cases h
 split at h
 ·cases h
 split at h
 ·cases h
 split at h
 ·rename_i h5;exact absurd h h5
 rename_i h5;have h5:=qd4 (Decidable.not_not.1 h5);have key:∀i (hi:i<r.pieces.length),(65≤(r.pieces[i]).1∧(r.pieces[i]).1≤90)∧∀j,(hj:j<i)→¬(r.pieces[j]'(by omega)).1=(r.pieces[i]).1:=fun i hi=>by
  have:=h5 i hi;unfold pErr at this;rw[List.getElem?_eq_getElem hi] at this;simp only at this
  cases h1:(decide ((r.pieces[i]).1<65)||decide ((r.pieces[i]).1>90)) with
  | true=>rw[h1,cond_true] at this;cases this
  | false =>
   rw[h1,cond_false] at this
   cases h2:(r.pieces.take i).any (fun q=>q.1==(r.pieces[i]).1) with
   | true=>rw[h2,cond_true] at this;cases this
   | false =>
    rw[Bool.or_eq_false_iff,decide_eq_false_iff_not,decide_eq_false_iff_not] at h1;refine⟨by omega,fun j hj e=>?_⟩;rw[List.any_eq_false] at h2;refine h2 (r.pieces[j]'(by omega)) ?_ (beq_t e);rw[List.mem_take_iff_getElem];exact⟨j,by omega,rfl⟩
 have hp:∀k:Int,(h0:0≤k)→(h1:k<((r.pieces.length:Nat):Int))→qas r k=r.pieces[k.toNat]'(by omega):=fun k h0 h1=>by
  have hk:k.toNat<r.pieces.length:=by omega
  unfold qas;rw[List.getD_eq_getElem?_getD,List.getElem?_eq_getElem hk];rfl
 refine⟨fun k h0 h1=>?_,fun j k j0 j1 k0 k1 e=>?_⟩
 ·rw[hp k h0 h1];exact(key _ (by omega)).1
 ·rw[hp j j0 j1,hp k k0 k1] at e;rcases Nat.lt_trichotomy j.toNat k.toNat with c | c | c
  ·exact absurd e ((key k.toNat (by omega)).2 _ c)
  ·omega
  ·exact absurd e.symm ((key j.toNat (by omega)).2 _ c)
theorem qcZ {r:Rules} (hl:Lets r) {k:Int} (h0:0≤k) (h1:k<((r.pieces.length:Nat):Int)):bl (qb9 r k)=[by8 (qas r k).1]:=by
 have:=hl.rng k h0 h1;unfold qb9;rw[qo0 (by omega) (by omega)];rfl
theorem bl_sq (r:Rules) (n:Int):bl (sqT r n)=[by8 (97+n.tmod r.width),by8 (49+n.tdiv r.width)]:=rfl
def goB (L:UInt8) (M X S Q:List UInt8):List UInt8:=L::(M++X++S++Q)
def xB (p:Place) (m:Mv):List UInt8:=if cellI p m.2.1=0 then [] else [120]
def qB (r:Rules) (p:Place) (m:Mv):List UInt8:=if m.2.2.1=qJ (cellI p m.1) then [] else [61,by8 (qas r m.2.2.1).1]
theorem bl_go {r:Rules} {p:Place} {m:Mv} (hl:Lets r) (h:Valid r p) (ha:ql r p m=true) (hm:¬m.1<0) (mark:ByteArray):bl (goT r p m mark)=goB (by8 (qas r (qJ (cellI p m.1))).1) (bl mark) (xB p m) (bl (sqT r m.2.1)) (qB r p m):=by
 have hrg:=qU ha;obtain⟨hc,hc2⟩:=qcP ha hm;obtain⟨k1,k2,k3⟩:=qdd h hc;have bx:bl xT=[120]:=rfl;have be:bl eqT=[61]:=rfl;unfold goT goB xB qB;by_cases c1:m.2.2.1=qJ (cellI p m.1)
 ·rw[bne_f c1,cond_false,if_pos c1];by_cases c2:cellI p m.2.1=0
  ·rw[bne_f c2,cond_false,if_pos c2,qb4,qb4,qcZ hl k2 k3];simp
  ·rw[bne_t c2,cond_true,if_neg c2,qb4,qb4,qb4,qcZ hl k2 k3,bx];simp
 ·rw[bne_t c1,cond_true,if_neg c1];by_cases c2:cellI p m.2.1=0
  ·rw[bne_f c2,cond_false,if_pos c2,qb4,qb4,qb4,qb4,qcZ hl k2 k3,qcZ hl hrg.2.2.1 hrg.2.2.2,be];simp
  ·rw[bne_t c2,cond_true,if_neg c2,qb4,qb4,qb4,qb4,qb4,qcZ hl k2 k3,qcZ hl hrg.2.2.1 hrg.2.2.2,bx,be];simp
theorem qqO {A:Type} {s t s' t':List A} (h:s++t=s'++t') (hl:t.length=t'.length):s=s'∧t=t':=List.append_inj' h hl
def MarkB (M:List UInt8):Prop:=∀b∈M,¬b=120∧¬b=64
theorem qmx {n:Int} (h:0≤n∧n<8):(¬by8 (97+n)=120∧¬by8 (97+n)=64)∧(¬by8 (49+n)=120∧¬by8 (49+n)=64)∧¬by8 (97+n)=61:=by
 have:n=0∨n=1∨n=2∨n=3∨n=4∨n=5∨n=6∨n=7:=by omega
 rcases this with rfl | rfl | rfl | rfl | rfl | rfl | rfl | rfl<;>decide
theorem qrY {r:Rules} {p:Place} {m:Mv} (hb:OnB r m.1):MarkB (bl (markT r p m)):=by
 have hc:=qmx hb.c;have hd:=qmx hb.d;unfold markT;split
 ·intro b hb';cases hb'
 ·split
  ·intro b hb';have:bl (colT (m.1.tmod r.width))=[by8 (97+m.1.tmod r.width)]:=rfl;rw[this,List.mem_singleton] at hb';subst hb';exact hc.1
  ·split
   ·intro b hb';have:bl (rowT (m.1.tdiv r.width))=[by8 (49+m.1.tdiv r.width)]:=rfl;rw[this,List.mem_singleton] at hb';subst hb';exact hd.2.1
   ·intro b hb';rw[bl_sq] at hb';rcases List.mem_cons.1 hb' with rfl | hb'
    ·exact hc.1
    ·rw[List.mem_singleton] at hb';subst hb';exact hd.2.1
def qL:Option UInt8→List UInt8
 | none=>[]
 | some a=>[61,a]
theorem goB_inj {L L':UInt8} {M M':List UInt8} {x x':Bool} {c d c' d':UInt8} {q q':Option UInt8} (hM:MarkB M) (hM':MarkB M') (hd:∀a,q'=some a→¬d=a) (hd':∀a,q=some a→¬d'=a) (hc:¬c=61) (hc':¬c'=61)
  (h:goB L M (if x then [120] else []) [c,d] (qL q)=goB L' M' (if x' then [120] else []) [c',d'] (qL q')) :
  L=L'∧M=M'∧c=c'∧d=d'∧q=q':=by
 unfold goB at h;rw[List.cons.injEq] at h;obtain⟨h1,h⟩:=h;have hx:∀ {M M':List UInt8} {x x':Bool},MarkB M→MarkB M'→M++(if x then [120] else [])=M'++(if x' then [120] else [])→M=M':=by
  intro M M' x x' hM hM' e
  cases x<;>cases x'
  ·simpa using e
  ·exfalso;simp only[Bool.false_eq_true,if_false,List.append_nil,if_true] at e;exact(hM 120 (by rw[e];simp)).1 rfl
  ·exfalso;simp only[Bool.false_eq_true,if_false,List.append_nil,if_true] at e;exact(hM' 120 (by rw[←e];simp)).1 rfl
  ·exact(qqO e rfl).1
 match q,q',h with
 | none,none,h =>
  simp only[qL,List.append_nil] at h;obtain⟨a,b⟩:=qqO h rfl;simp only[List.cons.injEq,and_true] at b;exact⟨h1,hx hM hM' a,b.1,b.2,rfl⟩
 | some a,some a',h =>
  obtain⟨e1,e2⟩:=qqO h rfl;obtain⟨e3,e4⟩:=qqO e1 rfl;simp only[qL,List.cons.injEq,and_true,true_and] at e2 e4;exact⟨h1,hx hM hM' e3,e4.1,e4.2,by rw[e2]⟩
 | none,some a',h =>
  exfalso;simp only[qL,List.append_nil] at h;have e:[c,d]=[61,a']:=(qqO h rfl).2;simp only[List.cons.injEq,and_true] at e;exact hc e.1
 | some a,none,h =>
  exfalso;simp only[qL,List.append_nil] at h;have e:[61,a]=[c',d']:=(qqO h rfl).2;simp only[List.cons.injEq,and_true] at e;exact hc' e.1.symm
theorem mv_ext {x y:Mv} (h1:x.1=y.1) (h2:x.2.1=y.2.1) (h3:x.2.2.1=y.2.2.1):x=y:=by
 obtain⟨a,b,c,⟨⟩⟩:=x;obtain⟨a',b',c',⟨⟩⟩:=y;simp only at h1 h2 h3;subst h1 h2 h3;rfl
theorem sq_eq {r:Rules} {a b:Int} (ha:OnB r a) (hb:OnB r b) (h:a.tmod r.width=b.tmod r.width) (h':a.tdiv r.width=b.tdiv r.width):a=b:=by
 have e1:=Int.mul_tdiv_add_tmod a r.width;have e2:=Int.mul_tdiv_add_tmod b r.width;rw[h,h'] at e1;omega
theorem mark_inj {r:Rules} {p:Place} {m n:Mv} (hbm:OnB r m.1) (hbn:OnB r n.1) (hr:n.1∈rivals r p m) (h:markT r p m=markT r p n):m.1=n.1:=by
 have hne:¬(rivals r p m).length=0:=fun e=>by
  rw[List.length_eq_zero_iff.1 e] at hr;cases hr
 have c1:(colT (m.1.tmod r.width)).size=1:=rfl;have size1:∀i,(colT i).size=1∧(rowT i).size=1:=fun i=>⟨rfl,rfl⟩;have size2:∀i,(sqT r i).size=2:=fun _=>rfl;have size0:e0.size=0:=rfl;unfold markT at h;rw[if_neg hne] at h;by_cases a1:(rivals r p m).any (sameC r m)=false
 ·rw[if_pos a1] at h;have hnc:¬n.1.tmod r.width=m.1.tmod r.width:=fun e=>by
   rw[List.any_eq_false] at a1;exact a1 _ hr (beq_t e)
  exfalso;split at h
  ·have:=congrArg ByteArray.size h;rw[(size1 _).1,size0] at this;cases this
  ·split at h
   ·exact hnc ((col_inj hbm.c hbn.c).1 h).symm
   ·split at h
    ·exact col_row hbm.c hbn.d h
    ·have:=congrArg ByteArray.size h;rw[(size1 _).1,size2] at this;cases this
 ·rw[if_neg a1] at h;by_cases a2:(rivals r p m).any (sameR r m)=false
  ·rw[if_pos a2] at h;have hnr:¬n.1.tdiv r.width=m.1.tdiv r.width:=fun e=>by
    rw[List.any_eq_false] at a2;exact a2 _ hr (beq_t e)
   exfalso;split at h
   ·have:=congrArg ByteArray.size h;rw[(size1 _).2,size0] at this;cases this
   ·split at h
    ·exact col_row hbn.c hbm.d h.symm
    ·split at h
     ·exact hnr ((row_inj hbm.d hbn.d).1 h).symm
     ·have:=congrArg ByteArray.size h;rw[(size1 _).2,size2] at this;cases this
  ·rw[if_neg a2] at h;split at h
   ·have:=congrArg ByteArray.size h;rw[size2,size0] at this;cases this
   ·split at h
    ·have:=congrArg ByteArray.size h;rw[size2,(size1 _).1] at this;cases this
    ·split at h
     ·have:=congrArg ByteArray.size h;rw[size2,(size1 _).2] at this;cases this
     ·have e:=congrArg bl h;rw[bl_sq,bl_sq] at e;simp only[List.cons.injEq,and_true] at e;have hc:=hbm.c;have hd:=hbm.d;have hc':=hbn.c;have hd':=hbn.d;have q1:=qfI (by omega) (by omega) e.1;have q2:=qfI (by omega) (by omega) e.2;exact sq_eq hbm hbn (by omega) (by omega)
theorem text_inj {r:Rules} {p:Place} {m n:Mv} (hl:Lets r) (h:Valid r p) (ha:ql r p m=true) (hb:ql r p n=true) (e:moveT r p m=moveT r p n):m=n:=by
 have hrm:=qU ha;have hrn:=qU hb;have tm:=qcf h (n:=m.2.1) hrm.2.1.1 hrm.2.1.2;have tn:=qcf h (n:=n.2.1) hrn.2.1.1 hrn.2.1.2;have lm:=hl.rng m.2.2.1 hrm.2.2.1 hrm.2.2.2;have ln:=hl.rng n.2.2.1 hrn.2.2.1 hrn.2.2.2;have bat:bl atT=[64]:=rfl;have tmc:=tm.c;have tmd:=tm.d;have tnc:=tn.c;have tnd:=tn.d;have drop:∀x:Mv,ql r p x=true→x.1<0→bl (moveT r p x)=[by8 (qas r x.2.2.1).1,64,by8 (97+x.2.1.tmod r.width),by8 (49+x.2.1.tdiv r.width)]:=fun x hx hx0=>by
  have hrx:=qU hx;unfold moveT;rw[if_pos hx0,qb4,qb4,qcZ hl hrx.2.2.1 hrx.2.2.2,bat,bl_sq];rfl
 have go:∀x:Mv,ql r p x=true→¬x.1<0→bl (moveT r p x)=goB (by8 (qas r (qJ (cellI p x.1))).1) (bl (markT r p x)) (xB p x) (bl (sqT r x.2.1)) (qB r p x):=fun x hx hx0=>by
  unfold moveT;rw[if_neg hx0,bl_go hl h hx hx0]
 have mixed:∀x y:Mv,ql r p x=true→ql r p y=true→x.1<0→¬y.1<0→¬moveT r p x=moveT r p y:=fun x y hx hy hx0 hy0 e=>by
  have hry:=qU hy;have ty:=qcf h (n:=y.2.1) hry.2.1.1 hry.2.1.2;have by':=qcf h (n:=y.1) (by omega) hry.1.2;have hM:=qrY (p:=p) (m:=y) by';have hs:=qmx ty.c;have e:=congrArg bl e;rw[drop x hx hx0,go y hy hy0,bl_sq] at e;unfold goB xB at e;rw[List.cons.injEq] at e;have e:=e.2
  cases hb:bl (markT r p y) with
  | nil =>
   rw[hb] at e;split at e
   ·simp only[List.nil_append,List.cons_append,List.cons.injEq] at e;exact hs.1.2 e.1.symm
   ·simp only[List.nil_append,List.cons_append,List.cons.injEq] at e;exact absurd e.1 (by decide)
  | cons b t =>
   rw[hb] at e;simp only[List.cons_append,List.cons.injEq] at e;exact(hM b (by rw[hb];exact List.mem_cons_self)).2 e.1.symm
 by_cases cm:m.1<0
 ·by_cases cn:n.1<0
  ·have e:=congrArg bl e;rw[drop m ha cm,drop n hb cn] at e;simp only[List.cons.injEq,and_true,true_and] at e;have q1:=qfI (by omega) (by omega) e.1;have q2:=qfI (by omega) (by omega) e.2.1;have q3:=qfI (by omega) (by omega) e.2.2;exact mv_ext (by omega) (sq_eq tm tn (by omega) (by omega)) (hl.inj _ _ hrm.2.2.1 hrm.2.2.2 hrn.2.2.1 hrn.2.2.2 q1)
  ·exact absurd e (mixed m n ha hb cm cn)
 ·by_cases cn:n.1<0
  ·exact absurd e.symm (mixed n m hb ha cn cm)
  ·have fm:=qcf h (n:=m.1) (by omega) hrm.1.2;have fn:=qcf h (n:=n.1) (by omega) hrn.1.2;obtain⟨hc,hc2⟩:=qcP ha cm;obtain⟨hd,hd2⟩:=qcP hb cn;obtain⟨_,k2,k3⟩:=qdd h hc;obtain⟨_,j2,j3⟩:=qdd h hd;have lk:=hl.rng _ k2 k3;have lj:=hl.rng _ j2 j3;have e:=congrArg bl e;rw[go m ha cm,go n hb cn,bl_sq,bl_sq] at e;have hxB:∀x:Mv,xB p x=if (cellI p x.2.1 !=0)=true then [120] else []:=fun x=>by
    unfold xB;by_cases c:cellI p x.2.1=0
    ·rw[if_pos c,bne_f c];rfl
    ·rw[if_neg c,bne_t c];rfl
   have hqB:∀x:Mv,qB r p x=qL (if x.2.2.1=qJ (cellI p x.1) then none else some (by8 (qas r x.2.2.1).1)):=fun x=>by
    unfold qB;by_cases c:x.2.2.1=qJ (cellI p x.1)
    ·rw[if_pos c,if_pos c];rfl
    ·rw[if_neg c,if_neg c];rfl
   rw[hxB m,hxB n,hqB m,hqB n] at e;have lowhigh:∀(x y:Mv) (a:UInt8),ql r p x=true→0≤y.2.1.tdiv r.width∧y.2.1.tdiv r.width<8→(if x.2.2.1=qJ (cellI p x.1) then none else some (by8 (qas r x.2.2.1).1):Option UInt8)=some a→¬by8 (49+y.2.1.tdiv r.width)=a:=fun x y a hx hy hq hh=>by
    have hrx:=qU hx;have:=hl.rng x.2.2.1 hrx.2.2.1 hrx.2.2.2;split at hq
    ·cases hq
    ·cases hq;have:=qfI (by omega) (by omega) hh;omega
   obtain⟨g1,g2,g3,g4,g5⟩:=goB_inj (qrY (p:=p) fm) (qrY (p:=p) fn) (fun a ha'=>lowhigh n m a hb tmd ha') (fun a ha'=>lowhigh m n a ha tnd ha') (qmx tmc).2.2 (qmx tnc).2.2 e;have kk:=hl.inj _ _ k2 k3 j2 j3 (qfI (by omega) (by omega) g1);have to:m.2.1=n.2.1:=by
    have q2:=qfI (by omega) (by omega) g3;have q3:=qfI (by omega) (by omega) g4;exact sq_eq tm tn (by omega) (by omega)
   have hcell:cellI p n.1=cellI p m.1:=by
    have e1:=Int.mul_tdiv_add_tmod (cellI p m.1-1) 2;have e2:=Int.mul_tdiv_add_tmod (cellI p n.1-1) 2;have e3:(cellI p m.1-1).tdiv 2=(cellI p n.1-1).tdiv 2:=kk;omega
   have from':m.1=n.1:=by
    refine Decidable.byContradiction fun hne=>hne (mark_inj fm fn ?_ (qt4 g2));unfold rivals;refine List.mem_map.2 ⟨n,List.mem_filter.2 ⟨(qbn n).2 hb,?_⟩,rfl⟩;unfold riv;rw[decide_eq_true (by omega),bne_t (fun e=>hne e.symm),beq_t to.symm,beq_t hcell];rfl
   refine mv_ext from' to ?_;rw[kk] at g5;by_cases p1:m.2.2.1=qJ (cellI p n.1)
   ·by_cases p2:n.2.2.1=qJ (cellI p n.1)
    ·rw[p1,p2]
    ·rw[if_pos p1,if_neg p2] at g5;cases g5
   ·by_cases p2:n.2.2.1=qJ (cellI p n.1)
    ·rw[if_neg p1,if_pos p2] at g5;cases g5
    ·rw[if_neg p1,if_neg p2,Option.some.injEq] at g5;exact hl.inj _ _ hrm.2.2.1 hrm.2.2.2 hrn.2.2.1 hrn.2.2.2 (qfI (by omega) (by omega) g5)

theorem read_L1 (l:List Mv) (e:Int) (r:Rules) (p:Place) (s:ByteArray) (i:Int):qc6 (l,(e,())) r p s ((i,()),())=bif (decide (i<((l.length:Nat):Int))) then(req (inb i l.length) (Option.bind (qcg r p l (getD' l i.toNat d0)) fun t=>bif (t.toList==s.toList) then(Option.map Sum.inr (Option.map Sum.inr (bif (decide (i<0)) then some (d0,(13,())) else req (inb i l.length) (some (getD' l i.toNat d0,(0,())))))) else some (Sum.inl ((w64 (i+1),()),()))))
 else some (Sum.inr (Sum.inl ((),()))):=rfl
def qvD (r:Rules) (p:Place) (s:ByteArray):Mv×Int×Unit:=match (qaA r p).find? (fun m=>(moveT r p m).toList==s.toList) with
 | some m=>(m,(0,()))
 | none=>(d0,(13,()))
theorem qum (r:Rules) (p:Place) (s:ByteArray) (hL:Letters r) (hr:Rng qae r) (hn:p.1.length≤9223372036854775807):qbd r p s=some (if qcG r p=0 then qvD r p s else(d0,(qcG r p,()))):=by
 unfold qbd qvD;rw[all_spec r p hr hn,Option.bind_some];by_cases c:qcG r p=0
 ·have hv:=qv0 c;have hlen:=qhQ hv;simp only[c,if_true];rw[show((0:Int)!=0)=false from rfl,cond_false];have hof:∀i (hi:i<(qaA r p).length),qcg r p (qaA r p) (qaA r p)[i]=some (moveT r p (qaA r p)[i]):=fun i hi=>quR hL hv ((qbn _).1 (List.getElem_mem hi));generalize qaA r p=l at hlen hof ⊢
  have key:∀k i,i+k=l.length→iterW (qc6 (l,(0,())) r p s) (((i:Int),()),())=some (match (l.drop i).find? (fun m=>(moveT r p m).toList==s.toList) with
   | some m => .inr (m,(0,()))
   | none => .inl ((),())):=by
   intro k
   induction k with
   | zero =>
    intro i hi
    have:i=l.length:=by omega
    subst this;refine qi ?_;rw[read_L1,nltd,cond_false,List.drop_length];rfl
   | succ k ih =>
    intro i hi
    have hil:i<l.length:=by omega
    have hF:=read_L1 l 0 r p s (i:Int);rw[ltd l i hil,cond_true,inbN l i hil,qc,qc] at hF;simp only[Int.toNat_natCast] at hF;rw[gd_eq l i hil,hof i hil,Option.bind_some,decide_eq_false (show ¬(i:Int)<0 by omega),cond_false,qf (n:=(i:Int)+1) (by omega) (by omega)] at hF;rw[List.drop_eq_getElem_cons hil]
    cases hc:((moveT r p l[i]).toList==s.toList) with
    | true =>
     rw[hc] at hF;rw[qi hF,List.find?_cons,hc]
    | false =>
     rw[hc] at hF;rw[qx hF,List.find?_cons,hc];exact ih (i+1) (by omega)
  have k0:=key l.length 0 (by omega);rw[List.drop_zero] at k0;have k0':iterW (qc6 (l,(0,())) r p s) (((0:Int),()),())=_:=k0;rw[k0',Option.bind_some]
  cases l.find? (fun m=>(moveT r p m).toList==s.toList)<;>rfl
 ·simp only[if_neg c];rw[bne_t c,cond_true]

theorem qwq {r:Rules} {s:List Place×List Mv} {m:Mv} (c:stepG r s m=0):qaa r s.1=0∧ql r (lastP s.1) m=true:=by
 unfold stepG at c;split at c
 ·rename_i h1;split at c
  ·rename_i h2;exact⟨h1,h2⟩
  ·cases c
 ·cases c
theorem qu6 (l l':List Place) (j:Nat) (hj:j<l.length):getD' (l++l') j dP=getD' l j dP:=by simp[getD',List.getElem?_append_left hj]
theorem gd_app2 (l:List Place) (q:Place):getD' (l++[q]) l.length dP=q:=by simp[getD']
theorem qr1 {r:Rules}:∀(k:List Mv) (s s':List Place×List Mv),runG r k s = .inl s'→s'.1.length=s.1.length+k.length∧∀j,j<s.1.length→getD' s'.1 j dP=getD' s.1 j dP
 | [],s,s',e=>by cases e;exact⟨by simp,fun _ _=>rfl⟩
 | m::k,s,s',e=>by
  unfold runG at e;split at e
  ·obtain⟨a,b⟩:=qr1 k _ _ e;have hn:(nextG r s m).1=s.1++[qT r (lastP s.1) m]:=rfl;rw[hn] at a b;refine⟨by rw[a];simp;omega,fun j hj=>?_⟩;rw[b j (by simp;omega),qu6 _ _ j hj]
  ·cases e
theorem qwC {r:Rules}:∀(k:List Mv) (s s':List Place×List Mv),0<s.1.length→runG r k s = .inl s'→∀i (hi:i<k.length),
  getD' s'.1 (s.1.length+i) dP=qT r (getD' s'.1 (s.1.length+i-1) dP) k[i]∧ql r (getD' s'.1 (s.1.length+i-1) dP) k[i]=true
 | [],s,s',h,e,i,hi=>absurd hi (Nat.not_lt_zero _)
 | m::k,s,s',h,e,i,hi=>by
  unfold runG at e;split at e
  ·rename_i c;have hn:(nextG r s m).1=s.1++[qT r (lastP s.1) m]:=rfl
   have hnl:(nextG r s m).1.length=s.1.length+1:=by rw[hn];simp
   cases i with
   | zero =>
    obtain⟨_,b⟩:=qr1 k _ _ e;rw[hnl,hn] at b;rw[Nat.add_zero,b _ (by omega),b _ (by omega),gd_app2,qu6 _ _ _ (by omega)];exact⟨rfl,(qwq c).2⟩
   | succ i =>
    have:=qwC k _ _ (by omega) e i (by simpa using hi);rw[hnl] at this;rw[show s.1.length+(i+1)=s.1.length+1+i by omega];simpa using this
  ·cases e
abbrev TRec:=List (ByteArray×ByteArray×Unit)×ByteArray×List (Int×Mv×ByteArray×Unit)×Int×Unit
abbrev qrr:=List ((Mv×ByteArray×Unit)×Option (List Nat))
abbrev rd (r:Rules) (s:ByteArray) (x:TRec):Rules×ByteArray×TRec×Unit:=(r,(s,(x,())))
def mkB (l:List UInt8):ByteArray:=⟨l.toArray⟩
theorem bl_mk (l:List UInt8):bl (mkB l)=l:=by simp[bl,mkB]
theorem mk_bl (s:ByteArray):mkB (bl s)=s:=qt4 (bl_mk _)
theorem qeu (l:List UInt8):(mkB l).size=l.length:=by simp[mkB,ByteArray.size]
theorem qct (l:List UInt8):(mkB l).toList=l:=by rw[ByteArray.toList_eq];simp[mkB]
def tr (s:ByteArray):ByteArray:=⟨((bl s).dropWhile (fun b=>([32,10]:List UInt8).contains b)).toArray⟩
theorem trim_eq (s:ByteArray):qwp s (ByteArray.mk #[32,10])=some (tr s):=rfl
def NB (l:List UInt8):Prop:=∀b,l.head?=some b→¬b=32∧¬b=10
def St (l:List UInt8) (s:ByteArray):Prop:=NB l∧tr s=mkB l
theorem tr_nb {l:List UInt8} (h:NB l):tr (mkB l)=mkB l:=by
 unfold tr;rw[bl_mk]
 cases l with
 | nil=>rfl
 | cons b l =>
  obtain⟨h1,h2⟩:=h b rfl
  have:([32,10]:List UInt8).contains b=false:=by simp[h1,h2]
  rw[List.dropWhile_cons,this];rfl
theorem St.self {l:List UInt8} (h:NB l):St l (mkB l):=⟨h,tr_nb h⟩
theorem St.blank {l:List UInt8} {b:UInt8} (h:NB l) (hb:b=32∨b=10):St l (mkB (b::l)):=by
 refine⟨h,?_⟩;have:=tr_nb h;unfold tr at this ⊢;rw[bl_mk] at this ⊢
 have hc:([32,10]:List UInt8).contains b=true:=by rcases hb with rfl | rfl<;>rfl
 rw[List.dropWhile_cons,hc];exact this
theorem qsM {l:List UInt8} {s:ByteArray} (h:St l s) (r:Rules) (x:TRec):qS (rd r s x)=some (rd r (mkB l) x,()):=by
 unfold qS;rw[trim_eq,h.2];rfl
theorem strAt_mk (c:UInt8) (l:List UInt8):strAt (mkB (c::l)) 0=some c:=by
 unfold strAt;rfl
theorem got_no {l:List UInt8} {s:ByteArray} (h:St l s) {c:Int} (hc:∀b,l.head?=some b→¬((b.toNat:Nat):Int)=c) (r:Rules) (x:TRec):qab (rd r s x) c=some (rd r (mkB l) x,false):=by
 unfold qab;show Option.bind (qS (rd r s x)) _=_;rw[qsM h,Option.bind_some]
 have e0:(ByteArray.mk #[]).toList=[]:=by rw[ByteArray.toList_eq]
 show Option.bind (gopt (!((mkB l).toList==(ByteArray.mk #[]).toList)) 0 (strAt (mkB l) (0:Int))) _=_;rw[e0]
 cases l with
 | nil =>
  simp only[qct];rfl
 | cons b l =>
  rw[strAt_mk];have h2:=hc b rfl
  have h1:((mkB (b::l)).toList==([]:List UInt8))=false:=by rw[qct];rfl
  simp only[h1,Bool.not_false,gopt,cond_true,Option.bind_some,Bool.false_or];have h3:((((b.toNat:Nat):Int)!=c):Bool)=true:=bne_t h2;rw[h3];rfl
theorem qqZ {l:List UInt8} {s:ByteArray} (h:St l s) (hc:∀b,l.head?=some b→¬b=123) (r:Rules) (x:TRec):qF (rd r s x)=some (rd r (mkB l) x,ByteArray.mk #[]):=by
 unfold qF;show Option.bind (qab (rd r s x) 123) _=_
 rw[got_no h (fun b hb e=>hc b hb (by
  have:b.toNat=123:=by omega
  exact UInt8.toNat_inj.1 this))]
 rfl
def stops:List UInt8:=[32,10,40,41,123,125]
theorem qrA:∀(W:List UInt8) (b:UInt8) (l:List UInt8),(∀c∈W,stops.contains c=false)→stops.contains b=true→Go.Lib.indexAny (W++b::l) stops=((W.length:Nat):Int)
 | [],b,l,_,hb=>by
  show(if stops.contains b then(0:Int) else _)=_;rw[if_pos hb];rfl
 | c::W,b,l,hW,hb=>by
  have ih:=qrA W b l (fun d hd=>hW d (List.mem_cons_of_mem _ hd)) hb;have hc:=hW c List.mem_cons_self;show(if stops.contains c then(0:Int) else if Go.Lib.indexAny (W++b::l) stops == -1 then -1 else Go.Lib.indexAny (W++b::l) stops+1)=_;rw[ih,if_neg (by rw[hc];simp),if_neg (by simp),List.length_cons];omega
theorem qxB (a b:List UInt8):(mkB (a++b)).extract 0 a.length=mkB a:=by
 refine qt4 ?_;simp[bl,mkB,ByteArray.data_extract]
theorem mk_drop (a b:List UInt8) (n:Nat) (hn:n=a.length+b.length):(mkB (a++b)).extract a.length n=mkB b:=by
 refine qt4 ?_;subst hn;simp[bl,mkB,ByteArray.data_extract]
theorem qr5 {W:List UInt8} {b:UInt8} {l:List UInt8} {s:ByteArray} (h:St (W++b::l) s) (hW:∀c∈W,stops.contains c=false) (hb:stops.contains b=true) (ha:∀c∈W++b::l,c.toNat<128) (hn:(W++b::l).length≤100000) (r:Rules) (x:TRec) :
  qQ (rd r s x)=some (rd r (mkB (W++b::l)) x,mkB W):=by
 unfold qQ;show Option.bind (qS (rd r s x)) _=_;rw[qsM h,Option.bind_some];have hi:qhg (mkB (W++b::l)) (ByteArray.mk #[32,10,40,41,123,125])=some ((W.length:Nat):Int):=by
  unfold qhg
  have a1:Nat.ble (mkB (W++b::l)).size 4294967280=true:=by rw[qeu];exact Nat.ble_eq_true_of_le (by omega)
  have a2:((mkB (W++b::l)).data.toList.all fun b=>decide (b.toNat<128))=true:=List.all_eq_true.2 fun c hc=>decide_eq_true (ha c (by simpa[mkB] using hc));rw[a1,a2];show some (Go.Lib.indexAny (mkB (W++b::l)).data.toList stops)=_;rw[show(mkB (W++b::l)).data.toList=W++b::l from bl_mk _,qrA W b l hW hb]
 show Option.bind (qhg (mkB (W++b::l)) _) _=_;rw[hi,Option.bind_some,decide_eq_false (by omega),cond_false,Option.bind_some];have hbd:qk (0:Int) ((W.length:Nat):Int) (mkB (W++b::l)).size=true:=by
  rw[qeu];simp[qk];omega
 show req (qk (0:Int) ((W.length:Nat):Int) (mkB (W++b::l)).size) _=_;rw[hbd,qc];show some (rd r (mkB (W++b::l)) x,(mkB (W++b::l)).extract 0 (((W.length:Nat):Int)).toNat)=_;rw[Int.toNat_natCast,qxB]

theorem qtf {a b:ByteArray} (h:a.data.toList=b.data.toList):a=b:=by
 obtain⟨⟨l⟩⟩:=a;obtain⟨⟨k⟩⟩:=b;simp only at h;rw[h]
theorem qml (a b:ByteArray):(a++b).data.toList=a.data.toList++b.data.toList:=by simp[ByteArray.data_append]
theorem qgN (a:ByteArray):a.size=a.data.toList.length:=by
 rw[Array.length_toList];rfl
theorem bt_cut (s:ByteArray) (a b:Nat):(s.extract a b).data.toList=(s.data.toList.take b).drop a:=by
 rw[ByteArray.data_extract,Array.toList_extract];rw[List.extract_eq_take_drop,List.drop_take]
def oneT (c:UInt8):ByteArray:=ByteArray.mk #[c]
def joinB (c:UInt8) (l:List ByteArray):ByteArray:=⟨(Go.Lib.join (l.map (·.data.toList)) [c]).toArray⟩
theorem qo6 (c:UInt8):joinB c []=ByteArray.mk #[]:=rfl
theorem qiV (c:UInt8) (x:ByteArray):joinB c [x]=x:=qtf (by
 show Go.Lib.join [x.data.toList] [c]=_
 exact Go.Lib.join_one _ _)
theorem qhr (c:UInt8) (x y:ByteArray) (l:List ByteArray):joinB c (x::y::l)=(x++oneT c)++joinB c (y::l):=qtf (by
 rw[qml,qml];show Go.Lib.join (x.data.toList::y.data.toList::l.map (·.data.toList)) [c]=(x.data.toList++[c])++Go.Lib.join (y.data.toList::l.map (·.data.toList)) [c]
 simp[Go.Lib.join,List.intercalate,List.intersperse])
theorem qnx (c:UInt8) (m:Nat):∀l:List ByteArray,(∀x∈l,x.size≤m)→(joinB c l).size≤l.length*(m+1)
 | [],_=>by rw[qo6];exact Nat.zero_le _
 | [x],h=>by rw[qiV];have:=h x (by simp);simp;omega
 | x::y::l,h=>by
  have ih:=qnx c m (y::l) (fun z hz=>h z (List.mem_cons_of_mem _ hz));have:=h x (by simp);rw[qhr,qgN,qml,qml,List.length_append,List.length_append,←qgN,←qgN];have:(oneT c).size=1:=rfl;rw[this,←qgN];simp only[List.length_cons,Nat.add_mul] at ih ⊢;omega
theorem qnF (c:UInt8) (l:List ByteArray) (h1:l.length≤140737488355328) (h2:(joinB c l).size≤140737488355328):joinS l (ByteArray.mk #[c])=some (joinB c l):=by
 unfold joinS
 have e:(Go.Lib.join (l.map (·.data.toList)) (ByteArray.mk #[c]).data.toList).length=(joinB c l).size:=by rw[qgN];rfl
 rw[e,Nat.ble_eq_true_of_le h1,Nat.ble_eq_true_of_le h2];rfl
theorem ib_none (c:UInt8):∀l:List UInt8,c∉l→Go.Lib.indexByte l c = -1
 | [],_=>rfl
 | b::l,h=>by
  have hb:(b==c)=false:=by rw[beq_eq_false_iff_ne];exact fun e=>h (by simp[e])
  unfold Go.Lib.indexByte;rw[hb,ib_none c l (fun e=>h (List.mem_cons_of_mem _ e))];rfl
theorem qwl (c:UInt8) (r:List UInt8):∀l:List UInt8,c∉l→Go.Lib.indexByte (l++c::r) c=l.length
 | [],_=>by simp[Go.Lib.indexByte]
 | b::l,h=>by
  have hb:(b==c)=false:=by rw[beq_eq_false_iff_ne];exact fun e=>h (by simp[e])
  rw[List.cons_append];unfold Go.Lib.indexByte;rw[hb,qwl c r l (fun e=>h (List.mem_cons_of_mem _ e))]
  have:((l.length:Int) == -1)=false:=by rw[beq_eq_false_iff_ne];omega
  rw[this,if_neg (by decide),if_neg (by decide),List.length_cons];omega
theorem qrf (s:ByteArray) (c:UInt8):Go.Lib.indexB s (oneT c)=Go.Lib.indexByte s.data.toList c:=Go.Lib.index_one s.data.toList c
theorem qrH (c:UInt8):∀l:List ByteArray,l≠[]→(∀x∈l,c∉x.data.toList)→Go.Lib.countB (joinB c l) (oneT c)=l.length-1∧Go.Lib.splitB (oneT c) 0 (l.length-1) (joinB c l)=l
 | [],h,_=>absurd rfl h
 | [x],_,h=>by
  rw[qiV];exact⟨Go.Lib.countB_miss _ _ (by rw[qrf];exact ib_none c _ (h x (by simp))),rfl⟩
 | x::y::l,_,h=>by
  have ih:=qrH c (y::l) (by simp) (fun z hz=>h z (List.mem_cons_of_mem _ hz));have hs:(joinB c (x::y::l)).data.toList=x.data.toList++c::(joinB c (y::l)).data.toList:=by
   rw[qhr,qml,qml];simp[oneT]
  have hi:Go.Lib.indexB (joinB c (x::y::l)) (oneT c)=(x.data.toList.length:Nat):=by
   rw[qrf,hs];exact qwl c _ _ (h x (by simp))
  have hrest:(joinB c (x::y::l)).extract (x.data.toList.length+(oneT c).size) (joinB c (x::y::l)).size=joinB c (y::l):=qtf (by
   rw[bt_cut,List.take_of_length_le (by rw[qgN];exact Nat.le_refl _),hs];show List.drop (x.data.toList.length+1) _=_;rw[←List.drop_drop,List.drop_left]
   rfl)
  have hfst:(joinB c (x::y::l)).extract 0 (x.data.toList.length+0)=x:=qtf (by
   rw[bt_cut,hs,Nat.add_zero,List.drop_zero,List.take_left])
  constructor
  ·rw[Go.Lib.countB_hit _ (oneT c) _ (show 1≤(oneT c).size from Nat.le_refl 1) hi,hrest,ih.1];simp only[List.length_cons];omega
  ·have hl:(x::y::l).length-1=((y::l).length-1)+1:=by simp only[List.length_cons];omega
   rw[hl,Go.Lib.splitB_hit _ _ _ _ _ hi,hrest,hfst,ih.2]
theorem qva (c:UInt8) (l:List ByteArray) (h0:l≠[]) (h1:(joinB c l).size≤4294967280) (h:∀x∈l,c∉x.data.toList):qq2 (joinB c l) (ByteArray.mk #[c])=some l:=by
 have:=qrH c l h0 h;unfold qq2;rw[Nat.ble_eq_true_of_le h1];show some (Go.Lib.splitB (oneT c) 0 (Go.Lib.countB (joinB c l) (oneT c)) (joinB c l))=some l;rw[this.1,this.2]

theorem qpj {n:Int} (h:49≤n∧n≤120):¬by8 n=32:=fun e=>by
 have:n=32:=qfI (by omega) (by omega) (e.trans (by decide:(32:UInt8)=by8 32));omega
theorem sq_no {r:Rules} {n:Int} (hb:OnB r n):(32:UInt8)∉bl (sqT r n):=by
 rw[bl_sq];have hc:=hb.c;have hd:=hb.d;intro h;rcases List.mem_cons.1 h with e | h
 ·exact qpj (by omega) e.symm
 ·rw[List.mem_singleton] at h;exact qpj (by omega) h.symm
theorem mark_no {r:Rules} {p:Place} {m:Mv} (hb:OnB r m.1):(32:UInt8)∉bl (markT r p m):=by
 have hc:=hb.c;have hd:=hb.d;unfold markT;split
 ·intro h;cases h
 ·split
  ·intro h;have:bl (colT (m.1.tmod r.width))=[by8 (97+m.1.tmod r.width)]:=rfl;rw[this,List.mem_singleton] at h;exact qpj (by omega) h.symm
  ·split
   ·intro h;have:bl (rowT (m.1.tdiv r.width))=[by8 (49+m.1.tdiv r.width)]:=rfl;rw[this,List.mem_singleton] at h;exact qpj (by omega) h.symm
   ·exact sq_no hb
theorem move_no {r:Rules} {p:Place} {m:Mv} (hl:Lets r) (h:Valid r p) (ha:ql r p m=true):(32:UInt8)∉(moveT r p m).data.toList:=by
 show(32:UInt8)∉bl (moveT r p m);have hrg:=qU ha;have hto:=qcf h (n:=m.2.1) hrg.2.1.1 hrg.2.1.2;unfold moveT;split
 ·have hq:=hl.rng _ hrg.2.2.1 hrg.2.2.2;rw[qb4,qb4,qcZ hl hrg.2.2.1 hrg.2.2.2];intro e;rcases List.mem_append.1 e with e | e
  ·rcases List.mem_append.1 e with e | e
   ·rw[List.mem_singleton] at e;exact qpj (by omega) e.symm
   ·have:bl atT=[64]:=rfl;rw[this,List.mem_singleton] at e;exact absurd e (by decide)
  ·exact sq_no hto e
 ·rename_i hm;obtain⟨hc,hc2⟩:=qcP ha hm;obtain⟨k1,k2,k3⟩:=qdd h hc;have hq:=hl.rng _ k2 k3;have hq2:=hl.rng _ hrg.2.2.1 hrg.2.2.2;have hfr:=qcf h (n:=m.1) (by omega) hrg.1.2;rw[bl_go hl h ha hm];unfold goB;intro e;rcases List.mem_cons.1 e with e | e
  ·exact qpj (by omega) e.symm
  ·rcases List.mem_append.1 e with e | e
   ·rcases List.mem_append.1 e with e | e
    ·rcases List.mem_append.1 e with e | e
     ·exact mark_no hfr e
     ·unfold xB at e;split at e
      ·cases e
      ·rw[List.mem_singleton] at e;exact absurd e (by decide)
    ·exact sq_no hto e
   ·unfold qB at e;split at e
    ·cases e
    ·rcases List.mem_cons.1 e with e | e
     ·exact absurd e (by decide)
     ·rw[List.mem_singleton] at e;exact qpj (by omega) e.symm
theorem qp3 (r:Rules) (p:Place) (m:Mv):(moveT r p m).size≤20:=by
 have l1:=qfL r m.2.2.1;have l2:=qfL r (qJ (cellI p m.1));have l3:=qs9 r p m;have l4:=qve r m.2.1;have l5:atT.size=1:=rfl;have l6:xT.size=1:=rfl;have l7:eqT.size=1:=rfl;unfold moveT goT;split
 ·simp only[ByteArray.size_append];omega
 ·cases (m.2.2.1 !=qJ (cellI p m.1))<;>cases (cellI p m.2.1 !=0)<;>simp only[cond_true,cond_false,ByteArray.size_append]<;>omega
def qrK (r:Rules) (L:List Place) (k:List Mv) (i:Nat):ByteArray:=moveT r (getD' L i dP) (getD' k i d0)
def qal (r:Rules) (L:List Place) (k:List Mv):List ByteArray:=(List.range k.length).map (qrK r L k)
theorem qa6 (r:Rules) (L:List Place) (k:List Mv):(qal r L k).length=k.length:=by simp[qal]
theorem qxa (r:Rules) (L:List Place) (k:List Mv) (i:Nat) (hi:i<k.length):(qal r L k).take (i+1)=(qal r L k).take i++[qrK r L k i]:=by
 rw[List.take_succ_eq_append_getElem (by rw[qa6];exact hi)];congr 1;simp[qal]
theorem qrq (r:Rules) (L:List Place) (k:List Mv) (i:Nat):(joinB 32 ((qal r L k).take i)).size≤k.length*21:=by
 have h:=qnx 32 20 ((qal r L k).take i) (fun x hx=>by
  obtain⟨j,_,rfl⟩:=List.mem_map.1 (List.mem_of_mem_take hx)
  exact qp3 _ _ _)
 rw[List.length_take,qa6] at h;exact Nat.le_trans h (Nat.mul_le_mul_right _ (Nat.min_le_right _ _))
theorem err_neL {r:Rules}:∀(k:List Mv) (s:List Place×List Mv) (e:Int),runG r k s = .inr e→¬e=0:=by
 intro k
 induction k with
 | nil=>intro s e h;cases h
 | cons m k ih =>
  intro s e h;unfold runG at h;split at h
  ·exact ih _ _ h
  ·rename_i c;cases h;exact c
structure Played (r:Rules) (k:List Mv) (L:List Place):Prop where
 ok:qz r=0
 len:L.length=k.length+1
 val:∀p∈L,Valid r p
 fst:getD' L 0 dP=qn r
 nxt:∀i (hi:i<k.length),getD' L (i+1) dP=qT r (getD' L i dP) k[i]∧ql r (getD' L i dP) k[i]=true
theorem qtB {r:Rules} {k:List Mv} {s:List Place×List Mv} (c:qz r=0) (h:qgD r k = .inl s):Played r k s.1∧OKG r s∧s.2=k:=by
 obtain⟨hok,h2⟩:=qtb k _ _ (qeb c) h;obtain⟨p1,p2⟩:=qr1 k _ _ h;have hs:=qwC k _ _ (by simp) h;rw[List.nil_append] at h2;refine⟨⟨c,by rw[p1];simp;omega,hok.all,?_,fun i hi=>?_⟩,hok,h2⟩
 ·rw[p2 0 (by simp)];rfl
 ·have:=hs i hi;simp only[List.length_singleton] at this;rw[show 1+i-1=i by omega,show 1+i=i+1 by omega] at this;exact this
theorem Played.at {r:Rules} {k:List Mv} {L:List Place} (h:Played r k L) {i:Nat} (hi:i≤k.length):Valid r (getD' L i dP):=by
 have:=h.len;rw[gd_eq L i (by omega)];exact h.val _ (List.getElem_mem _)
theorem qxm (r:Rules) (k:List Mv) (hr:Rng qae r) (hk:k.length≤40):qfV r k=some (if qz r=0 then(match qgD r k with
  | .inl s=>(joinB 32 (qal r s.1 k),(0,()))
  | .inr e=>(e0,(e,()))) else(e0,(qz r,()))):=by
 have hL:=qjY hr;unfold qfV;rw[qmP r k hr (by omega),Option.bind_some];unfold qi3;by_cases c:qz r=0
 ·simp only[if_pos c]
  cases hg:qgD r k with
  | inr e =>
   simp only;rw[bne_t (err_neL k _ e hg),cond_true];rfl
  | inl s =>
   obtain⟨hp,hok,h2⟩:=qtB c hg;simp only;rw[bne_self_eq_false,cond_false,qe5 r hr,Option.bind_some,if_pos c]
   have hI:=qaq (f:=qb7 k r) k.length (fun i=>(((qal r s.1 k).take i,(i:Int),()),(flp (getD' s.1 i dP),()))) ((qal r s.1 k,()),(flp (getD' s.1 k.length dP),())) (fun i hi=>by
    have hv:=hp.at (i:=i) (by omega);have hn:=hp.nxt i hi;have hgd:getD' k i d0=k[i]:=gd_eq k i hi d0;unfold qb7;simp only[ltd k i hi,cond_true];rw[at?_eq k _ (by omega) (by omega),Option.bind_some];simp only[Int.toNat_natCast];change (Option.bind (qaj r (getD' s.1 i dP)) fun r8=>Option.bind (qcg r (getD' s.1 i dP) r8 k[i]) fun r9=>req (room (((qal r s.1 k).take i).length+[r9].length) 16) (Option.bind (qr r (getD' s.1 i dP) k[i]) fun r10=>some (Sum.inl ((((qal r s.1 k).take i)++[r9],(w64 ((i:Int)+1),())),((r10.1,(r10.2.1.1,(r10.2.1.2.1,r10.2.2))),())))))=_
    rw[qhf hv,Option.bind_some,quR hL hv hn.2,Option.bind_some,qO (by rw[List.length_take,qa6];simp only[List.length_singleton];omega),qc,ql0 hv hn.2,Option.bind_some,qf (by omega) (by omega),qxa r s.1 k i hi];unfold qrK;rw[hgd,hn.1]
    rfl) (by
    unfold qb7;simp only[nltd,cond_false];rw[List.take_of_length_le (by rw[qa6];exact Nat.le_refl _)]
    try rfl)
   have hI':iterW (qb7 k r) ((([]:List ByteArray),(0:Int),()),(((qn r).1,((qn r).2.1.1,((qn r).2.1.2.1,(qn r).2.2))),()))=some ((qal r s.1 k,()),(flp (getD' s.1 k.length dP),())):=by
    have:flp (getD' s.1 0 dP)=((qn r).1,((qn r).2.1.1,((qn r).2.1.2.1,(qn r).2.2))):=by rw[hp.fst];rfl
    rw[←this];exact hI
   rw[hI',Option.bind_some];have hsz:=qrq r s.1 k k.length;rw[List.take_of_length_le (by rw[qa6];exact Nat.le_refl _)] at hsz;rw[qnF 32 (qal r s.1 k) (by rw[qa6];omega) (by omega),Option.bind_some]
 ·simp only[if_neg c];rw[bne_t c,cond_true];rfl
theorem quD {r:Rules} {s:List Place×List Mv} (h:OKG r s):qG (r,(s.1,(s.2,())))=some s.2:=by
 have hm:=h.most;have hc:qaN s.2=some s.2:=by
  unfold qaN
  cases hs:s.2 with
  | nil =>
   rw[show(([]:List Mv).isEmpty)=true from rfl,cond_true,qO (by simp),qc];exact agree_self _
  | cons m l =>
   rw[hs] at hm;rw[show(m::l).isEmpty=false from rfl,cond_false,qO (by simp at hm ⊢;omega),qc,List.nil_append]
 unfold qG;simp only[hc,Option.bind_some]
theorem qtj {r:Rules} {p:Place} {m:Mv} (hl:Lets r) (h:Valid r p) (ha:ql r p m=true):qvD r p (moveT r p m)=(m,(0,())):=by
 unfold qvD;have:(qaA r p).find? (fun x=>(moveT r p x).toList==(moveT r p m).toList)=some m:=by
  have hmem:=(qbn m).2 ha
  cases hf:(qaA r p).find? (fun x=>(moveT r p x).toList==(moveT r p m).toList) with
  | none =>
   have:=List.find?_eq_none.1 hf m hmem;simp at this
  | some x =>
   have h1:=List.find?_some hf;have h2:=(qbn x).1 (List.mem_of_find?_eq_some hf);simp only[qt9,decide_eq_true_eq] at h1;rw[text_inj hl h h2 ha h1]
 rw[this]
theorem qtO {r:Rules} {k:List Mv} {L:List Place} (hr:Rng qae r) (hp:Played r k L) (hk:k.length≤40) (hsr:∀T:List ByteArray,T=qal r L k→T.length=k.length):∀(n i:Nat) (s s':List Place×List Mv),i+n=k.length→OKG r s→s.1.length=i+1→runG r (k.drop i) s = .inl s'→s'.1=L →
  iterW (qam (qal r L k) r) (((i:Int),()),(flG (gm r s),()))=some (.inl ((),(flG (gm r s'),())))
 | 0,i,s,s',hi,h,hl,hg,hL=>by
  have:i=k.length:=by omega
  subst this;rw[List.drop_length] at hg;have:s=s':=Sum.inl.inj hg;subst this;refine qi ?_;unfold qam;simp only;rw[decide_eq_false (by rw[qa6];omega),cond_false]
 | n+1,i,s,s',hi,h,hl,hg,hL=>by
  have hik:i<k.length:=by omega
  have hm:=h.most;have hlL:=hp.len;rw[List.drop_eq_getElem_cons hik] at hg;unfold runG at hg;split at hg
  case isFalse=>cases hg
  rename_i c;obtain⟨c1,c2⟩:=qwq c;have hn:=qpr h c;have hlast:lastP s.1=getD' L i dP:=by
   obtain⟨_,b⟩:=qr1 _ _ _ hg;have hnl:(nextG r s k[i]).1=s.1++[qT r (lastP s.1) k[i]]:=rfl;have:=b i (by rw[hnl,List.length_append];omega);rw[hL,hnl,qu6 _ _ _ (by omega)] at this;rw[this];unfold lastP;rw[hl];rfl
  have hv:=h.last;have htx:(qal r L k)[i]'(by rw[qa6];exact hik)=moveT r (lastP s.1) k[i]:=by
   simp only[qal,List.getElem_map,List.getElem_range,qrK];rw[hlast,gd_eq k i hik]
  have hF:qam (qal r L k) r (((i:Int),()),(flG (gm r s),()))=some (.inl ((((i+1:Nat):Int),()),(flG (gm r (nextG r s k[i])),()))):=by
   unfold qam;simp only[agree_self];rw[decide_eq_true (show(i:Int)<(((qal r L k).length:Nat):Int) by rw[qa6];omega),cond_true,at?_eq _ _ (by omega) (by rw[qa6];omega),Option.bind_some];simp only[Int.toNat_natCast];rw[htx]
   change (Option.bind (qP (r,(s.1,(s.2,())))) fun r17=>bif (r17 !=0) then some (Sum.inr (Sum.inr (([]:List Mv),((14:Int),())))) else Option.bind (Option.bind (qm (r,(s.1,(s.2,())))) fun r18=>Option.bind (qbd r (r18.1,((r18.2.1.1,(r18.2.1.2.1,())),r18.2.2)) (moveT r (lastP s.1) k[i])) fun r19=>some ((r19.1,(r19.2.1,())),())) fun x22=>bif (x22.1.2.1 !=0) then some (Sum.inr (Sum.inr (([]:List Mv),(x22.1.2.1,())))) else Option.bind (qaU (r,(s.1,(s.2,()))) x22.1.1) fun r23=>bif (r23.2 !=0) then some (Sum.inr (Sum.inr (([]:List Mv),(r23.2,())))) else some (Sum.inl (((w64 ((i:Int)+1),()),(flG r23.1,())))))=_;rw[qea h,Option.bind_some,c1,bne_self_eq_false,cond_false,qcx h,Option.bind_some];simp only[pl_eta];have hpe:=qsB hp.ok hv
   rw[qum r (lastP s.1) _ (qjY hr) hr (by have:=hv.cells;have h2:=hv.r0.area;have h3:(((lastP s.1).1.length:Nat):Int)=r.width*r.height:=this;omega),if_pos hpe,qtj (qp4 hp.ok) hv c2,Option.bind_some,Option.bind_some];simp only;rw[bne_self_eq_false,cond_false,qo1 h,if_pos c,Option.bind_some];simp only;rw[bne_self_eq_false,cond_false,qf (by omega) (by omega)];rfl
  rw[qx hF];exact qtO hr hp hk hsr n (i+1) (nextG r s k[i]) s' (by omega) hn (by show(s.1++[_]).length=_;simp;omega) hg hL
theorem qsT {r:Rules} {k:List Mv} {s:List Place×List Mv} (hr:Rng qae r) (hk:k.length≤40) (c:qz r=0) (hg:qgD r k = .inl s):qbs r (joinB 32 (qal r s.1 k))=some (k,(0,())):=by
 obtain⟨hp,hok,h2⟩:=qtB c hg;have hsz:=qrq r s.1 k k.length;rw[List.take_of_length_le (by rw[qa6];exact Nat.le_refl _)] at hsz;unfold qbs;rw[qe5 r hr,Option.bind_some];simp only[if_pos c];rw[show((0:Int)!=0)=false from rfl,cond_false];simp only[agree_self];rw[qjJ (qbg c),Option.bind_some,Option.bind_some];simp only;rw[bne_self_eq_false,cond_false,decide_eq_false (show ¬((((joinB 32 (qal r s.1 k)).size:Nat):Int)>8192) by omega),cond_false,qt9];by_cases h0:k=[]
 ·subst h0;rw[show qal r s.1 []=[] from rfl,qo6,decide_eq_true rfl,cond_true]
 ·have hT0:qal r s.1 k≠[]:=fun e=>h0 (List.eq_nil_of_length_eq_zero (by rw[←qa6 r s.1 k,e];rfl));by_cases he:joinB 32 (qal r s.1 k)=ByteArray.mk #[]
  ·exfalso;have hpos:0<k.length:=List.length_pos_iff.2 h0;have hT:∀l:List ByteArray,l≠[]→(∀x∈l,0<x.size)→0<(joinB 32 l).size:=by
    intro l hl hx
    cases l with
    | nil=>exact absurd rfl hl
    | cons x l =>
     have:=hx x (by simp)
     cases l with
     | nil=>rw[qiV];exact this
     | cons y l=>rw[qhr,ByteArray.size_append,ByteArray.size_append];omega
   have:=hT _ hT0 (fun x hx=>by
    obtain⟨j,_,rfl⟩:=List.mem_map.1 hx;unfold qrK moveT goT;have:=qve r (getD' k j d0).2.1;split
    ·simp only[ByteArray.size_append];omega
    ·cases ((getD' k j d0).2.2.1 !=qJ (cellI (getD' s.1 j dP) (getD' k j d0).1))<;>cases (cellI (getD' s.1 j dP) (getD' k j d0).2.1 !=0)<;>simp only[cond_true,cond_false,ByteArray.size_append]<;>omega)
   rw[he] at this;exact absurd this (by decide)
  ·rw[decide_eq_false he,cond_false,qva 32 _ hT0 (by omega) (fun x hx=>by
    obtain⟨j,hj,rfl⟩:=List.mem_map.1 hx
    have hj':j<k.length:=by simpa using hj
    unfold qrK;rw[gd_eq k j hj']
    exact move_no (qp4 c) (hp.at (by omega)) (hp.nxt j hj').2),Option.bind_some]
   have hI:=qtO hr hp hk (fun T hT=>by rw[hT,qa6]) k.length 0 ([qn r],[]) s (by omega) (qeb c) rfl (by rw[List.drop_zero];exact hg) rfl;have hI':iterW (qam (qal r s.1 k) r) (((0:Int),()),((r.1,(r.2.1,(r.2.2.1,(r.2.2.2.1,(r.2.2.2.2.1,(r.2.2.2.2.2.1,(r.2.2.2.2.2.2.1,(r.2.2.2.2.2.2.2.1,(r.2.2.2.2.2.2.2.2.1,(r.2.2.2.2.2.2.2.2.2.1,(r.2.2.2.2.2.2.2.2.2.2.1,([((qn r).1,(((qn r).2.1.1,((qn r).2.1.2.1,())),(qn r).2.2))],(([]:List Mv),()))))))))))))),()))=_:=hI;rw[hI',Option.bind_some,Sum.elim_inl];change Option.bind (qG (r,(s.1,(s.2,())))) (fun r25=>some (r25,((0:Int),())))=_;rw[quD hok,Option.bind_some,h2]
theorem at_natL {A:Type} (l:List A) (i:Nat) (hi:i<l.length):at? l (i:Int)=some l[i]:=by
 rw[at?_eq l _ (by omega) (by omega)];simp
def okb (b:UInt8):Prop:=49≤b.toNat∧b.toNat≤122∧¬b.toNat=91
theorem qla {n:Int} (h:49≤n∧n≤122∧¬n=91):okb (by8 n):=by
 unfold okb by8;have:(UInt8.ofNat n.toNat).toNat=n.toNat:=by
  rw[UInt8.toNat_ofNat'];exact Nat.mod_eq_of_lt (by omega)
 omega
theorem qvS {b:UInt8} (h:okb b):stops.contains b=false:=by
 refine Bool.eq_false_iff.2 fun e=>?_
 have e:b∈stops:=by simpa using e
 obtain⟨h1,h2,h3⟩:=h;unfold stops at e;simp only[List.mem_cons,List.not_mem_nil,or_false] at e
 rcases e with rfl | rfl | rfl | rfl | rfl | rfl<;>simp at h1 h2
theorem sq_ok {r:Rules} {n:Int} (hb:OnB r n):∀b∈bl (sqT r n),okb b:=by
 rw[bl_sq];have hc:=hb.c;have hd:=hb.d;intro b h;rcases List.mem_cons.1 h with rfl | h
 ·exact qla (by omega)
 ·rw[List.mem_singleton] at h;subst h;exact qla (by omega)
theorem mark_ok {r:Rules} {p:Place} {m:Mv} (hb:OnB r m.1):∀b∈bl (markT r p m),okb b:=by
 have hc:=hb.c;have hd:=hb.d;unfold markT;split
 ·intro b h;cases h
 ·split
  ·intro b h;have:bl (colT (m.1.tmod r.width))=[by8 (97+m.1.tmod r.width)]:=rfl;rw[this,List.mem_singleton] at h;subst h;exact qla (by omega)
  ·split
   ·intro b h;have:bl (rowT (m.1.tdiv r.width))=[by8 (49+m.1.tdiv r.width)]:=rfl;rw[this,List.mem_singleton] at h;subst h;exact qla (by omega)
   ·exact sq_ok hb
theorem qnr {r:Rules} {p:Place} {m:Mv} (hl:Lets r) (h:Valid r p) (ha:ql r p m=true):∃L t,bl (moveT r p m)=L::t∧65≤L.toNat∧∀b∈L::t,okb b:=by
 have hrg:=qU ha;have hto:=qcf h (n:=m.2.1) hrg.2.1.1 hrg.2.1.2;have b8:∀n:Int,65≤n∧n≤122→65≤(by8 n).toNat:=fun n hn=>by
  unfold by8;have:(UInt8.ofNat n.toNat).toNat=n.toNat:=by
   rw[UInt8.toNat_ofNat'];exact Nat.mod_eq_of_lt (by omega)
  omega
 unfold moveT;split
 ·have hq:=hl.rng _ hrg.2.2.1 hrg.2.2.2;rw[qb4,qb4,qcZ hl hrg.2.2.1 hrg.2.2.2];refine⟨_,_,rfl,b8 _ (by omega),?_⟩;intro b e;rcases List.mem_cons.1 e with rfl | e
  ·exact qla (by omega)
  ·rcases List.mem_append.1 e with e | e
   ·have:bl atT=[64]:=rfl;have e:b∈bl atT:=e;rw[this,List.mem_singleton] at e;subst e;exact⟨by decide,by decide,by decide⟩
   ·exact sq_ok hto b e
 ·rename_i hm;obtain⟨hc,hc2⟩:=qcP ha hm;obtain⟨k1,k2,k3⟩:=qdd h hc;have hq:=hl.rng _ k2 k3;have hq2:=hl.rng _ hrg.2.2.1 hrg.2.2.2;have hfr:=qcf h (n:=m.1) (by omega) hrg.1.2;rw[bl_go hl h ha hm];unfold goB;refine⟨_,_,rfl,b8 _ (by omega),?_⟩;intro b e;rcases List.mem_cons.1 e with rfl | e
  ·exact qla (by omega)
  ·rcases List.mem_append.1 e with e | e
   ·rcases List.mem_append.1 e with e | e
    ·rcases List.mem_append.1 e with e | e
     ·exact mark_ok hfr b e
     ·unfold xB at e;split at e
      ·cases e
      ·rw[List.mem_singleton] at e;subst e;exact⟨by decide,by decide,by decide⟩
    ·exact sq_ok hto b e
   ·unfold qB at e;split at e
    ·cases e
    ·rcases List.mem_cons.1 e with rfl | e
     ·exact⟨by decide,by decide,by decide⟩
     ·rw[List.mem_singleton] at e;subst e;exact qla (by omega)
theorem qnt:(ByteArray.mk #[]).toList=[]:=by rw[ByteArray.toList_eq]
theorem move_eq {r:Rules} {p:Place} {m:Mv} (hr:Rng qae r) (c:qz r=0) (h:Valid r p) (ha:ql r p m=true) (h0:qan r p=0) {l:List UInt8} {s:ByteArray} (hs:St (bl (moveT r p m)++32::l) s) (hl:NB l) (hl2:∀b,l.head?=some b→¬b=123)
  (hasc:∀b∈l,b.toNat<128) (hn:l.length≤10000) (x:TRec) (ns:qrr) :
  qaO (rd r s x) ns p=some (rd r (mkB l) x,addP ns (m,(ByteArray.mk #[],())),ns.length+1):=by
 have hls:=qp4 c;obtain⟨L,t,e1,e2,e3⟩:=qnr hls h ha;have hsz:=qp3 r p m
 have hlen:(bl (moveT r p m)).length=(moveT r p m).size:=by unfold bl;rw[Array.length_toList];rfl
 have hasc':∀b∈bl (moveT r p m)++32::l,b.toNat<128:=fun b hb=>by
  rcases List.mem_append.1 hb with hb | hb
  ·rw[e1] at hb;have:=(e3 b hb).2.1;omega
  ·rcases List.mem_cons.1 hb with rfl | hb
   ·decide
   ·exact hasc b hb
 unfold qaO;show Option.bind (qQ (rd r s x)) _=_;rw[qr5 hs (fun b hb=>qvS (e3 b (by rw[←e1];exact hb))) rfl hasc' (by simp[hlen];omega),Option.bind_some];have hw:mkB (bl (moveT r p m))=moveT r p m:=mk_bl _;have h1:((mkB (bl (moveT r p m))).toList==(ByteArray.mk #[]).toList)=false:=by
  rw[qct,qnt,e1];rfl
 simp only[h1,cond_false,agree_self];rw[qlo h,Option.bind_some,h0];simp only[bne_self_eq_false,cond_false];have hpe:=qsB c h;have hread:qbd r p (mkB (bl (moveT r p m)))=some (m,(0,())):=by
  rw[hw,qum r p _ (qjY hr) hr (by have:=h.cells;have h2:=h.r0.area;have h3:((p.1.length:Nat):Int)=r.width*r.height:=this;omega),if_pos hpe,qtj hls h ha]
 rw[hread];simp only[Option.bind_some,bne_self_eq_false,cond_false];have hbd:qk (((mkB (bl (moveT r p m))).size:Nat):Int) (((mkB (bl (moveT r p m)++32::l)).size:Nat):Int) (mkB (bl (moveT r p m)++32::l)).size=true:=by
  simp[qk,qeu];omega
 rw[hbd,qc];have hdrop:(mkB (bl (moveT r p m)++32::l)).extract (((mkB (bl (moveT r p m))).size:Nat):Int).toNat (((mkB (bl (moveT r p m)++32::l)).size:Nat):Int).toNat=mkB (32::l):=by
  rw[Int.toNat_natCast,Int.toNat_natCast,qeu,qeu];exact mk_drop _ _ _ (by simp)
 rw[hdrop];have hcom:=qqZ (St.blank (b:=32) hl (.inl rfl)) hl2 r x;have hcom:qF (r,(mkB (32::l),((x.1,(x.2.1,(x.2.2.1,x.2.2.2))),())))=some (rd r (mkB l) x,ByteArray.mk #[]):=hcom;show Option.bind (Option.bind (qF (r,(mkB (32::l),((x.1,(x.2.1,(x.2.2.1,x.2.2.2))),())))) _) _=_;rw[hcom];rfl
theorem idx_none (s:List ByteArray) (v:ByteArray) (hn:s.length≤1000) (h:∀w∈s,¬v.toList=w.toList):qI s v=some (-1):=by
 unfold qI
 have:=qaq (f:=qC s v) s.length (fun i=>(((i:Int),()),())) (.inl ((),())) (fun i hi=>by
  unfold qC;rw[decide_eq_true (show(i:Int)<((s.length:Nat):Int) by omega),cond_true,at?_eq s (i:Int) (by omega) (by omega),Option.bind_some];simp only[Int.toNat_natCast];rw[show(v.toList==s[i].toList)=false from beq_f (h _ (List.getElem_mem _)),cond_false,qf (by omega) (by omega)]
  simp only[Int.natCast_add,Int.natCast_one]) (by
  unfold qC
  rw[decide_eq_false (show ¬((s.length:Nat):Int)<((s.length:Nat):Int) by omega),cond_false])
 rw[show iterW (qC s v) (((0:Int),()),())=_ from this];rfl
theorem idx_at (s:List ByteArray) (v:ByteArray) (hn:s.length≤1000) (i:Nat) (hi:i<s.length) (h:v.toList=s[i].toList) (hb:∀j (hj:j<i),¬v.toList=(s[j]'(by omega)).toList):qI s v=some (i:Int):=by
 unfold qI
 have:=qaq (f:=qC s v) i (fun i=>(((i:Int),()),())) (.inr (i:Int)) (fun j hj=>by
  unfold qC;rw[decide_eq_true (show(j:Int)<((s.length:Nat):Int) by omega),cond_true,at?_eq s (j:Int) (by omega) (by omega),Option.bind_some];simp only[Int.toNat_natCast];rw[show(v.toList==s[j].toList)=false from beq_f (hb j hj),cond_false,qf (by omega) (by omega)]
  simp only[Int.natCast_add,Int.natCast_one]) (by
  unfold qC;rw[decide_eq_true (show(i:Int)<((s.length:Nat):Int) by omega),cond_true,at?_eq s (i:Int) (by omega) (by omega),Option.bind_some];simp only[Int.toNat_natCast]
  rw[show(v.toList==s[i].toList)=true from beq_t h,cond_true])
 rw[show iterW (qC s v) (((0:Int),()),())=_ from this];rfl
def resL:List (List UInt8):=[[42],[49,45,48],[48,45,49],[49,47,50]]
abbrev resT:List ByteArray:=[ByteArray.mk #[42],ByteArray.mk #[49,45,48],ByteArray.mk #[48,45,49],ByteArray.mk #[49,47,50]]
theorem resT_eq:resT=resL.map mkB:=rfl
theorem res_move {L:UInt8} {t:List UInt8} (h:65≤L.toNat):qE resT (mkB (L::t))=some false:=by
 unfold qE
 rw[idx_none resT _ (by decide) (fun w hw e=>by
  rw[resT_eq] at hw;obtain⟨q,hq,rfl⟩:=List.mem_map.1 hw;rw[qct,qct] at e;unfold resL at hq;simp only[List.mem_cons,List.not_mem_nil,or_false] at hq
  rcases hq with rfl | rfl | rfl | rfl<;>(injection e with e1 e2;subst e1;simp at h))]
 rfl
theorem resT_at {j:Nat} (hj:j<4):resT[j]'(hj)=mkB (resL.getD j []):=by
 obtain rfl | rfl | rfl | rfl:j=0∨j=1∨j=2∨j=3:=by omega
 all_goals rfl
theorem resL_ne:∀i,i<4→∀j,j<i→¬resL.getD i []=resL.getD j []:=by decide
theorem res_idx {i:Nat} (hi:i<4):qI resT (mkB (resL.getD i []))=some (i:Int) :=
 idx_at resT _ (by decide) i hi (by rw[resT_at hi]) (fun j hj e=>by
  rw[resT_at (show j<4 by omega),qct,qct] at e
  exact resL_ne i hi j hj e)
theorem res_has {i:Nat} (hi:i<4):qE resT (mkB (resL.getD i []))=some true:=by
 unfold qE;rw[res_idx hi,Option.bind_some,decide_eq_true (by omega)]
abbrev flR (r:Rules) (s:ByteArray) (x:TRec):=(r.1,(r.2.1,(r.2.2.1,(r.2.2.2.1,(r.2.2.2.2.1,(r.2.2.2.2.2.1,(r.2.2.2.2.2.2.1,(r.2.2.2.2.2.2.2.1,(r.2.2.2.2.2.2.2.2.1,(r.2.2.2.2.2.2.2.2.2.1,(r.2.2.2.2.2.2.2.2.2.2.1,(s,(x.1,(x.2.1,(x.2.2.1,x.2.2.2)))))))))))))))
theorem alts_none {p:Place} {self:((Rules×ByteArray×TRec×Unit)×Unit×qrr×Place×Unit)→Option ((Rules×ByteArray×TRec×Unit)×qrr×List Nat)} {l:List UInt8} {s:ByteArray} (h:St l s) (hc:∀b,l.head?=some b→¬b=40) (r:Rules) (x:TRec) (ns:qrr) (ks:List Nat) :
  iterW (qV p self) ((ks,()),(flR r s x,ns,()))=some ((ks,()),(flR r (mkB l) x,ns,())):=by
 refine qi ?_;unfold qV;show Option.bind (qab (rd r s x) 40) _=_
 rw[got_no h (fun b hb e=>hc b hb (by
  have:b.toNat=40:=by omega
  exact UInt8.toNat_inj.1 this))]
 rfl
def Plays (r:Rules):Place→List Mv→Prop
 | _,[]=>True
 | p,m::ms=>Valid r p∧ql r p m=true∧qan r p=0∧Plays r (qT r p m) ms
def tl (r:Rules) (R:List UInt8):Place→List Mv→List UInt8
 | _,[]=>R++[10]
 | p,m::ms=>bl (moveT r p m)++32::tl r R (qT r p m) ms
def qbO:List Mv→Nat→qrr
 | [],_=>[]
 | m::ms,n=>((m,(ByteArray.mk #[],())),some (if ms=[] then [] else [n+2]))::qbO ms (n+1)
structure ResB (R:List UInt8):Prop where
 ex:∃i,i<4∧R=resL.getD i []
theorem ResB.facts {R:List UInt8} (h:ResB R):(∃L t,R=L::t∧¬L=32∧¬L=10∧¬L=40∧¬L=123∧¬L=91)∧(∀c∈R,stops.contains c=false)∧(∀c∈R,c.toNat<128)∧R.length≤3:=by
 obtain⟨i,hi,rfl⟩:=h.ex
 obtain rfl | rfl | rfl | rfl:i=0∨i=1∨i=2∨i=3:=by omega
 ·exact⟨⟨42,[],rfl,by decide,by decide,by decide,by decide,by decide⟩,by decide,by decide,by decide⟩
 ·exact⟨⟨49,[45,48],rfl,by decide,by decide,by decide,by decide,by decide⟩,by decide,by decide,by decide⟩
 ·exact⟨⟨48,[45,49],rfl,by decide,by decide,by decide,by decide,by decide⟩,by decide,by decide,by decide⟩
 ·exact⟨⟨49,[47,50],rfl,by decide,by decide,by decide,by decide,by decide⟩,by decide,by decide,by decide⟩
theorem qlZ {r:Rules} (c:qz r=0) {R:List UInt8} (hR:ResB R):∀(ms:List Mv) (p:Place),Plays r p ms →
  (∃L t,tl r R p ms=L::t∧¬L=32∧¬L=10∧¬L=40∧¬L=123∧¬L=91)∧(∀b∈tl r R p ms,b.toNat<128)∧(tl r R p ms).length≤21*ms.length+4
 | [],p,_=>by
  obtain⟨⟨L,t,e,h1,h2,h3,h4,h5⟩,_,h6,h7⟩:=hR.facts;refine⟨⟨L,t++[10],by simp[tl,e],h1,h2,h3,h4,h5⟩,fun b hb=>?_,by simp[tl];omega⟩;rcases List.mem_append.1 hb with hb | hb
  ·exact h6 b hb
  ·simp at hb;subst hb;decide
 | m::ms,p,h=>by
  obtain⟨hv,ha,h0,hp⟩:=h;obtain⟨_,q2,q3⟩:=qlZ c hR ms (qT r p m) hp;obtain⟨L,t,e1,e2,e3⟩:=qnr (qp4 c) hv ha;have hsz:=qp3 r p m
  have hlen:(bl (moveT r p m)).length=(moveT r p m).size:=by unfold bl;rw[Array.length_toList];rfl
  have hL:=(e3 L List.mem_cons_self);have ne:∀n:UInt8,(n.toNat<65∨n.toNat=91∨122<n.toNat)→¬L=n:=fun n hn e=>by
   subst e;obtain⟨a1,a2,a3⟩:=hL;omega
  refine⟨⟨L,t++32::tl r R (qT r p m) ms,by simp[tl,e1],ne 32 (by decide),ne 10 (by decide),ne 40 (by decide),ne 123 (by decide),ne 91 (by decide)⟩,fun b hb=>?_,?_⟩
  ·rcases List.mem_append.1 hb with hb | hb
   ·rw[e1] at hb;have:=(e3 b hb).2.1;omega
   ·rcases List.mem_cons.1 hb with rfl | hb
    ·decide
    ·exact q2 b hb
  ·simp only[tl,List.length_append,List.length_cons,hlen];omega
theorem nd_add {A:Type} (ns:List (A×Option (List Nat))) (d e:A):ndP (addP ns d) e (ns.length+1)=d:=by
 unfold ndP addP;simp[getD']
theorem put_at {A:Type} (ns rest:List (A×Option (List Nat))) (d e:A) (q:Option (List Nat)) (ks:List Nat):putP (ns++(d,q)::rest) e (ns.length+1) ks=ns++(d,some ks)::rest:=by
 unfold putP;simp[getD',List.set_append_right]
theorem qhm {T α:Type} (F:(T→Option α)→T→Option α) (n:Nat) (x:T):fixN F (n+1) x=F (fixN F n) x:=rfl
theorem qws {r:Rules} (hr:Rng qae r) (c:qz r=0) {R:List UInt8} (hR:ResB R) (x:TRec):∀(ms:List Mv) (p:Place) (n:Nat) (ns:qrr) (s:ByteArray),Plays r p ms→ms.length<n→ms.length≤100→St (tl r R p ms) s →
  fixN qw n (rd r s x,(),ns,p,())=some (rd r (mkB (R++[10])) x,ns++qbO ms ns.length,if ms=[] then [] else [ns.length+1])
 | [],p,n,ns,s,_,hn,_,hs=>by
  obtain⟨n,rfl⟩:∃k,n=k+1:=⟨n-1,by simp at hn;omega⟩;obtain⟨⟨L,t,e,_⟩,h5,h6,h7⟩:=hR.facts;rw[qhm];generalize fixN qw n=self;unfold qw qbi;show Option.bind (qQ (rd r s x)) _=_
  rw[qr5 (W:=R) (b:=10) (l:=[]) hs h5 rfl (fun b hb=>by
   rcases List.mem_append.1 hb with hb | hb
   ·exact h6 b hb
   ·simp at hb;subst hb;decide) (by simp;omega),Option.bind_some]
  have h1:((mkB R).toList==(ByteArray.mk #[]).toList)=false:=by rw[qct,qnt,e];rfl
  obtain⟨i,hi,hRi⟩:=hR.ex;simp only[h1,cond_false];rw[show qE [ByteArray.mk #[42],ByteArray.mk #[49,45,48],ByteArray.mk #[48,45,49],ByteArray.mk #[49,47,50]] (mkB R)=some true by rw[hRi];exact res_has hi];simp only[Option.bind_some,cond_true,qbO,List.append_nil,if_true]
 | m::ms,p,n,ns,s,hp,hn,hm,hs=>by
  obtain⟨n,rfl⟩:∃k,n=k+1:=⟨n-1,by simp at hn;omega⟩;obtain⟨hv,ha,h0,hp'⟩:=hp;obtain⟨⟨L',t',e',q1,q2,q3,q4,q5⟩,q6,q7⟩:=qlZ c hR ms _ hp';obtain⟨⟨L2,t2,e2',w1,w2,w3,w4,w5⟩,w6,w7⟩:=qlZ c hR (m::ms) p ⟨hv,ha,h0,hp'⟩;obtain⟨L,t,e1,e2,e3⟩:=qnr (qp4 c) hv ha;simp only[List.length_cons] at hn hm w7
  have hnb:NB (tl r R (qT r p m) ms):=fun b hb=>by rw[e'] at hb;have:L'=b:=Option.some.inj hb;subst this;exact⟨q1,q2⟩
  have hhd:∀z:UInt8,¬L'=z→∀b,(tl r R (qT r p m) ms).head?=some b→¬b=z:=fun z hz b hb=>by rw[e'] at hb;have:L'=b:=Option.some.inj hb;subst this;exact hz
  have ih:=qws hr c hR x ms (qT r p m) n (addP ns (m,(ByteArray.mk #[],()))) (mkB (tl r R (qT r p m) ms)) hp' (by omega) (by omega) (.self hnb);rw[qhm];generalize fixN qw n=self at ih ⊢;unfold qw qbi;show Option.bind (qQ (rd r s x)) _=_
  rw[qr5 (W:=bl (moveT r p m)) (b:=32) (l:=tl r R (qT r p m) ms) hs (fun b hb=>qvS (e3 b (by rw[←e1];exact hb))) rfl w6 (by
   show(tl r R p (m::ms)).length≤_
   omega),Option.bind_some]
  have h1:((mkB (bl (moveT r p m))).toList==(ByteArray.mk #[]).toList)=false:=by rw[qct,qnt,e1];rfl
  simp only[h1,cond_false];rw[show qE [ByteArray.mk #[42],ByteArray.mk #[49,45,48],ByteArray.mk #[48,45,49],ByteArray.mk #[49,47,50]] (mkB (bl (moveT r p m)))=some false by rw[e1];exact res_move e2];simp only[Option.bind_some,cond_false];have hmove:=move_eq hr c hv ha h0 (l:=tl r R (qT r p m) ms) (s:=mkB (bl (moveT r p m)++32::tl r R (qT r p m) ms)) (.self hs.1) hnb (hhd 123 q4) q6 (by omega) x ns;show Option.bind (qaO (rd r (mkB (bl (moveT r p m)++32::tl r R (qT r p m) ms)) x) ns p) _=_;rw[hmove,Option.bind_some];have halt:=alts_none (p:=p) (self:=self) (St.self hnb) (hhd 40 q3) r x (addP ns (m,(ByteArray.mk #[],()))) [ns.length+1]
  show Option.bind (iterW (qV p self) (([ns.length+1],()),(flR r (mkB (tl r R (qT r p m) ms)) x,addP ns (m,(ByteArray.mk #[],())),()))) _=_;rw[halt,Option.bind_some]
  have hb:Nat.blt 0 (ns.length+1)=true:=by simp[Nat.blt_eq]
  simp only[hb,qc,nd_add];show Option.bind (qr r p m) _=_;rw[ql0 hv ha,Option.bind_some];show Option.bind (self (rd r (mkB (tl r R (qT r p m) ms)) x,(),addP ns (m,(ByteArray.mk #[],())),qT r p m,())) _=_;rw[ih];simp only[Option.bind_some]
  have hlen:(addP ns (m,(ByteArray.mk #[],()))).length=ns.length+1:=by simp[addP]
  rw[hlen]
  have happ:addP ns (m,(ByteArray.mk #[],()))++qbO ms (ns.length+1)=ns++((m,(ByteArray.mk #[],())),none)::qbO ms (ns.length+1):=by simp[addP]
  rw[happ,put_at];simp only[if_neg (List.cons_ne_nil m ms),qbO]
abbrev DNode:=(Mv×ByteArray×List Nat×Unit)×Option (List Nat)
def dataT (x:(Mv×ByteArray×Unit)×Option (List Nat)):DNode:=((x.1.1,(x.1.2.1,(x.2.getD [],()))),none)
abbrev dD:Mv×ByteArray×List Nat×Unit:=(((0:Int),((0:Int),((0:Int),()))),(ByteArray.empty,([],())))
def linN:List Mv→Int→Nat→List (Int×Mv×ByteArray×Unit)
 | [],_,_=>[]
 | m::ms,q,k=>(q,(m,(ByteArray.mk #[],())))::linN ms (k:Int) (k+1)
theorem qe1:∀(ms:List Mv) (q:Int) (k:Nat),(linN ms q k).length=ms.length
 | [],_,_=>rfl
 | _::ms,_,k=>by simp[linN,qe1 ms]
abbrev addN (x:TRec) (l:List (Int×Mv×ByteArray×Unit)):TRec:=(x.1,(x.2.1,(x.2.2.1++l,x.2.2.2)))
theorem nd_at (pre rest:List DNode) (d:DNode):ndP (pre++d::rest) dD (pre.length+1)=d.1:=by
 unfold ndP;simp[getD']
theorem flat_eq (r:Rules) (s:ByteArray):∀(ms:List Mv) (k n:Nat) (pre:List DNode) (x:TRec) (q:Int),pre.length=k→ms.length<n→x.2.2.1.length=k→k+ms.length≤1000 →
  fixN qD n (rd r s x,(),pre++(qbO ms k).map dataT,(if ms=[] then [] else [k+1]),q,())=some (rd r s (addN x (linN ms q k)),pre++(qbO ms k).map dataT,())
 | [],k,n,pre,x,q,hp,hn,hx,hk=>by
  obtain⟨n,rfl⟩:∃j,n=j+1:=⟨n-1,by simp at hn;omega⟩;rw[qhm];generalize fixN qD n=self;unfold qD qbJ;have hl:iterW (qs ([]:List Nat) q self) (((0:Int),()),(flR r s x,pre++(qbO [] k).map dataT,()))=some ((),(flR r s x,pre++(qbO [] k).map dataT,())):=by
   refine qi ?_;unfold qs;rw[decide_eq_false (by simp),cond_false]
  show Option.bind (iterW (qs ([]:List Nat) q self) (((0:Int),()),(flR r s x,pre++(qbO [] k).map dataT,()))) _=_;rw[hl];have hx0:addN x (linN [] q k)=x:=by
   show(x.1,(x.2.1,(x.2.2.1++[],x.2.2.2)))=x;rw[List.append_nil]
  rw[hx0];rfl
 | m::ms,k,n,pre,x,q,hp,hn,hx,hk=>by
  obtain⟨n,rfl⟩:∃j,n=j+1:=⟨n-1,by simp at hn;omega⟩;simp only[List.length_cons] at hn hk;have hcell:pre++(qbO (m::ms) k).map dataT=pre++((m,(ByteArray.mk #[],((if ms=[] then [] else [k+2]),()))),none)::(qbO ms (k+1)).map dataT:=by
   simp[qbO,dataT]
  have hcell2:pre++(qbO (m::ms) k).map dataT=(pre++[((m,(ByteArray.mk #[],((if ms=[] then [] else [k+2]),()))),none)])++(qbO ms (k+1)).map dataT:=by
   rw[hcell];simp
  have ih:=flat_eq r s ms (k+1) n (pre++[((m,(ByteArray.mk #[],((if ms=[] then [] else [k+2]),()))),none)]) (addN x [(q,(m,(ByteArray.mk #[],())))]) (k:Int) (by simp[hp]) (by omega) (by simp[hx]) (by omega);rw[←hcell2] at ih;have hnd:ndP (pre++(qbO (m::ms) k).map dataT) dD (k+1)=(m,(ByteArray.mk #[],((if ms=[] then [] else [k+2]),()))):=by
   rw[hcell,←hp];exact nd_at _ _ _
  rw[if_neg (List.cons_ne_nil m ms),qhm];generalize fixN qD n=self at ih ⊢;generalize pre++(qbO (m::ms) k).map dataT=dn at hnd ih ⊢;unfold qD qbJ
  have hb:Nat.blt 0 (k+1)=true:=by simp[Nat.blt_eq]
  have hl:iterW (qs [k+1] q self) (((0:Int),()),(flR r s x,dn,()))=some ((),(flR r s (addN (addN x [(q,(m,(ByteArray.mk #[],())))]) (linN ms (k:Int) (k+1))),dn,())):=by
   have h1:qs [k+1] q self (((0:Int),()),(flR r s x,dn,()))=some (.inl (((1:Int),()),(flR r s (addN (addN x [(q,(m,(ByteArray.mk #[],())))]) (linN ms (k:Int) (k+1))),dn,()))):=by
    unfold qs;rw[decide_eq_true (by simp),cond_true];rw[show at? [k+1] (0:Int)=some (k+1) from rfl,Option.bind_some];simp only[hb,qc]
    rw[qO (by
     show(x.2.2.1.length+1)*48≤_
     omega),qc]
    rw[show ndP dn (((0:Int),((0:Int),((0:Int),()))),(ByteArray.empty,([],()))) (k+1)=_ from hnd];show Option.bind (self (rd r s (addN x [(q,(m,(ByteArray.mk #[],())))]),(),dn,(if ms=[] then [] else [k+2]),((x.2.2.1.length:Nat):Int),())) _=_;rw[hx,ih];rfl
   rw[qx h1];refine qi ?_;unfold qs;rw[decide_eq_false (by simp),cond_false]
  show Option.bind (iterW (qs [k+1] q self) (((0:Int),()),(flR r s x,dn,()))) _=_;rw[hl];simp only[Option.bind_some,linN];simp
def recT (ms:List Mv) (i:Nat):TRec:=([],(ByteArray.mk #[],(linN ms (-1) 0,((i:Int),()))))
theorem after_W {r:Rules} (hr:Rng qae r) (c:qz r=0) {R:List UInt8} (hR:ResB R) (x:TRec) {ms:List Mv} {p:Place} {s:ByteArray} (hp:Plays r p ms) (hm:ms.length≤100) (hs:St (tl r R p ms) s) :
  qcd (rd r s x) [] p=some (rd r (mkB (R++[10])) x,qbO ms 0,if ms=[] then [] else [1]):=by
 have h:=qws hr c hR x ms p (ms.length+1) [] s hp (Nat.lt_succ_self _) hm hs;exact Le.fix (fun φ ψ hs y=>qdt φ ψ hs y) qdt (ms.length+1) _ _ h
theorem flat_W (r:Rules) (s:ByteArray) (ms:List Mv) (x:TRec) (hx:x.2.2.1=[]) (hm:ms.length≤1000) :
  qcF (rd r s x) ((qbO ms 0).map dataT) (if ms=[] then [] else [1]) (-1)=some (rd r s (addN x (linN ms (-1) 0)),(qbO ms 0).map dataT,()):=by
 have h:=flat_eq r s ms 0 (ms.length+1) [] x (-1) rfl (Nat.lt_succ_self _) (by rw[hx];rfl) (by omega);exact Le.fix (fun φ ψ hs y=>qd1 φ ψ hs y) qd1 (ms.length+1) _ _ h
theorem read_eq {r:Rules} (hr:Rng qae r) (c:qz r=0) {i:Nat} (hi:i<4) {ms:List Mv} (hp:Plays r (qn r) ms) (hm:ms.length≤100) (hck:qax r (recT ms i)=some 0) :
  qg2 r (mkB (tl r (resL.getD i []) (qn r) ms))=some (recT ms i,(0,())):=by
 have hR:ResB (resL.getD i []):=⟨⟨i,hi,rfl⟩⟩;obtain⟨⟨L,t,e,q1,q2,q3,q4,q5⟩,q6,q7⟩:=qlZ c hR ms _ hp;obtain⟨⟨Lr,tr',er,_⟩,r5,r6,r7⟩:=hR.facts
 have hnb:NB (tl r (resL.getD i []) (qn r) ms):=fun b hb=>by rw[e] at hb;have:L=b:=Option.some.inj hb;subst this;exact⟨q1,q2⟩
 have hhd:∀z:UInt8,¬L=z→∀b,(tl r (resL.getD i []) (qn r) ms).head?=some b→¬b=z:=fun z hz b hb=>by rw[e] at hb;have:L=b:=Option.some.inj hb;subst this;exact hz
 have hst:=St.self hnb;unfold qg2;rw[qjR r hr,Option.bind_some,c];simp only[bne_self_eq_false,cond_false];rw[decide_eq_false (show ¬(((mkB (tl r (resL.getD i []) (qn r) ms)).size:Nat):Int)>8192 by rw[qeu];omega),cond_false];generalize hs:mkB (tl r (resL.getD i []) (qn r) ms)=s at hst
 let x0:TRec:=([],(ByteArray.mk #[],([],((0:Int),()))))
 have hl:iterW qeV ((),(flR r s x0,()))=some ((),(flR r s x0,())):=by
  refine qi ?_;unfold qeV;show Option.bind (qab (rd r s x0) 91) _=_
  rw[got_no hst (fun b hb e=>hhd 91 q5 b hb (by
   have:b.toNat=91:=by omega
   exact UInt8.toNat_inj.1 this)),hs]
  rfl
 show Option.bind (iterW qeV ((),(flR r s x0,()))) _=_;rw[hl,Option.bind_some];show Option.bind (qF (rd r s x0)) _=_;rw[qqZ hst (hhd 123 q4),Option.bind_some,hs];show Option.bind (qbx r) _=_;rw[qe5 r hr,if_pos c,Option.bind_some];show Option.bind (qcd (rd r s x0) [] (qn r)) _=_;rw[after_W hr c hR x0 hp hm hst,Option.bind_some];show Option.bind (qQ (rd r (mkB (resL.getD i []++[10])) x0)) _=_;have hnb2:NB (resL.getD i []++10::[]):=by
  obtain⟨⟨L,t,e,a1,a2,_⟩,_⟩:=hR.facts;intro b hb;rw[e] at hb;have:L=b:=Option.some.inj hb;subst this;exact⟨a1,a2⟩
 rw[qr5 (W:=resL.getD i []) (b:=10) (l:=[]) (.self hnb2) r5 rfl (fun b hb=>by
  rcases List.mem_append.1 hb with hb | hb
  ·exact r6 b hb
  ·simp at hb;subst hb;decide) (by rw[List.length_append];simp only[List.length_cons,List.length_nil];omega),Option.bind_some]
 show Option.bind (qI resT (mkB (resL.getD i []))) _=_;rw[res_idx hi,Option.bind_some,decide_eq_false (by omega),cond_false];have hbd:qk (((mkB (resL.getD i [])).size:Nat):Int) (((mkB (resL.getD i []++10::[])).size:Nat):Int) (mkB (resL.getD i []++10::[])).size=true:=by
  simp[qk,qeu];omega
 show req (qk (((mkB (resL.getD i [])).size:Nat):Int) (((mkB (resL.getD i []++10::[])).size:Nat):Int) (mkB (resL.getD i []++10::[])).size) _=_;rw[hbd,qc];have hdrop:(mkB (resL.getD i []++10::[])).extract (((mkB (resL.getD i [])).size:Nat):Int).toNat (((mkB (resL.getD i []++10::[])).size:Nat):Int).toNat=mkB [10]:=by
  rw[Int.toNat_natCast,Int.toNat_natCast,qeu,qeu];exact mk_drop _ _ _ (by simp)
 let x1:TRec:=([],(ByteArray.mk #[],([],((i:Int),()))))
 show Option.bind (qS (rd r ((mkB (resL.getD i []++10::[])).extract (((mkB (resL.getD i [])).size:Nat):Int).toNat (((mkB (resL.getD i []++10::[])).size:Nat):Int).toNat) x1)) _=_;rw[hdrop,qsM (l:=[]) (St.blank (b:=10) (fun b hb=>by cases hb) (.inr rfl)),Option.bind_some]
 have h0:(!((mkB ([]:List UInt8)).toList==(ByteArray.mk #[]).toList))=false:=by rw[qct,qnt];rfl
 rw[h0,cond_false];show Option.bind (some ((qbO ms 0).map dataT)) _=_;rw[Option.bind_some];show Option.bind (qcF (rd r (mkB []) x1) ((qbO ms 0).map dataT) (if ms=[] then [] else [1]) (-1)) _=_;rw[flat_W r (mkB []) ms x1 rfl (by omega),Option.bind_some];show Option.bind (qax r (recT ms i)) _=_;rw[hck,Option.bind_some];simp only[bne_self_eq_false,cond_false];rfl

abbrev RTag:=ByteArray×ByteArray×Unit
abbrev RNode:=Int×Mv×ByteArray×Unit
abbrev Rec:=List RTag×ByteArray×List RNode×Int×Unit
abbrev tyTag:Ty := .st .str (.st .str .nil)
abbrev tyMv:Ty := .st (.int .i64) (.st (.int .i64) (.st (.int .i64) .nil))
abbrev tyNode:Ty := .st (.int .i64) (.st tyMv (.st .str .nil))
abbrev tyRec:Ty := .st (.sl tyTag) (.st .str (.st (.sl tyNode) (.st (.int .i64) .nil)))
theorem qmS {A:Type} (xs:List A) (i:Nat) (h:i<xs.length):at? xs (i:Int)=some xs[i]:=by
 rw[at?_eq xs _ (Int.natCast_nonneg i) (Int.ofNat_lt.2 h)];simp only[Int.toNat_natCast]
def badC (w:List UInt8) (c:UInt8):Bool:=(decide (((c.toNat:Nat):Int)<32)||decide (((c.toNat:Nat):Int)>126))||w.any (· == c)
def fineT (s w:ByteArray):Bool:=!(s.data.toList.any (badC w.data.toList))
theorem qtd (s:ByteArray):s.data.toList.length=s.size:=by rw[Array.length_toList];rfl
theorem qxH (s:ByteArray) (i:Nat) (h:i<s.data.toList.length):strAt s (i:Int)=some s.data.toList[i]:=by
 have h':i<s.size:=by rw[←qtd];exact h
 have h0:decide ((0:Int)≤(i:Int))=true:=by simp
 unfold strAt;rw[h0,cond_true,Int.toNat_natCast,getElem?_pos s i h',ByteArray.getElem_eq_getElem_data,Array.getElem_toList]
theorem bo_get (s:ByteArray) (i:Nat) (h:i<s.data.toList.length):getD' (qH s) i 0=((s.data.toList[i].toNat:Nat):Int):=by
 unfold getD' qH;rw[List.getD_eq_getElem?_getD,List.getElem?_map,List.getElem?_eq_getElem h];rfl
theorem bo_len (s:ByteArray):(qH s).length=s.data.toList.length:=by unfold qH;rw[List.length_map]
theorem idx_any (c:UInt8):∀l:List UInt8,decide (Go.Lib.indexByte l c≥0)=l.any (· == c)
 | []=>rfl
 | b::l=>by
  have ih:=idx_any c l;have hg:=Go.Lib.indexByte_ge l c;rw[List.any_cons,←ih,show Go.Lib.indexByte (b::l) c=if b==c then 0 else if Go.Lib.indexByte l c == -1 then -1 else Go.Lib.indexByte l c+1 from rfl];by_cases h:(b==c)=true
  ·rw[if_pos h,h];rfl
  ·rw[if_neg h,Bool.eq_false_iff.2 h,Bool.false_or];by_cases h2:(Go.Lib.indexByte l c == -1)=true
   ·have:Go.Lib.indexByte l c = -1:=by simpa using h2
    rw[if_pos h2,this]
   ·have:¬Go.Lib.indexByte l c = -1:=by simpa using h2
    rw[if_neg h2,Bool.eq_iff_iff];simp only[decide_eq_true_eq];omega
theorem qkL (s w:ByteArray) (hs:s.size≤9223372036854775807):qb3 s w=some (fineT s w):=by
 have hl:=qtd s;unfold qb3 fineT
 have hL:=qag s.data.toList (badC w.data.toList) (qbI s w) (.inr false) (.inl ((),())) (fun i hi=>by
  unfold qbI
  have h3:(i:Int)<(s.size:Int):=by omega
  have hg:∀b (c:UInt8),gopt b 0 (some c)=some (bif b then c else 0):=fun b c=>by cases b<;>rfl
  simp only[h3,decide_true,cond_true,qxH s i hi,Option.bind_some,hg,qf (n:=(i:Int)+1) (by omega) (by omega)];generalize s.data.toList[i]=c;have hx:decide (qe9 w ((c.toNat:Nat):Int)≥0)=w.data.toList.any (· == c):=by
   unfold qe9;rw[Int.toNat_natCast,←idx_any,show(c.toNat).toUInt8=c from UInt8.ofNat_toNat]
  unfold badC;cases h1:decide (((c.toNat:Nat):Int)<32)
  ·simp only[Bool.not_false,cond_true,Bool.false_or];cases h2:decide (((c.toNat:Nat):Int)>126)
   ·simp only[Bool.not_false,cond_true,Bool.false_or,hx];rfl
   ·simp only[Bool.true_or,cond_true]
  ·simp only[Bool.true_or,cond_true]) (by
  unfold qbI;rw[hl]
  simp)
 rw[hL]
 cases s.data.toList.any (badC w.data.toList)<;>rfl
theorem bo_ch (s:ByteArray) (i:Nat) (h:i<s.size):getD' (qH s) i 0=((ch s i:Nat):Int):=by
 have h':i<s.data.toList.length:=by rw[qtd];exact h
 rw[bo_get s i h'];unfold ch;rw[getElem?_pos s i h,ByteArray.getElem_eq_getElem_data,Array.getElem_toList];rfl
theorem name3_spec (s:ByteArray) (hs:s.size≤9223372036854775807):qvW s=some (qim s):=by
 unfold qvW;by_cases h0:s.size=0∨8<s.size
 ·have e:((s.toList==(ByteArray.mk #[]).toList)||(decide (((s.size:Nat):Int)>8)))=true:=by
   rw[qoY];simp only[Bool.or_eq_true,decide_eq_true_eq];omega
  have hn:qim s=false:=by
   unfold qim;rw[show decide (1≤s.size∧s.size≤8)=false by simp only[decide_eq_false_iff_not];omega,Bool.and_false]
  rw[e,hn];rfl
 ·have e:((s.toList==(ByteArray.mk #[]).toList)||(decide (((s.size:Nat):Int)>8)))=false:=by
   rw[qoY];simp only[Bool.or_eq_false_iff,decide_eq_false_iff_not];omega
  obtain⟨c,hc1,hc2⟩:=qwj s 0 (by omega);have hc1:strAt s 0=some c:=hc1
  have hg:∀b (c:UInt8),gopt b 0 (some c)=some (bif b then c else 0):=fun b c=>by cases b<;>rfl
  rw[e,hc1];simp only[hg,Bool.not_false,cond_true,Option.bind_some,Bool.false_or,hc2]
  have hd:decide (1≤s.size∧s.size≤8)=true:=by simp only[decide_eq_true_eq];omega
  by_cases h1:65≤ch s 0∧ch s 0≤90
  ·have e1:decide (((ch s 0:Nat):Int)<65)=false:=by simp only[decide_eq_false_iff_not];omega
   have e2:decide (((ch s 0:Nat):Int)>90)=false:=by simp only[decide_eq_false_iff_not];omega
   simp only[e1,Bool.not_false,cond_true,hc2,e2,Bool.or_self,cond_false];rw[Nat.ble_eq_true_of_le (show s.size≤140737488355328 by omega),qc]
   have hL:=qag (List.range s.size) (qfs s) (qhC s) (.inr false) (.inl ((),())) (fun i hi=>by
    have hi':i<s.size:=by simpa using hi
    unfold qhC
    have h3:(i:Int)<(((qH s).length:Nat):Int):=by rw[bo_len,qtd];omega
    have hin:inb (i:Int) (qH s).length=true:=inb_iff.2 ⟨by omega,h3⟩;simp only[h3,decide_true,cond_true,hin,qc,Int.toNat_natCast,bo_ch s i hi',List.getElem_range,qf (n:=(i:Int)+1) (by omega) (by omega)];have hb:((decide (((ch s i:Nat):Int)<65)||decide (((ch s i:Nat):Int)>90))&&(decide (((ch s i:Nat):Int)<48)||decide (((ch s i:Nat):Int)>57)))=qfs s i:=by
     unfold qfs;rw[Bool.eq_iff_iff];simp only[Bool.and_eq_true,Bool.or_eq_true,decide_eq_true_eq,Bool.not_eq_true',Bool.or_eq_false_iff,decide_eq_false_iff_not];by_cases hz:i=0
     ·subst hz;omega
     ·omega
    rw[hb]
    rfl) (by
    unfold qhC;rw[bo_len,qtd,List.length_range]
    simp)
   rw[hL];unfold qim;rw[hd,Bool.and_true]
   cases (List.range s.size).any (qfs s)<;>rfl
  ·have hn:qim s=false:=by
    unfold qim;have:(List.range s.size).any (qfs s)=true:=by
     rw[List.any_eq_true];refine⟨0,List.mem_range.2 (by omega),?_⟩;unfold qfs;simp only[Bool.not_eq_true',Bool.or_eq_false_iff,decide_eq_false_iff_not];omega
    rw[this];rfl
   rw[hn];cases e1:decide (((ch s 0:Nat):Int)<65)
   ·simp only[decide_eq_false_iff_not] at e1;simp only[Bool.not_false,cond_true,hc2,show decide (((ch s 0:Nat):Int)>90)=true by simp only[decide_eq_true_eq];omega,Bool.or_true]
   ·simp only[Bool.true_or,cond_true]
def cErr (s:ByteArray):Int:=if 60<s.size then 2 else if fineT s (ByteArray.mk #[123,125])=false then 3 else 0
theorem qjh (s:ByteArray) (hs:s.size≤9223372036854775807):qdg s=some (cErr s):=by
 unfold qdg cErr;by_cases h:60<s.size
 ·rw[if_pos h,show decide (((s.size:Nat):Int)>60)=true by simp only[decide_eq_true_eq];omega];rfl
 ·rw[if_neg h,show decide (((s.size:Nat):Int)>60)=false by simp only[decide_eq_false_iff_not];omega,cond_false,qkL _ _ (by omega),Option.bind_some]
  cases fineT s (ByteArray.mk #[123,125])<;>rfl
def tErrD (pre:List RTag) (d:RTag):Int:=if qim d.1=false then 6 else if 40<d.2.1.size then 2 else if fineT d.2.1 (ByteArray.mk #[34])=false then 3 else if pre.any (fun u=>u.1.toList==d.1.toList)=true then 7 else 0
def tErr (ts:List RTag) (i:Nat):Int:=match ts[i]? with
 | none=>0
 | some d=>tErrD (ts.take i) d
theorem tErr_at (ts:List RTag) (i:Nat) (h:i<ts.length):tErr ts i=tErrD (ts.take i) ts[i]:=by
 unfold tErr;rw[List.getElem?_eq_getElem h]
theorem tags_spec (x:Rec) (hx:Rng tyRec x):qjQ x=some (qaH (tErr x.1) x.1.length):=by
 have hn:x.1.length≤9223372036854775807:=hx.1.1;unfold qjQ
 have:=qui x.1.length (qeP x) (tErr x.1) ((),()) (some 0) (fun i hi=>by
  have hd1:(x.1[i]).1.size≤9223372036854775807:=(hx.1.2 _ (List.getElem_mem hi)).1;have hd2:(x.1[i]).2.1.size≤9223372036854775807:=(hx.1.2 _ (List.getElem_mem hi)).2.1;rw[tErr_at _ _ hi];unfold qeP;simp only[show decide ((i:Int)<((x.1.length:Nat):Int))=true by simp;omega,cond_true];rw[qmS _ _ hi,Option.bind_some];generalize x.1[i]=d at hd1 hd2;unfold tErrD;rw[qs7 _ (by omega),Option.bind_some];cases qim d.1
  ·rfl
  ·simp only[Bool.not_true,cond_false,if_neg (show ¬(true=false) by decide)];by_cases h1:40<d.2.1.size
   ·rw[if_pos h1,show decide (((d.2.1.size:Nat):Int)>40)=true by simp only[decide_eq_true_eq];omega];rfl
   ·rw[if_neg h1,show decide (((d.2.1.size:Nat):Int)>40)=false by simp only[decide_eq_false_iff_not];omega,cond_false,qkL _ _ (by omega),Option.bind_some];cases fineT d.2.1 (ByteArray.mk #[34])
    ·rfl
    ·simp only[Bool.not_true,cond_false,if_neg (show ¬(true=false) by decide)];rw[show qk 0 (i:Int) x.1.length=true by simp only[qk,Bool.and_eq_true,decide_eq_true_eq];omega,qc]
     have hl:(x.1.take i).length=i:=by rw[List.length_take];omega
     have hL:=qag (x.1.take i) (fun u=>u.1.toList==d.1.toList) (qeY x (((i:Int),()),()) d) (.inr (.inr (.inr 7))) (.inl ((),())) (fun j hj=>by
      have hj':j<i:=by rw[List.length_take] at hj;omega
      unfold qeY;simp only[Int.toNat_natCast,List.drop_zero,hl];simp only[show decide ((j:Int)<((i:Nat):Int))=true by simp;omega,cond_true];rw[qmS _ _ hj,Option.bind_some];simp only[Int.toNat_natCast,show decide ((j:Int)≥0)=true by simp,cond_true,qf (n:=(j:Int)+1) (by omega) (by omega)]
      rfl) (by
      unfold qeY;simp only[Int.toNat_natCast,List.drop_zero,hl]
      simp)
     rw[hL,Option.bind_some,qf (n:=(i:Int)+1) (by omega) (by omega)]
     cases (x.1.take i).any (fun u=>u.1.toList==d.1.toList)<;>rfl) (by
  unfold qeP
  simp)
 rw[this];split
 ·rename_i h;rw[h]
 ·rfl

def rpar (ns:List RNode) (i:Nat):Int:=((ns[i]?).map (·.1)).getD (-1)
def rmv (ns:List RNode) (i:Nat):Mv:=((ns[i]?).map (·.2.1)).getD (0,(0,(0,())))
def qur (ns:List RNode):Nat→Int→List Nat
 | 0,_=>[]
 | f+1,n=>if n<0 then [] else n.toNat::qur ns f (rpar ns n.toNat)
def Down (ns:List RNode) (k:Nat):Prop:=∀i,i<k→rpar ns i<(i:Int)
theorem Down.mono {ns:List RNode} {k j:Nat} (h:Down ns k) (hj:j≤k):Down ns j:=fun i hi=>h i (by omega)
theorem qrF {ns:List RNode}:∀(f g:Nat) (n:Int),Down ns (n+1).toNat→n<(f:Int)→n<(g:Int)→qur ns f n=qur ns g n
 | 0,0,n,_,_,_=>rfl
 | 0,g+1,n,_,h,_=>by
  show []=if n<0 then [] else _;rw[if_pos (by omega)]
 | f+1,0,n,_,_,h=>by
  show(if n<0 then [] else _)=[];rw[if_pos (by omega)]
 | f+1,g+1,n,hd,h1,h2=>by
  show(if n<0 then [] else _)=if n<0 then [] else _;by_cases h:n<0
  ·rw[if_pos h,if_pos h]
  ·rw[if_neg h,if_neg h];have:=hd n.toNat (by omega);rw[qrF f g (rpar ns n.toNat) (hd.mono (by omega)) (by omega) (by omega)]
def wayN (ns:List RNode) (n:Int):List Nat:=qur ns (n+1).toNat n
theorem qf0 (ns:List RNode) {n:Int} (h:n<0):wayN ns n=[]:=by
 unfold wayN;rw[show(n+1).toNat=0 by omega];rfl
theorem qh0 {ns:List RNode} {n:Int} (h:0≤n) (hd:Down ns (n+1).toNat):wayN ns n=n.toNat::wayN ns (rpar ns n.toNat):=by
 have hp:=hd n.toNat (by omega);unfold wayN;rw[show(n+1).toNat=n.toNat+1 by omega];show(if n<0 then [] else n.toNat::qur ns n.toNat (rpar ns n.toNat))=_;rw[if_neg (by omega),qrF n.toNat (rpar ns n.toNat+1).toNat (rpar ns n.toNat) (hd.mono (by omega)) (by omega) (by omega)]
def wayM (ns:List RNode) (n:Int):List Mv:=((wayN ns n).map (rmv ns)).reverse
theorem wayN_le {ns:List RNode}:∀(k:Nat) (n:Int),(n+1).toNat≤k→Down ns (n+1).toNat→∀j∈wayN ns n,(j:Int)≤n
 | 0,n,hk,_,j,hj=>by rw[qf0 ns (by omega)] at hj;cases hj
 | k+1,n,hk,hd,j,hj=>by
  by_cases h:n<0
  ·rw[qf0 ns h] at hj;cases hj
  ·have hp:=hd n.toNat (by omega);rw[qh0 (by omega) hd] at hj;rcases List.mem_cons.1 hj with rfl | hj
   ·omega
   ·have:=wayN_le k (rpar ns n.toNat) (by omega) (hd.mono (by omega)) j hj;omega
theorem qmb {ns:List RNode}:∀(k:Nat) (n:Int),(n+1).toNat≤k→Down ns (n+1).toNat→(wayN ns n).length≤k
 | 0,n,hk,_=>by rw[qf0 ns (by omega)];exact Nat.le_refl _
 | k+1,n,hk,hd=>by
  by_cases h:n<0
  ·rw[qf0 ns h];exact Nat.zero_le _
  ·have hp:=hd n.toNat (by omega);rw[qh0 (by omega) hd,List.length_cons];have:=qmb k (rpar ns n.toNat) (by omega) (hd.mono (by omega));omega
theorem at_node {ns:List RNode} {n:Int} (h0:0≤n) (h1:n<((ns.length:Nat):Int)):∃d,at? ns n=some d∧d.1=rpar ns n.toNat∧d.2.1=rmv ns n.toNat:=by
 have hl:n.toNat<ns.length:=by omega
 refine⟨ns[n.toNat],at?_eq _ _ h0 h1,?_,?_⟩
 ·unfold rpar;rw[List.getElem?_eq_getElem hl];rfl
 ·unfold rmv;rw[List.getElem?_eq_getElem hl];rfl
theorem way_L1 (x:Rec) (hn:x.2.2.1.length≤1000):∀s:((List Mv×Int×Unit)×Unit),(s.1.2.1<((x.2.2.1.length:Nat):Int)∧Down x.2.2.1 (s.1.2.1+1).toNat∧s.1.1.length+(s.1.2.1+1).toNat≤2000) →
  iterW (qf6 x) s=some ((s.1.1++(wayN x.2.2.1 s.1.2.1).map (rmv x.2.2.1),()),()):=by
 refine qt8 _ (fun s:((List Mv×Int×Unit)×Unit)=>(s.1.2.1+1).toNat) (fun s=>((s.1.1++(wayN x.2.2.1 s.1.2.1).map (rmv x.2.2.1),()),())) ?_
 rintro ⟨⟨acc,n,⟨⟩⟩,⟨⟩⟩ ⟨h1,hd,hl⟩
 simp only at h1 hd hl ⊢;by_cases h:n<0
 ·refine .inr ?_;unfold qf6;simp only[show decide (n≥0)=false by simp;omega,cond_false,qf0 _ h,List.map_nil,List.append_nil]
 ·refine .inl ?_;have hp:=hd n.toNat (by omega);obtain⟨d,e1,e2,e3⟩:=at_node (ns:=x.2.2.1) (n:=n) (by omega) h1;refine⟨((acc++[rmv x.2.2.1 n.toNat],rpar x.2.2.1 n.toNat,()),()),?_,⟨by simp only;omega,hd.mono (by simp only;omega),by simp only[List.length_append,List.length_cons,List.length_nil];omega⟩,by simp only;omega,?_⟩
  ·unfold qf6;simp only[show decide (n≥0)=true by simp;omega,cond_true];rw[e1];simp only[Option.bind_some];rw[qO (by simp only[List.length_cons,List.length_nil];omega),qc,e2,e3]
  ·simp only;rw[qh0 (by omega) hd,List.map_cons,List.append_assoc];rfl
def revK (xs:List Mv) (k:Nat):List Mv:=(List.range xs.length).map fun t=>if t<k∨xs.length-k≤t then xs.getD (xs.length-1-t) (0,(0,(0,()))) else xs.getD t (0,(0,(0,())))
theorem qeQ (xs:List Mv) (k:Nat):(revK xs k).length=xs.length:=by simp[revK]
theorem qvL (xs:List Mv) (k t:Nat) (h:t<xs.length):getD' (revK xs k) t (0,(0,(0,())))=if t<k∨xs.length-k≤t then xs.getD (xs.length-1-t) (0,(0,(0,()))) else xs.getD t (0,(0,(0,()))):=by
 unfold getD' revK;rw[List.getD_eq_getElem?_getD,List.getElem?_map,List.getElem?_range h];rfl
theorem revK_step (xs:List Mv) (k:Nat) (h:k+1<xs.length-k):((revK xs k).set k (getD' (revK xs k) (xs.length-1-k) (0,(0,(0,()))))).set (xs.length-1-k) (getD' (revK xs k) k (0,(0,(0,()))))=revK xs (k+1):=by
 rw[qvL xs k k (by omega),qvL xs k (xs.length-1-k) (by omega),if_neg (by omega),if_neg (by omega)];apply List.ext_getElem
 ·simp[qeQ]
 ·intro t h1 h2
  have ht:t<xs.length:=by rw[qeQ] at h2;exact h2
  have e:∀j,(revK xs j)[t]?=some (if t<j∨xs.length-j≤t then xs.getD (xs.length-1-t) (0,(0,(0,()))) else xs.getD t (0,(0,(0,())))):=fun j=>by
   unfold revK;rw[List.getElem?_map,List.getElem?_range ht];rfl
  have e1:(revK xs (k+1))[t]=if t<k+1∨xs.length-(k+1)≤t then xs.getD (xs.length-1-t) (0,(0,(0,()))) else xs.getD t (0,(0,(0,()))):=by
   have:=e (k+1);rw[List.getElem?_eq_getElem h2] at this;exact Option.some.inj this
  have hk:t<(revK xs k).length:=by rw[qeQ];exact ht
  have e2:(revK xs k)[t]=if t<k∨xs.length-k≤t then xs.getD (xs.length-1-t) (0,(0,(0,()))) else xs.getD t (0,(0,(0,()))):=by
   have:=e k;rw[List.getElem?_eq_getElem hk] at this;exact Option.some.inj this
  rw[e1,List.getElem_set,List.getElem_set,e2];by_cases c1:xs.length-1-k=t
  ·rw[if_pos c1,if_pos (by omega),show xs.length-1-t=k by omega]
  ·rw[if_neg c1];by_cases c2:k=t
   ·rw[if_pos c2,if_pos (by omega),c2]
   ·rw[if_neg c2];by_cases c3:t<k∨xs.length-k≤t
    ·rw[if_pos c3,if_pos (by omega)]
    ·rw[if_neg c3,if_neg (by omega)]
theorem revK_zero (xs:List Mv):revK xs 0=xs:=by
 apply List.ext_getElem
 ·exact qeQ xs 0
 ·intro t h1 h2;have e:(revK xs 0)[t]?=some (xs.getD t (0,(0,(0,())))):=by
   unfold revK;rw[List.getElem?_map,List.getElem?_range h2];show some (if t<0∨xs.length-0≤t then _ else _)=_;rw[if_neg (by omega)]
  rw[List.getElem?_eq_getElem h1] at e;rw[Option.some.inj e];simp[List.getD_eq_getElem?_getD,h2]
theorem revK_all (xs:List Mv) (k:Nat) (h:xs.length≤2*k+1) (hk:2*k≤xs.length):revK xs k=xs.reverse:=by
 apply List.ext_getElem
 ·rw[qeQ,List.length_reverse]
 ·intro t h1 h2
  have ht:t<xs.length:=by rw[qeQ] at h1;exact h1
  have e:(revK xs k)[t]?=some (if t<k∨xs.length-k≤t then xs.getD (xs.length-1-t) (0,(0,(0,()))) else xs.getD t (0,(0,(0,())))):=by
   unfold revK;rw[List.getElem?_map,List.getElem?_range ht];rfl
  rw[List.getElem?_eq_getElem h1] at e;rw[Option.some.inj e,List.getElem_reverse];by_cases c:t<k∨xs.length-k≤t
  ·rw[if_pos c];simp[List.getD_eq_getElem?_getD,show xs.length-1-t<xs.length by omega]
  ·rw[if_neg c]
   have:t=xs.length-1-t:=by omega
   simp only[←this];simp[List.getD_eq_getElem?_getD,ht]
theorem way_L2 (xs:List Mv) (hx:xs.length≤1000000):iterW qd6 ((0,(w64 (((xs.length:Nat):Int)-1)),()),(xs,()))=some ((),(xs.reverse,())):=by
 have:=qaq (f:=qd6) (xs.length / 2) (fun k=>(((k:Int),((xs.length:Nat):Int)-1-(k:Int),()),(revK xs k,()))) ((),(xs.reverse,())) (fun k hk=>by
  unfold qd6
  have e1:(((xs.length:Nat):Int)-1-(k:Int)).toNat=xs.length-1-k:=by omega
  simp only[show decide ((k:Int)<((xs.length:Nat):Int)-1-(k:Int))=true by simp;omega,cond_true];rw[show inb (((xs.length:Nat):Int)-1-(k:Int)) (revK xs k).length=true from inb_iff.2 (by rw[qeQ];omega),show inb (k:Int) (revK xs k).length=true from inb_iff.2 (by rw[qeQ];omega)];simp only[qc,Int.toNat_natCast,e1]
  rw[show ∀y,inb (((xs.length:Nat):Int)-1-(k:Int)) ((revK xs k).set k y).length=true from fun y=>inb_iff.2 (by rw[List.length_set,qeQ];omega),qc,revK_step xs k (by omega),qf (by omega) (by omega),qf (by omega) (by omega),show((k+1:Nat):Int)=(k:Int)+1 by omega,show((xs.length:Nat):Int)-1-((k:Int)+1)=((xs.length:Nat):Int)-1-(k:Int)-1 by omega]) (by
  unfold qd6;simp only[show decide (((xs.length / 2:Nat):Int)<((xs.length:Nat):Int)-1-((xs.length / 2:Nat):Int))=false by simp only[decide_eq_false_iff_not];omega,cond_false]
  rw[revK_all xs _ (by omega) (by omega)])
 simp only[Int.natCast_zero,Int.sub_zero,revK_zero] at this;rw[qf (by omega) (by omega)];exact this
theorem way_rec (x:Rec) (hn:x.2.2.1.length≤1000) {n:Int} (h0 : -1≤n) (h1:n<((x.2.2.1.length:Nat):Int)) (hd:Down x.2.2.1 (n+1).toNat):qat x n=some (wayM x.2.2.1 n):=by
 unfold qat;have e:=way_L1 x hn (([],n,()),()) ⟨h1,hd,by simp only[List.length_nil];omega⟩;simp only[List.nil_append] at e;have hl:=qmb _ n (Nat.le_refl _) hd;rw[e,Option.bind_some];simp only;rw[way_L2 _ (by rw[List.length_map];omega),Option.bind_some];rfl
theorem on_L1 (a:Int) (x:Rec):∀s:((Int×Unit)×Unit),(s.1.1<((x.2.2.1.length:Nat):Int)∧Down x.2.2.1 (s.1.1+1).toNat) →
  iterW (qfG a x) s=some (if 0≤a∧a.toNat∈wayN x.2.2.1 s.1.1 then .inr true else .inl ((),())):=by
 refine qt8 _ (fun s:((Int×Unit)×Unit)=>(s.1.1+1).toNat) (fun s=>if 0≤a∧a.toNat∈wayN x.2.2.1 s.1.1 then(Sum.inr true:(Unit×Unit) ⊕ Bool) else Sum.inl ((),())) ?_
 rintro ⟨⟨n,⟨⟩⟩,⟨⟩⟩ ⟨h1,hd⟩
 simp only at h1 hd ⊢;by_cases h:n<0
 ·refine .inr ?_;unfold qfG;simp only[show decide (n≥0)=false by simp;omega,cond_false,qf0 _ h];rw[if_neg (by simp)]
 ·have hp:=hd n.toNat (by omega);have hw:=qh0 (ns:=x.2.2.1) (by omega) hd;by_cases ha:n=a
  ·refine .inr ?_;subst ha;unfold qfG;simp only[show decide (n≥0)=true by simp;omega,cond_true,beq_self_eq_true];rw[if_pos ⟨by omega,by rw[hw];exact List.mem_cons_self⟩]
  ·refine .inl ⟨((rpar x.2.2.1 n.toNat,()),()),?_,⟨by simp only;omega,hd.mono (by simp only;omega)⟩,by simp only;omega,?_⟩
   ·obtain⟨d,e1,e2,e3⟩:=at_node (ns:=x.2.2.1) (n:=n) (by omega) h1;unfold qfG;simp only[show decide (n≥0)=true by simp;omega,cond_true,beq_f ha,cond_false];rw[e1,Option.bind_some,e2]
   ·simp only;rw[hw];have:(0≤a∧a.toNat∈n.toNat::wayN x.2.2.1 (rpar x.2.2.1 n.toNat))↔(0≤a∧a.toNat∈wayN x.2.2.1 (rpar x.2.2.1 n.toNat)):=by
     rw[List.mem_cons];constructor
     ·rintro ⟨q1,q2 | q2⟩
      ·omega
      ·exact⟨q1,q2⟩
     ·rintro ⟨q1,q2⟩;exact⟨q1,.inr q2⟩
    simp only[this]
theorem on_spec (x:Rec) (a:Int) {n:Int} (h1:n<((x.2.2.1.length:Nat):Int)) (hd:Down x.2.2.1 (n+1).toNat):qj0 x a n=some (decide (0≤a∧a.toNat∈wayN x.2.2.1 n)||(a == -1)):=by
 unfold qj0;rw[on_L1 a x ((n,()),()) ⟨h1,hd⟩,Option.bind_some];by_cases h:0≤a∧a.toNat∈wayN x.2.2.1 n
 ·simp only[if_pos h,decide_eq_true h,Bool.true_or];rfl
 ·simp only[if_neg h,decide_eq_false h,Bool.false_or];rfl

def rcom (ns:List RNode) (i:Nat):ByteArray:=((ns[i]?).map (·.2.2.1)).getD ByteArray.empty
def gErr (r:Rules) (l:List Mv):Int:=if qz r=0 then(match qgD r l with
  | .inl _=>0
  | .inr e=>e) else qz r
theorem run_err (r:Rules) (l:List Mv):(qi3 r l).2.2.1=gErr r l:=by
 unfold qi3 gErr;by_cases c:qz r=0
 ·rw[if_pos c,if_pos c]
  cases qgD r l<;>rfl
 ·rw[if_neg c,if_neg c]
def ordB (ns:List RNode) (i:Nat):Bool:=decide (rpar ns i<(i:Int))&&(decide (0≤rpar ns i∧(rpar ns i).toNat∈wayN ns ((i:Int)-1))||(rpar ns i == -1))
def twinB (ns:List RNode) (i:Nat):Bool:=(List.range i).any fun k=>(rpar ns k==rpar ns i)&&(rmv ns k==rmv ns i)
def sibB (ns:List RNode) (i:Nat):Bool:=(List.range i).any fun k=>rpar ns k==rpar ns i
def nErr (r:Rules) (ns:List RNode) (i:Nat):Int:=if cErr (rcom ns i)≠0 then cErr (rcom ns i) else if ordB ns i=false then 3 else if twinB ns i=true then 7 else gErr r (wayM ns (i:Int))
def Ord (ns:List RNode) (k:Nat):Prop:=∀i,i<k→ordB ns i=true
theorem Ord.down {ns:List RNode} {k:Nat} (h:Ord ns k):Down ns k:=fun i hi=>by
 have:=h i hi;unfold ordB at this;simp only[Bool.and_eq_true,decide_eq_true_eq] at this;exact this.1
theorem Ord.low {ns:List RNode} {k:Nat} (h:Ord ns k):∀i,i<k → -1≤rpar ns i:=fun i hi=>by
 have:=h i hi;unfold ordB at this;simp only[Bool.and_eq_true,Bool.or_eq_true,decide_eq_true_eq,beq_iff_eq] at this;omega
theorem Ord.step {ns:List RNode} {k:Nat} (h:Ord ns k) (hk:ordB ns k=true):Ord ns (k+1):=fun i hi=>by
 by_cases e:i=k
 ·subst e;exact hk
 ·exact h i (by omega)
theorem qhZ {ns:List RNode} {i:Nat} (hi:i<ns.length):ns[i].1=rpar ns i∧ns[i].2.1=rmv ns i∧ns[i].2.2.1=rcom ns i:=by
 unfold rpar rmv rcom;rw[List.getElem?_eq_getElem hi];exact⟨rfl,rfl,rfl⟩
theorem sib_gap {ns:List RNode} {i:Nat} (h:Down ns i) (hs:sibB ns i=true):rpar ns i+2≤(i:Int)∨rpar ns i<0∧1≤i:=by
 unfold sibB at hs;rw[List.any_eq_true] at hs;obtain⟨k,hk,e⟩:=hs;have hk:=List.mem_range.1 hk;have:=h k hk
 have e:rpar ns k=rpar ns i:=by simpa using e
 omega
structure DeepOK (ns:List RNode) (deep:List Int) (i:Nat):Prop where
 len:deep.length=ns.length
 all:∀j,j<ns.length→0≤deep.getD j 0∧2*deep.getD j 0≤(j:Int)+1
 zero:∀j,i≤j→deep.getD j 0=0
theorem gdD (xs:List Int) (i:Nat):getD' xs i 0=xs.getD i 0:=rfl
theorem setD (xs:List Int) (i j:Nat) (a:Int) (h:i<xs.length):(xs.set i a).getD j 0=if i=j then a else xs.getD j 0:=by
 rw[List.getD_eq_getElem?_getD,List.getD_eq_getElem?_getD,List.getElem?_set];by_cases e:i=j
 ·rw[if_pos e,if_pos e,if_pos h];rfl
 ·rw[if_neg e,if_neg e]
abbrev eqMv (a b:Mv):Bool:=(a.1==b.1)&&((a.2.1==b.2.1)&&((a.2.2.1==b.2.2.1)&&true))
theorem qvF (a b:Mv):eqMv a b=(a==b):=by
 obtain⟨a1,a2,a3,⟨⟩⟩:=a;obtain⟨b1,b2,b3,⟨⟩⟩:=b;rw[Bool.eq_iff_iff];simp[eqMv]
theorem qlW {r:Rules} (hr:Rng qae r) (x:Rec) (hx:Rng tyRec x) (h30:x.2.2.1.length≤30) {i:Nat} (hi:i<x.2.2.1.length) (ho:Ord x.2.2.1 i) {deep:List Int} (hD:DeepOK x.2.2.1 deep i) :
  ∃deep',qfa deep r x (i:Int)=some (deep',nErr r x.2.2.1 i)∧(nErr r x.2.2.1 i=0→DeepOK x.2.2.1 deep' (i+1)):=by
 have hcs:(rcom x.2.2.1 i).size≤9223372036854775807:=by
  have:=(hx.2.2.1.2 _ (List.getElem_mem hi)).2.2.1;rw[←(qhZ hi).2.2];exact this
 have hd:=ho.down;obtain⟨n1,n2,n3⟩:=qhZ hi;unfold qfa;rw[qmS _ _ hi,Option.bind_some];simp only[n1,n2,n3];rw[qjh _ hcs,Option.bind_some];unfold nErr;by_cases hc:cErr (rcom x.2.2.1 i)=0
 rotate_left
 ·rw[bne_t hc,cond_true,if_pos hc];exact⟨_,rfl,fun h=>absurd h hc⟩
 rw[bne_f hc,cond_false,if_neg (fun h=>h hc)];have hon:qj0 x (rpar x.2.2.1 i) (w64 ((i:Int)-1))=some (decide (0≤rpar x.2.2.1 i∧(rpar x.2.2.1 i).toNat∈wayN x.2.2.1 ((i:Int)-1))||(rpar x.2.2.1 i == -1)):=by
  rw[qf (by omega) (by omega)];exact on_spec x _ (by omega) (by rw[show((i:Int)-1+1).toNat=i by omega];exact hd)
 rw[hon];by_cases hob:ordB x.2.2.1 i=true
 rotate_left
 ·rw[Bool.not_eq_true] at hob;rw[if_pos hob];refine⟨deep,?_,fun h=>by cases h⟩;unfold ordB at hob;by_cases hp:rpar x.2.2.1 i<(i:Int)
  ·rw[decide_eq_true hp,Bool.true_and] at hob;rw[show decide (rpar x.2.2.1 i≥(i:Int))=false by simp only[decide_eq_false_iff_not];omega,hob];rfl
  ·rw[show decide (rpar x.2.2.1 i≥(i:Int))=true by simp only[decide_eq_true_eq];omega];rfl
 rw[if_neg (by rw[hob];decide)];have hor:=ho.step hob;have hd1:=hor.down;have hpi:=hd1 i (Nat.lt_succ_self i);have hpl:=hor.low i (Nat.lt_succ_self i);have hob2:=hob;unfold ordB at hob2;rw[decide_eq_true hpi,Bool.true_and] at hob2;rw[show decide (rpar x.2.2.1 i≥(i:Int))=false by simp only[decide_eq_false_iff_not];omega,hob2];simp only[Bool.not_false,gopt,cond_true,Option.bind_some,Bool.not_true,Bool.or_self,cond_false];have hdl:=hD.len
 obtain⟨dp,hdp1,hdp2⟩:∃dp:List Int,(bif (decide (rpar x.2.2.1 i≥0)) then req (inb (rpar x.2.2.1 i) deep.length) (req (inb (i:Int) deep.length) (some ((),((deep.set (((i:Int)).toNat) (getD' deep ((rpar x.2.2.1 i).toNat) 0)),()))))
   else some ((),(deep,())))=some ((),(dp,()))∧(DeepOK x.2.2.1 dp (i+1)∧(2*dp.getD i 0≤rpar x.2.2.1 i+1)):=by
  by_cases h0:0≤rpar x.2.2.1 i
  ·rw[show decide (rpar x.2.2.1 i≥0)=true by simp only[decide_eq_true_eq];omega,cond_true,inb_iff.2 ⟨h0,by omega⟩,qc,show inb (i:Int) deep.length=true from inb_iff.2 (by omega),qc];have q:=hD.all (rpar x.2.2.1 i).toNat (by omega);refine⟨_,rfl,⟨by rw[List.length_set];exact hdl,fun j hj=>?_,fun j hj=>?_⟩,?_⟩
   ·rw[Int.toNat_natCast,gdD,setD _ _ _ _ (by omega)];by_cases e:i=j
    ·rw[if_pos e];omega
    ·rw[if_neg e];exact hD.all j hj
   ·rw[Int.toNat_natCast,gdD,setD _ _ _ _ (by omega),if_neg (by omega)];exact hD.zero j (by omega)
   ·rw[Int.toNat_natCast,gdD,setD _ _ _ _ (by omega),if_pos rfl];omega
  ·rw[show decide (rpar x.2.2.1 i≥0)=false by simp only[decide_eq_false_iff_not];omega,cond_false];exact⟨_,rfl,⟨hdl,hD.all,fun j hj=>hD.zero j (by omega)⟩,by rw[hD.zero i (Nat.le_refl _)];omega⟩
 rw[hdp1,Option.bind_some];rw[show qk 0 (i:Int) x.2.2.1.length=true by simp only[qk,Bool.and_eq_true,decide_eq_true_eq];omega,qc,qc]
 have htl:(x.2.2.1.take i).length=i:=by rw[List.length_take];omega
 have tk:∀k (hk:k<(x.2.2.1.take i).length),(x.2.2.1.take i)[k].1=rpar x.2.2.1 k∧(x.2.2.1.take i)[k].2.1=rmv x.2.2.1 k:=fun k hk=>by
  rw[List.getElem_take];exact⟨(qhZ (by omega)).1,(qhZ (by omega)).2.1⟩
 obtain⟨nd,hnd⟩:∃nd:RNode,x.2.2.1[i]=nd:=⟨_,rfl⟩;rw[hnd] at n1 n2;rw[hnd];have anyT:(x.2.2.1.take i).any (fun d=>(d.1==rpar x.2.2.1 i)&&(d.2.1==rmv x.2.2.1 i))=twinB x.2.2.1 i:=by
  unfold twinB;rw[Bool.eq_iff_iff,List.any_eq_true,List.any_eq_true];constructor
  ·rintro ⟨d,hd,e⟩
   obtain⟨k,hk,rfl⟩:=List.mem_iff_getElem.1 hd;rw[(tk k hk).1,(tk k hk).2] at e;exact⟨k,List.mem_range.2 (by omega),e⟩
  ·rintro ⟨k,hk,e⟩
   have hk:=List.mem_range.1 hk;refine⟨(x.2.2.1.take i)[k]'(by omega),List.getElem_mem _,?_⟩;rw[(tk k (by omega)).1,(tk k (by omega)).2];exact e
 have anyS:(x.2.2.1.take i).any (fun d=>d.1==rpar x.2.2.1 i)=sibB x.2.2.1 i:=by
  unfold sibB;rw[Bool.eq_iff_iff,List.any_eq_true,List.any_eq_true];constructor
  ·rintro ⟨d,hd,e⟩
   obtain⟨k,hk,rfl⟩:=List.mem_iff_getElem.1 hd;rw[(tk k hk).1] at e;exact⟨k,List.mem_range.2 (by omega),e⟩
  ·rintro ⟨k,hk,e⟩
   have hk:=List.mem_range.1 hk;refine⟨(x.2.2.1.take i)[k]'(by omega),List.getElem_mem _,?_⟩;rw[(tk k (by omega)).1];exact e
 have hL1:=qag (x.2.2.1.take i) (fun d=>(d.1==rpar x.2.2.1 i)&&(d.2.1==rmv x.2.2.1 i)) (qbk x (i:Int) nd ((),(dp,()))) (.inr (dp,7)) (.inl ((),())) (fun k hk=>by
  unfold qbk;simp only[Int.toNat_natCast,List.drop_zero,n1,n2];rw[htl];simp only[show decide ((k:Int)<((i:Nat):Int))=true by simp;omega,cond_true];rw[qmS _ _ hk,Option.bind_some,(tk k hk).1,(tk k hk).2];rw[qf (n:=(k:Int)+1) (by omega) (by omega)];have:=qvF (rmv x.2.2.1 k) (rmv x.2.2.1 i);unfold eqMv at this;rw[this];cases e1:(rpar x.2.2.1 k==rpar x.2.2.1 i)
  ·simp only[bne,e1,Bool.not_false,cond_true,Option.bind_some,Sum.elim_inl,Bool.false_and,cond_false];rfl
  ·simp only[bne,e1,Bool.not_true,cond_false,Bool.true_and]
   cases (rmv x.2.2.1 k==rmv x.2.2.1 i)<;>rfl) (by
  unfold qbk;simp only[Int.toNat_natCast,List.drop_zero];rw[htl]
  simp)
 rw[hL1,anyT,Option.bind_some];cases htw:twinB x.2.2.1 i
 rotate_left
 ·simp only[cond_true,Sum.elim_inr,if_true];exact⟨dp,rfl,fun h=>by cases h⟩
 simp only[cond_false,Sum.elim_inl,if_neg (show ¬(false=true) by decide)];have hway:qat x (i:Int)=some (wayM x.2.2.1 (i:Int)):=way_rec x (by omega) (by omega) (by omega) (by rw[show((i:Int)+1).toNat=i+1 by omega];exact hd1);have hwl:(wayM x.2.2.1 (i:Int)).length≤1000:=by
  unfold wayM;rw[List.length_reverse,List.length_map];have:=qmb _ (i:Int) (Nat.le_refl _) (by rw[show((i:Int)+1).toNat=i+1 by omega];exact hd1);omega
 have hrun:=qmP r (wayM x.2.2.1 (i:Int)) hr (by omega)
 have gm:∀z:List Int,z.length=x.2.2.1.length→2*z.getD i 0≤(i:Int)+1→(Option.bind (Option.bind (qat x (i:Int)) fun r15=>Option.bind (qah r r15) fun r16=>some ((r16.2.2.1,()),())) fun x27:((Int×Unit)×Unit) =>
   bif (x27.1.1 !=0) then some (z,x27.1.1) else req (inb (i:Int) z.length) (bif (decide ((getD' z (((i:Int)).toNat) 0)>20)) then some (z,2) else some (z,0)))=some (z,gErr r (wayM x.2.2.1 (i:Int))):=fun z hz h2=>by
  rw[hway,Option.bind_some,hrun,Option.bind_some,Option.bind_some,run_err];by_cases e:gErr r (wayM x.2.2.1 (i:Int))=0
  ·simp only[e,bne_self_eq_false,cond_false];rw[inb_iff.2 ⟨by omega,by omega⟩,qc,Int.toNat_natCast,gdD,show decide (z.getD i 0>20)=false by simp only[decide_eq_false_iff_not];omega,cond_false]
  ·simp only[bne_t e,cond_true]
 have hL2:=qag (x.2.2.1.take i) (fun d=>d.1==rpar x.2.2.1 i) (qbj x (i:Int) nd ((),(dp,())) r) (.inr ((dp.set i (dp.getD i 0+1)),gErr r (wayM x.2.2.1 (i:Int)))) (.inl ((),())) (fun k hk=>by
  unfold qbj;simp only[Int.toNat_natCast,List.drop_zero,n1,n2];rw[htl];simp only[show decide ((k:Int)<((i:Nat):Int))=true by simp;omega,cond_true];rw[qmS _ _ hk,Option.bind_some,(tk k hk).1];rw[qf (n:=(k:Int)+1) (by omega) (by omega)];cases e1:(rpar x.2.2.1 k==rpar x.2.2.1 i)
  ·rfl
  ·have hs:sibB x.2.2.1 i=true:=by
    unfold sibB;rw[List.any_eq_true];exact⟨k,List.mem_range.2 (by omega),e1⟩
   have hgap:=sib_gap hd hs;have hq:=hdp2.1.all i hi;have hq2:=hdp2.2;have hdl2:=hdp2.1.len;simp only[cond_true,show decide ((k:Int)≥0)=true by simp];rw[inb_iff.2 ⟨by omega,by omega⟩,qc,qc,Option.bind_some];simp only[agree_self];have:=gm (dp.set i (dp.getD i 0+1)) (by rw[List.length_set];exact hdl2) (by rw[setD _ _ _ _ (by omega),if_pos rfl];omega);simp only[Int.toNat_natCast] at this;rw[gdD,qf (by omega) (by omega),this]
   rfl) (by
  unfold qbj;simp only[Int.toNat_natCast,List.drop_zero];rw[htl]
  simp)
 rw[hL2,anyS,Option.bind_some];have hq:=hdp2.1.all i hi;have hq2:=hdp2.2;have hdl2:=hdp2.1.len;cases hsb:sibB x.2.2.1 i
 ·simp only[cond_false,Sum.elim_inl,agree_self];exact⟨dp,gm dp hdl2 (by omega),fun _=>hdp2.1⟩
 ·have hgap:=sib_gap hd hsb;simp only[cond_true,Sum.elim_inr];refine⟨_,rfl,fun _=>⟨by rw[List.length_set];exact hdl2,fun j hj=>?_,fun j hj=>?_⟩⟩
  ·rw[setD _ _ _ _ (by omega)];by_cases e:i=j
   ·rw[if_pos e];omega
   ·rw[if_neg e];exact hdp2.1.all j hj
  ·rw[setD _ _ _ _ (by omega),if_neg (by omega)];exact hdp2.1.zero j hj
theorem scan_nz (e:Nat→Int) (i k:Nat):scan (fun i=>nz (e i)) 0 i (k+1)=if e i=0 then scan (fun i=>nz (e i)) 0 (i+1) k else e i:=by
 by_cases h:e i=0
 ·rw[if_pos h]
  conv=>lhs;unfold scan
  simp only[nz,if_pos h]
 ·rw[if_neg h]
  conv=>lhs;unfold scan
  simp only[nz,if_neg h]
theorem nErr_ord {r:Rules} {ns:List RNode} {i:Nat} (h:nErr r ns i=0):ordB ns i=true:=by
 unfold nErr at h;split at h
 ·contradiction
 ·cases e:ordB ns i
  ·rw[e,if_pos rfl] at h;cases h
  ·rfl
set_option maxHeartbeats 1000000

def dpN (ns:List RNode) (n:Int):Int:=(((wayN ns n).countP (sibB ns):Nat):Int)
theorem dpN_neg (ns:List RNode) {n:Int} (h:n<0):dpN ns n=0:=by unfold dpN;rw[qf0 _ h];rfl
theorem dpN_pos {ns:List RNode} {n:Int} (h:0≤n) (hd:Down ns (n+1).toNat):dpN ns n=(if sibB ns n.toNat=true then 1 else 0)+dpN ns (rpar ns n.toNat):=by
 unfold dpN;rw[qh0 h hd,List.countP_cons]
 split<;>omega
theorem dpN_le {ns:List RNode} {n:Int} (hd:Down ns (n+1).toNat):0≤dpN ns n∧dpN ns n≤((n+1).toNat:Nat):=by
 unfold dpN;have h1:=qmb (ns:=ns) _ n (Nat.le_refl _) hd;have h2:=List.countP_le_length (p:=sibB ns) (l:=wayN ns n);omega
def nErrX (r:Rules) (ns:List RNode) (i:Nat):Int:=if nErr r ns i≠0 then nErr r ns i else if 20<dpN ns (i:Int) then 2 else 0
theorem qrX {r:Rules} {ns:List RNode} {i:Nat} {v:Int} (h:nErr r ns i=v) (hv:v≠0):v=nErrX r ns i:=by
 unfold nErrX;rw[h,if_pos hv]
structure DeepX (ns:List RNode) (deep:List Int) (i:Nat):Prop where
 len:deep.length=ns.length
 all:∀j,j<i→deep.getD j 0=dpN ns (j:Int)
 zero:∀j,i≤j→deep.getD j 0=0
theorem qxj {r:Rules} (hr:Rng qae r) (x:Rec) (hx:Rng tyRec x) (h30:x.2.2.1.length≤1000) {i:Nat} (hi:i<x.2.2.1.length) (ho:Ord x.2.2.1 i) {deep:List Int} (hD:DeepX x.2.2.1 deep i) :
  ∃deep' e,qfa deep r x (i:Int)=some (deep',e)∧e=nErrX r x.2.2.1 i∧(e=0→DeepX x.2.2.1 deep' (i+1)):=by
 have hcs:(rcom x.2.2.1 i).size≤9223372036854775807:=by
  have:=(hx.2.2.1.2 _ (List.getElem_mem hi)).2.2.1;rw[←(qhZ hi).2.2];exact this
 have hd:=ho.down;obtain⟨n1,n2,n3⟩:=qhZ hi;unfold qfa;rw[qmS _ _ hi,Option.bind_some];simp only[n1,n2,n3];rw[qjh _ hcs,Option.bind_some];by_cases hc:cErr (rcom x.2.2.1 i)=0
 rotate_left
 ·rw[bne_t hc,cond_true];exact⟨_,_,rfl,qrX (by unfold nErr;rw[if_pos hc]) hc,fun h=>absurd h hc⟩
 rw[bne_f hc,cond_false];have hon:qj0 x (rpar x.2.2.1 i) (w64 ((i:Int)-1))=some (decide (0≤rpar x.2.2.1 i∧(rpar x.2.2.1 i).toNat∈wayN x.2.2.1 ((i:Int)-1))||(rpar x.2.2.1 i == -1)):=by
  rw[qf (by omega) (by omega)];exact on_spec x _ (by omega) (by rw[show((i:Int)-1+1).toNat=i by omega];exact hd)
 rw[hon];by_cases hob:ordB x.2.2.1 i=true
 rotate_left
 ·rw[Bool.not_eq_true] at hob;refine⟨deep,3,?_,qrX (by unfold nErr;rw[if_neg (fun h=>h hc),if_pos hob]) (by decide),fun h=>by cases h⟩;unfold ordB at hob;by_cases hp:rpar x.2.2.1 i<(i:Int)
  ·rw[decide_eq_true hp,Bool.true_and] at hob;rw[show decide (rpar x.2.2.1 i≥(i:Int))=false by simp only[decide_eq_false_iff_not];omega,hob];rfl
  ·rw[show decide (rpar x.2.2.1 i≥(i:Int))=true by simp only[decide_eq_true_eq];omega];rfl
 have hor:=ho.step hob;have hd1:=hor.down;have hpi:=hd1 i (Nat.lt_succ_self i);have hpl:=hor.low i (Nat.lt_succ_self i);have hob2:=hob;unfold ordB at hob2;rw[decide_eq_true hpi,Bool.true_and] at hob2;rw[show decide (rpar x.2.2.1 i≥(i:Int))=false by simp only[decide_eq_false_iff_not];omega,hob2];simp only[Bool.not_false,gopt,cond_true,Option.bind_some,Bool.not_true,Bool.or_self,cond_false];have hdl:=hD.len
 obtain⟨dp,hdp1,hdp2⟩:∃dp:List Int,(bif (decide (rpar x.2.2.1 i≥0)) then req (inb (rpar x.2.2.1 i) deep.length) (req (inb (i:Int) deep.length) (some ((),((deep.set (((i:Int)).toNat) (getD' deep ((rpar x.2.2.1 i).toNat) 0)),()))))
   else some ((),(deep,())))=some ((),(dp,()))∧(dp.length=x.2.2.1.length∧(∀j,j<i→dp.getD j 0=dpN x.2.2.1 (j:Int))∧(∀j,i<j→dp.getD j 0=0)∧dp.getD i 0=dpN x.2.2.1 (rpar x.2.2.1 i)):=by
  by_cases h0:0≤rpar x.2.2.1 i
  ·rw[show decide (rpar x.2.2.1 i≥0)=true by simp only[decide_eq_true_eq];omega,cond_true,inb_iff.2 ⟨h0,by omega⟩,qc,show inb (i:Int) deep.length=true from inb_iff.2 (by omega),qc];have q:=hD.all (rpar x.2.2.1 i).toNat (by omega);refine⟨_,rfl,by rw[List.length_set];exact hdl,fun j hj=>?_,fun j hj=>?_,?_⟩
   ·rw[Int.toNat_natCast,gdD,setD _ _ _ _ (by omega),if_neg (by omega)];exact hD.all j hj
   ·rw[Int.toNat_natCast,gdD,setD _ _ _ _ (by omega),if_neg (by omega)];exact hD.zero j (by omega)
   ·rw[Int.toNat_natCast,gdD,setD _ _ _ _ (by omega),if_pos rfl,q,show(((rpar x.2.2.1 i).toNat:Nat):Int)=rpar x.2.2.1 i by omega]
  ·rw[show decide (rpar x.2.2.1 i≥0)=false by simp only[decide_eq_false_iff_not];omega,cond_false];exact⟨_,rfl,hdl,hD.all,fun j hj=>hD.zero j (by omega),by rw[hD.zero i (Nat.le_refl _),dpN_neg _ (by omega)]⟩
 rw[hdp1,Option.bind_some];rw[show qk 0 (i:Int) x.2.2.1.length=true by simp only[qk,Bool.and_eq_true,decide_eq_true_eq];omega,qc,qc]
 have htl:(x.2.2.1.take i).length=i:=by rw[List.length_take];omega
 have tk:∀k (hk:k<(x.2.2.1.take i).length),(x.2.2.1.take i)[k].1=rpar x.2.2.1 k∧(x.2.2.1.take i)[k].2.1=rmv x.2.2.1 k:=fun k hk=>by
  rw[List.getElem_take];exact⟨(qhZ (by omega)).1,(qhZ (by omega)).2.1⟩
 obtain⟨nd,hnd⟩:∃nd:RNode,x.2.2.1[i]=nd:=⟨_,rfl⟩;rw[hnd] at n1 n2;rw[hnd];have anyT:(x.2.2.1.take i).any (fun d=>(d.1==rpar x.2.2.1 i)&&(d.2.1==rmv x.2.2.1 i))=twinB x.2.2.1 i:=by
  unfold twinB;rw[Bool.eq_iff_iff,List.any_eq_true,List.any_eq_true];constructor
  ·rintro ⟨d,hd,e⟩
   obtain⟨k,hk,rfl⟩:=List.mem_iff_getElem.1 hd;rw[(tk k hk).1,(tk k hk).2] at e;exact⟨k,List.mem_range.2 (by omega),e⟩
  ·rintro ⟨k,hk,e⟩
   have hk:=List.mem_range.1 hk;refine⟨(x.2.2.1.take i)[k]'(by omega),List.getElem_mem _,?_⟩;rw[(tk k (by omega)).1,(tk k (by omega)).2];exact e
 have anyS:(x.2.2.1.take i).any (fun d=>d.1==rpar x.2.2.1 i)=sibB x.2.2.1 i:=by
  unfold sibB;rw[Bool.eq_iff_iff,List.any_eq_true,List.any_eq_true];constructor
  ·rintro ⟨d,hd,e⟩
   obtain⟨k,hk,rfl⟩:=List.mem_iff_getElem.1 hd;rw[(tk k hk).1] at e;exact⟨k,List.mem_range.2 (by omega),e⟩
  ·rintro ⟨k,hk,e⟩
   have hk:=List.mem_range.1 hk;refine⟨(x.2.2.1.take i)[k]'(by omega),List.getElem_mem _,?_⟩;rw[(tk k (by omega)).1];exact e
 have hL1:=qag (x.2.2.1.take i) (fun d=>(d.1==rpar x.2.2.1 i)&&(d.2.1==rmv x.2.2.1 i)) (qbk x (i:Int) nd ((),(dp,()))) (.inr (dp,7)) (.inl ((),())) (fun k hk=>by
  unfold qbk;simp only[Int.toNat_natCast,List.drop_zero,n1,n2];rw[htl];simp only[show decide ((k:Int)<((i:Nat):Int))=true by simp;omega,cond_true];rw[qmS _ _ hk,Option.bind_some,(tk k hk).1,(tk k hk).2];rw[qf (n:=(k:Int)+1) (by omega) (by omega)];have:=qvF (rmv x.2.2.1 k) (rmv x.2.2.1 i);unfold eqMv at this;rw[this];cases e1:(rpar x.2.2.1 k==rpar x.2.2.1 i)
  ·simp only[bne,e1,Bool.not_false,cond_true,Option.bind_some,Sum.elim_inl,Bool.false_and,cond_false];rfl
  ·simp only[bne,e1,Bool.not_true,cond_false,Bool.true_and]
   cases (rmv x.2.2.1 k==rmv x.2.2.1 i)<;>rfl) (by
  unfold qbk;simp only[Int.toNat_natCast,List.drop_zero];rw[htl]
  simp)
 rw[hL1,anyT,Option.bind_some];cases htw:twinB x.2.2.1 i
 rotate_left
 ·simp only[cond_true,Sum.elim_inr];exact⟨dp,7,rfl,qrX (by unfold nErr;rw[if_neg (fun h=>h hc),if_neg (by rw[hob];decide),if_pos htw]) (by decide),fun h=>by cases h⟩
 simp only[cond_false,Sum.elim_inl]
 have hne:nErr r x.2.2.1 i=gErr r (wayM x.2.2.1 (i:Int)):=by unfold nErr;rw[if_neg (fun h=>h hc),if_neg (by rw[hob];decide),if_neg (by rw[htw];decide)]
 have hdi:=dpN_pos (ns:=x.2.2.1) (n:=(i:Int)) (by omega) (by rw[show((i:Int)+1).toNat=i+1 by omega];exact hd1);rw[Int.toNat_natCast] at hdi;have hdb:=dpN_le (ns:=x.2.2.1) (n:=(i:Int)) (by rw[show((i:Int)+1).toNat=i+1 by omega];exact hd1);have hway:qat x (i:Int)=some (wayM x.2.2.1 (i:Int)):=way_rec x (by omega) (by omega) (by omega) (by rw[show((i:Int)+1).toNat=i+1 by omega];exact hd1);have hwl:(wayM x.2.2.1 (i:Int)).length≤1000:=by
  unfold wayM;rw[List.length_reverse,List.length_map];have:=qmb _ (i:Int) (Nat.le_refl _) (by rw[show((i:Int)+1).toNat=i+1 by omega];exact hd1);omega
 have hrun:=qmP r (wayM x.2.2.1 (i:Int)) hr (by omega)
 have gm:∀z:List Int,z.length=x.2.2.1.length→z.getD i 0=dpN x.2.2.1 (i:Int)→(Option.bind (Option.bind (qat x (i:Int)) fun r15=>Option.bind (qah r r15) fun r16=>some ((r16.2.2.1,()),())) fun x27:((Int×Unit)×Unit) =>
   bif (x27.1.1 !=0) then some (z,x27.1.1) else req (inb (i:Int) z.length) (bif (decide ((getD' z (((i:Int)).toNat) 0)>20)) then some (z,2) else some (z,0)))=some (z,nErrX r x.2.2.1 i):=fun z hz h2=>by
  rw[hway,Option.bind_some,hrun,Option.bind_some,Option.bind_some,run_err];by_cases e:gErr r (wayM x.2.2.1 (i:Int))=0
  ·simp only[e,bne_self_eq_false,cond_false];rw[inb_iff.2 ⟨by omega,by omega⟩,qc,Int.toNat_natCast,gdD,h2];unfold nErrX;rw[hne,if_neg (fun h=>h e)];by_cases e2:20<dpN x.2.2.1 (i:Int)
   ·rw[if_pos e2,show decide (dpN x.2.2.1 (i:Int)>20)=true by simpa using e2,cond_true]
   ·rw[if_neg e2,show decide (dpN x.2.2.1 (i:Int)>20)=false by simpa using e2,cond_false]
  ·simp only[bne_t e,cond_true];unfold nErrX;rw[hne,if_pos e]
 have hL2:=qag (x.2.2.1.take i) (fun d=>d.1==rpar x.2.2.1 i) (qbj x (i:Int) nd ((),(dp,())) r) (.inr ((dp.set i (dp.getD i 0+1)),nErrX r x.2.2.1 i)) (.inl ((),())) (fun k hk=>by
  unfold qbj;simp only[Int.toNat_natCast,List.drop_zero,n1,n2];rw[htl];simp only[show decide ((k:Int)<((i:Nat):Int))=true by simp;omega,cond_true];rw[qmS _ _ hk,Option.bind_some,(tk k hk).1];rw[qf (n:=(k:Int)+1) (by omega) (by omega)];cases e1:(rpar x.2.2.1 k==rpar x.2.2.1 i)
  ·rfl
  ·have hs:sibB x.2.2.1 i=true:=by
    unfold sibB;rw[List.any_eq_true];exact⟨k,List.mem_range.2 (by omega),e1⟩
   have hq2:=hdp2.2.2.2;have hdl2:=hdp2.1;rw[hs] at hdi;simp only[if_true] at hdi;simp only[cond_true,show decide ((k:Int)≥0)=true by simp];rw[inb_iff.2 ⟨by omega,by omega⟩,qc,qc,Option.bind_some];simp only[agree_self];have:=gm (dp.set i (dp.getD i 0+1)) (by rw[List.length_set];exact hdl2) (by rw[setD _ _ _ _ (by omega),if_pos rfl,hq2,hdi];omega);simp only[Int.toNat_natCast] at this;rw[gdD,qf (by omega) (by omega),this]
   rfl) (by
  unfold qbj;simp only[Int.toNat_natCast,List.drop_zero];rw[htl]
  simp)
 rw[hL2,anyS,Option.bind_some];have hq2:=hdp2.2.2.2;have hdl2:=hdp2.1;cases hsb:sibB x.2.2.1 i
 ·simp only[cond_false,Sum.elim_inl,agree_self];rw[hsb] at hdi;simp only[Bool.false_eq_true,if_false,Int.zero_add] at hdi;exact⟨dp,_,gm dp hdl2 (by rw[hq2,hdi]),rfl,fun _=>⟨hdl2,fun j hj=>by
   by_cases e:j=i
   ·subst e;rw[hq2,hdi]
   ·exact hdp2.2.1 j (by omega),fun j hj=>hdp2.2.2.1 j (by omega)⟩⟩
 ·simp only[cond_true,Sum.elim_inr];rw[hsb] at hdi;simp only[if_true] at hdi;refine⟨_,_,rfl,rfl,fun _=>⟨by rw[List.length_set];exact hdl2,fun j hj=>?_,fun j hj=>?_⟩⟩
  ·rw[setD _ _ _ _ (by omega)];by_cases e:i=j
   ·subst e;rw[if_pos rfl,hq2,hdi];omega
   ·rw[if_neg e];exact hdp2.2.1 j (by omega)
  ·rw[setD _ _ _ _ (by omega),if_neg (by omega)];exact hdp2.2.2.1 j (by omega)

theorem qxK {r:Rules} {ns:List RNode} {i:Nat} (h:nErrX r ns i=0):nErr r ns i=0∧dpN ns (i:Int)≤20:=by
 unfold nErrX at h;by_cases e:nErr r ns i=0
 ·rw[if_neg (fun h=>h e)] at h;by_cases e2:20<dpN ns (i:Int)
  ·rw[if_pos e2] at h;cases h
  ·exact⟨e,by omega⟩
 ·rw[if_pos e] at h;exact absurd h e
theorem nErrX_ord {r:Rules} {ns:List RNode} {i:Nat} (h:nErrX r ns i=0):ordB ns i=true:=nErr_ord (qxK h).1
theorem qvx {r:Rules} (hr:Rng qae r) (x:Rec) (hx:Rng tyRec x) (h30:x.2.2.1.length≤1000):∀(k i:Nat) (deep:List Int),i+k=x.2.2.1.length→Ord x.2.2.1 i→DeepX x.2.2.1 deep i →
  Option.bind (iterW (qcs x r) (((i:Int),()),(deep,()))) (Sum.elim (fun _=>some 0) some)=some (scan (fun i=>nz (nErrX r x.2.2.1 i)) 0 i k):=by
 intro k
 induction k with
 | zero =>
  intro i deep hi ho hD
  have:i=x.2.2.1.length:=by omega
  subst this;rw[qi (r := .inl ((),(deep,()))) (by unfold qcs;simp)];rfl
 | succ k ih =>
  intro i deep hi ho hD;obtain⟨deep',e0,h1,he0,h2⟩:=qxj hr x hx h30 (i:=i) (by omega) ho hD;subst he0;have hs:=scan_nz (nErrX r x.2.2.1) i k;rw[hs];by_cases e:nErrX r x.2.2.1 i=0
  ·rw[if_pos e,qx (y:=((((i+1:Nat):Int),()),(deep',())))]
   ·exact ih (i+1) deep' (by omega) (ho.step (nErrX_ord e)) (h2 e)
   ·unfold qcs;simp only[show decide ((i:Int)<((x.2.2.1.length:Nat):Int))=true by simp;omega,cond_true];rw[h1,Option.bind_some];simp only[e,bne_self_eq_false,cond_false];rw[qf (by omega) (by omega)];rfl
  ·rw[if_neg e,qi (r := .inr (nErrX r x.2.2.1 i))]
   ·rfl
   ·unfold qcs;simp only[show decide ((i:Int)<((x.2.2.1.length:Nat):Int))=true by simp;omega,cond_true];rw[h1,Option.bind_some];simp only[bne_t e,cond_true]
def qsI (r:Rules) (x:Rec):Int:=if qz r≠0 then qz r else if 10<x.1.length then 2 else if qaH (tErr x.1) x.1.length≠0 then qaH (tErr x.1) x.1.length else if x.2.2.2.1<0∨3<x.2.2.2.1 then 4 else if cErr x.2.1≠0 then cErr x.2.1 else qaH (nErrX r x.2.2.1) x.2.2.1.length
theorem qnJ {r:Rules} (hr:Rng qae r) (x:Rec) (hx:Rng tyRec x) (h30:x.2.2.1.length≤200):qax r x=some (qsI r x):=by
 unfold qax qsI;rw[qjR r hr,Option.bind_some];by_cases c:qz r=0
 rotate_left
 ·rw[bne_t c,cond_true,if_pos c]
 rw[bne_f c,cond_false,if_neg (fun h=>h c)];rw[show decide (((x.2.2.1.length:Nat):Int)>200)=false by simp only[decide_eq_false_iff_not];omega,Bool.or_false];by_cases c1:10<x.1.length
 ·rw[if_pos c1,show decide (((x.1.length:Nat):Int)>10)=true by simp only[decide_eq_true_eq];omega];rfl
 rw[if_neg c1,show decide (((x.1.length:Nat):Int)>10)=false by simp only[decide_eq_false_iff_not];omega,cond_false,tags_spec x hx,Option.bind_some];by_cases c2:qaH (tErr x.1) x.1.length=0
 rotate_left
 ·rw[bne_t c2,cond_true,if_pos c2]
 rw[bne_f c2,cond_false,if_neg (fun h=>h c2)];by_cases c3:x.2.2.2.1<0∨3<x.2.2.2.1
 ·rw[if_pos c3,show(decide (x.2.2.2.1<0)||decide (x.2.2.2.1>3))=true by simp only[Bool.or_eq_true,decide_eq_true_eq];omega];rfl
 rw[if_neg c3,show(decide (x.2.2.2.1<0)||decide (x.2.2.2.1>3))=false by simp only[Bool.or_eq_false_iff,decide_eq_false_iff_not];omega,cond_false];rw[qjh _ hx.2.1,Option.bind_some];by_cases c4:cErr x.2.1=0
 rotate_left
 ·rw[bne_t c4,cond_true,if_pos c4]
 rw[bne_f c4,cond_false,if_neg (fun h=>h c4)]
 rw[show(decide (0≤((x.2.2.1.length:Nat):Int))&&((((x.2.2.1.length:Nat):Int)==((x.2.2.1.length:Nat):Int))&&room (((x.2.2.1.length:Nat):Int)).toNat 8))=true by
  rw[beq_self_eq_true,qO (by omega)];simp,qc]
 exact qvx hr x hx (by omega) x.2.2.1.length 0 _ (by omega) (fun i hi=>by omega) ⟨by simp,fun j hj=>by omega,fun j _=>by
  rw[List.getD_eq_getElem?_getD,List.getElem?_replicate]
  split<;>rfl⟩
theorem quO {e:Nat→Int} {n:Nat} (h:∀i,i<n→e i=0):qaH e n=0:=by
 rw[qrP (g:=fun _=>0) h];have key:∀k i,scan (fun i=>nz ((fun _=>(0:Int)) i)) 0 i k=0:=by
  intro k
  induction k with
  | zero=>intro i;rfl
  | succ k ih=>intro i;rw[scan_nz (fun _=>(0:Int)),if_pos rfl];exact ih (i+1)
 exact key n 0
end Go.Proofs.YthidcmjpbokeeaaGreatDoor
