/- Several texts in one: LvlR, LvlZ, LvlT, LvlY, DenQ, DenL, SearchM, RulesCore, CoreV, CoreM, CoreP, CoreN, CoreO, CoreR, CoreS2, CoreA, CoreB, Search, SearchP, SearchQ, SearchR, HandicapLevelsL. -/
import Derived.Test.YteahiolockghkaaGreatDoorMAF
import Derived.Test.YteahiolockghkaaGreatDoorMAD
import Derived.Test.YteahiolockghkaaGreatDoorMAE
import Derived.Test.YteahiolockghkaaGreatDoorMAA
import Derived.Laws.Strings
namespace Go.Proofs.YteahiolockghkaaGreatDoor
open Go.Den
namespace Lvl
set_option linter.unusedVariables false
set_option linter.unusedSimpArgs false
theorem qrK {L S0 SB Z:Nat} (hLe:L=1000) (hS0e:S0=14002) (hSBe:SB=182028) (hZe:Z=1000000) {A:List (List BQ)} {Bv C:List BQ} {n m:Nat} (hA:A.length=m) (hB:Bv.length=m) (hC:C.length=n) (hn:n≤12) (hm:m≤12) (hn0:0<n) (hm0:0<m)
  (hrow:∀r∈A,r.length=n∧∀q∈r,Qp q L) (hBp:∀q∈Bv,Qp q L) (hCp:∀q∈C,Qp q L) :
  ∃r,qhg ((A,(Bv,(C,()))):SP)=some r∧(r.2.1.length=n∧∀q∈r.2.1,Qz q Z)∧(r.2.2.1.length=m∧∀q∈r.2.2.1,Qz q Z)∧∃a c,Fq r.2.2.2.2.1 a c∧a≠0∧Sz a Z∧Sz c Z:=by
 obtain⟨one,o1,o2⟩:=qkj (n:=1) (by omega) (by omega);have s1:=need_spec (p:=((A,(Bv,(C,()))):SP)) hBp (by show Bv.length≤100;omega);obtain⟨fs,ns,t1,t2,t3,t4,t5⟩:=qu7 hA hB hC hn hm hn0 (L:=L) (by omega) hrow hBp o2;obtain⟨cl,f,F,w1,w2,w3,w4,w5,w6⟩:=qqU (row:=C) (L:=L) hCp (by omega) (by omega);rw[hC] at w2 w5 w6;have hn1:n*L≤12*1000:=Nat.mul_le_mul hn (by omega);obtain⟨SC,hSCe⟩:∃SC,SC=14001:=⟨_,rfl⟩;have w6':∀a∈cl,Ip a SC:=fun a ha=>by
  obtain⟨x,e1,e2,e3⟩:=w6 a ha;exact⟨x,e1,e2,e3.mono (by omega)⟩
 obtain⟨last,c1,c2,c3,c4⟩:=qvS (f:=f) (fs:=fs) (ns:=ns) (rows:=(List.range m).map fun k=>k+1) (one:=one) (b:=(List.range m).map fun k=>((n+k:Nat):Int)) (w:=((n+m:Nat):Int)) (N:=n+m+1) w6' (by omega) (by omega) o2 (by omega);rw[w2] at c3 c4;have hRC:RowC n m S0 last:=⟨c2,fun j hj=>by
  obtain⟨x,e1,e2,e3⟩:=c3 j hj
  exact⟨x,e1,e2,e3.mono (by omega)⟩,c4⟩
 have hR0:∀k,k<m→Row0 n m k S0 (rw' ns k):=fun k hk=>by
  obtain⟨q1,q2,q3,q4⟩:=t5 k hk;refine⟨q1,fun j hj=>?_,q3,?_⟩
  ·obtain⟨x,e1,e2,e3⟩:=q2 j hj;exact⟨x,e1,e2,e3.mono (by omega)⟩
  ·obtain⟨x,e1,e2,e3⟩:=q4;exact⟨x,e1,e2,e3.mono (by omega)⟩
 obtain⟨i1,i2,i3,i4,i5,i6,i7⟩:=init_T0 t4 hR0 hRC (by omega);have hW:=init_wfs t4 hR0 hRC (by omega) o2;have hpr:=qvf (p:=((A,(Bv,(C,()))):SP)) (r36:=(cl,(f,()))) (fs:=fs) (ns:=ns) (rows:=(List.range m).map fun k=>k+1) (one:=one) (n:=n) (m:=m) (w:=((n+m:Nat):Int)) (last:=last) hC (by omega) (by omega);obtain⟨T0,hT⟩:∃T0:Nat→Nat→Int,T0=fun i j=>vI (el (addP ns last) i j):=⟨_,rfl⟩
 have ht:∀i j,vI (el (addP ns last) i j)=T0 i j:=fun i j=>by rw[hT]
 rw[←hT] at hW;simp only[ht] at i2 i3 i4 i5 i6 i7;have hS0:=qdL S0;have hBn:((pw S0).toNat:Int)=pw S0:=Int.toNat_of_nonneg (Int.le_of_lt hS0);have hm1:2+S0*(m+1)≤SB:=by
  have:S0*(m+1)≤14002*13:=Nat.mul_le_mul (by omega) (by omega);omega
 have h0:∀i j,i<m→j<n+m→0≤T0 i j:=fun i j hi hj=>by
  rcases Nat.lt_or_ge j n with h | h
  ·exact Int.le_of_lt (i3 i j hi h)
  ·obtain⟨l,rfl⟩:∃l,j=n+l:=⟨j-n,by omega⟩;rw[i4 i l (by omega) (by omega)]
   split<;>omega
 have h1:∀c,c<n+m→∃l,l<m∧0<T0 l c:=fun c hc=>by
  rcases Nat.lt_or_ge c n with h | h
  ·exact⟨0,hm0,i3 0 c hm0 h⟩
  ·obtain⟨l,rfl⟩:∃l,c=n+l:=⟨c-n,by omega⟩;exact⟨l,by omega,by rw[i4 l l (by omega) (by omega),if_pos rfl];omega⟩
 have hTb:∀i j,i<m+1→j<n+m+1→(T0 i j).natAbs≤(pw S0).toNat:=fun i j hi hj=>by
  have:=i2 i j hi hj;unfold Sz at this;omega
 have hBS:((fac (m+1)*((pw S0).toNat) ^ (m+1):Nat):Int)<pw SB:=Int.lt_of_lt_of_le (bound_pw (m:=m) (S:=S0) hm) (qkB hm1);obtain⟨nsF,dF,bF,r1,r2,r3⟩:=run_spec hW (by omega) hm0 (by omega) (B:=(pw S0).toNat) (S:=SB) (by omega) hTb (by omega) hBS h0 h1;obtain⟨hbd,hbT⟩:=qrY r2.inv (by omega) hTb;have hzT:∀i j,i<m+1→j<n+m+1→Sz (vI (el nsF i j)) SB:=fun i j hi hj=>by
  have:(vI (el nsF i j)).natAbs≤fac (m+1)*((pw S0).toNat) ^ (m+1):=hbT i j hi hj;unfold Sz;omega
 have hzd:Sz (vI dF) SB:=by
  have:(vI dF).natAbs≤fac (m+1)*((pw S0).toNat) ^ (m+1):=hbd;unfold Sz;omega
 have hdpos:0<vI dF:=r2.inv.pos;have hvp:0<vI (el nsF m (n+m)):=value_pos r2.inv r3 i5 i7 hn0 (i6 0 hn0);obtain⟨SF,hSFe⟩:∃SF,SF=13000:=⟨_,rfl⟩;obtain⟨SU,hSUe⟩:∃SU,SU=200000:=⟨_,rfl⟩;obtain⟨y,y1,y2,y3⟩:=dual_spec (p:=((A,(Bv,(C,()))):SP)) (b:=bF) (w:=((n+m:Nat):Int)) (cl:=cl) r2.ok hzT hB hC hm hn r2.den hzd hdpos w3 (SF:=SF) (w5.mono (by omega)) w4 (by omega) (by omega);obtain⟨l0,z1,z2,z3⟩:=qvc (p:=((A,(Bv,(C,()))):SP)) hC hn;obtain⟨l,v1,v2,v3⟩:=qsT (p:=((A,(Bv,(C,()))):SP)) (w:=((n+m:Nat):Int)) r2.ok hzT hB hC hm hn r2.den hzd hdpos (by omega) (by omega) r2.bl r2.bn z2 (fun q hq=>(z3 q hq).mono (by omega))
 obtain⟨u,u1,u2,u3⟩:=qrs (y:=y) (fs:=fs) (T:=SU) (by omega) (by omega) (fun q hq=>(y3 q hq).mono (by omega)) (fun g hg=>by
  obtain⟨G,e1,e2,e3⟩:=t3 g hg
  exact⟨G,e1,e2,e3.mono (by omega)⟩) (by omega) (by omega)
 obtain⟨e,e1,e2⟩:=qam (qqC r2.den) (qjr w3) hzd w5 (by omega) (by omega);have hne:vI dF*F≠0:=Int.ne_of_gt (Int.mul_pos hdpos w4);obtain⟨q,a,c,q1,q2,q3,q4,q5⟩:=qtr r2.ok hzT (i:=m) (j:=n+m) (by omega) (by omega) e2 (hzd.mul w5) hne (by omega) (by omega);have ha0:a≠0:=fun h=>by
  rw[h,Int.zero_mul] at q3;have:=Int.mul_pos hvp q2.pos;omega
 refine⟨(0,(l,(u,([],(q,()))))),?_,⟨v2,fun r hr=>(v3 r hr).mono (by omega)⟩,⟨by show u.length=m;omega,fun r hr=>(u3 r hr).mono (by omega)⟩,a,c,q2,ha0,q4.mono (by omega),q5.mono (by omega)⟩
 have ew1:w64 (((n:Nat):Int)+((m:Nat):Int))=((n+m:Nat):Int):=by rw[wi_id (by omega) (by omega)];omega
 have ew2:w64 (((n+m:Nat):Int)+((0:Nat):Int))=((n+m:Nat):Int):=by rw[wi_id (by omega) (by omega)];omega
 have ew3:w64 (((n+m:Nat):Int)+1)=((n+m+1:Nat):Int):=wi_id (by omega) (by omega)
 have ew4:w64 (((n+m+1:Nat):Int)-1)=((n+m:Nat):Int):=by rw[wi_id (by omega) (by omega)];omega
 have hroom:(decide (0≤((n+m+1:Nat):Int))&&(((n+m+1:Nat):Int)==((n+m+1:Nat):Int)&&room (n+m+1) 32))=true:=by
  rw[room32 (by omega),beq_self_eq_true,Bool.and_true,Bool.and_true,decide_eq_true_eq];omega
 have hroom2:(decide (0≤((n:Nat):Int))&&(((n:Nat):Int)==((n:Nat):Int)&&room n 56))=true:=by
  rw[qfL (by omega),beq_self_eq_true,Bool.and_true,Bool.and_true,decide_eq_true_eq];omega
 have hlb:Nat.blt 0 last.length=true:=by rw[c2,Nat.blt_eq];omega
 have hr3:room (((List.range m).map fun k=>k+1).length+[ns.length+1].length) 24=true:=qoM (by simp;omega);have er1:(List.range m).map (fun k=>k+1)++[ns.length+1]=ids m:=by
  unfold ids;rw[List.range_succ,List.map_append,t4];rfl
 have hwi:qah C=some (cl,(f,())):=by
  unfold qah;rw[w1];rfl
 have hz:((false,([],())):BI)=zI:=rfl
 have hin:inb ((m:Nat):Int) (ids m).length=true:=by rw[qcJ];exact qA (by omega)
 have hbo:qh 0 ((m:Nat):Int) (ids m).length=true:=by rw[qcJ];simp[qh];omega
 have elen:lnP nsF (m+1)=n+m+1:=by rw[ln_rw];exact r2.ok.row m (by omega)
 have hneg:decide ((-1:Int)≥0)=false:=rfl;have hgt:decide ((((0:Nat)):Int)>0)=false:=rfl;unfold mk35 at c1 hpr;unfold mkx at r1;unfold mk83 at y1 v1;unfold qhg;simp only[s1,Option.bind_some,o1,hB,hC,ew1,t1,List.length_nil,hgt,cond_false,hwi,ew2,ew3,hroom,Int.toNat_natCast,qc,hz,c1,hpr,hlb,hr3,er1,r1,hin,hbo,hneg,y1,qcI (show m<m+1 by omega),elen,ew4,qA (show n+m<n+m+1 by omega),hroom2];have z1':iterW (qm ((A,(Bv,(C,()))):SP)) ((0,()),(List.replicate n (zI,([],())),()))=some ((),(l0,())):=z1;simp only[z1',Option.bind_some,v1,u1,e1,q1,agree_self]
end Lvl
namespace Lvl
set_option linter.unusedVariables false
set_option linter.unusedSimpArgs false
def nu (q:BQ):Int:=vI q.1
def de (q:BQ):Int:=val q.2.1
theorem Fq.nu {q:BQ} {a b:Int} (h:Fq q a b):nu q=a:=h.num.vI
theorem Fq.de {q:BQ} {a b:Int} (h:Fq q a b):de q=b:=h.den.val
theorem Qz.fq {q:BQ} {L:Nat} (h:Qz q L):Fq q (nu q) (de q)∧Sz (nu q) L∧Sz (de q) L:=by
 obtain⟨a,b,h1,h2,h3⟩:=h;rw[h1.nu,h1.de];exact⟨h1,h2,h3⟩
def qle (q r:BQ):Prop:=fle (nu q,de q) (nu r,de r)
def lst (q:BQ):Bool×(List Int)×(List Int)×Unit:=(q.1.1,(q.1.2.1,q.2))
theorem least_row {row:List BQ} {L:Nat} (hr:∀q∈row,Qz q L) (hl:row.length≤1000) (hL:L≤1000000000) {q0:BQ} (h0:Qz q0 L) :
  ∃q1,iterW (qa1 row) ((0,()),(lst q0,()))=some ((),(lst q1,()))∧Qz q1 L∧qle q1 q0∧∀q∈row,qle q1 q:=by
 have trans:∀ {a b c:BQ},Qz a L→Qz b L→Qz c L→qle a b→qle b c→qle a c:=fun ha hb hc h1 h2=>qdZ ha.fq.1.pos hb.fq.1.pos hc.fq.1.pos h1 h2;obtain⟨x,g1,q1,rfl,g2,g3,g4⟩:=qg (f:=qa1 row) (fun s=>∃q1,∃i:Nat,s=(((i:Int),()),(lst q1,()))∧i≤row.length∧Qz q1 L∧qle q1 q0∧∀k,(hk:k<row.length)→k<i→qle q1 row[k]) (fun s=>row.length-(s.1.1).toNat)
  (fun r=>∃q1,r=((),(lst q1,()))∧Qz q1 L∧qle q1 q0∧∀k,(hk:k<row.length)→qle q1 row[k]) (by
  rintro s ⟨q1,i,rfl,hi,f1,f2,f3⟩
  by_cases hlt:i<row.length
  ·have hd:decide ((i:Int)<((row.length:Nat):Int))=true:=by simp;omega
   have ei:w64 ((i:Int)+1)=((i+1:Nat):Int):=wi_id (by omega) (by omega);have hq:=hr row[i] (List.getElem_mem hlt);have hc:=qcmp_spec hq.fq.1 f1.fq.1 hq.fq.2.1 hq.fq.2.2 f1.fq.2.1 f1.fq.2.2 hL;have step:qa1 row (((i:Int),()),(lst q1,()))=some (.inl ((((i+1:Nat):Int),()),(lst (bif decide (nu row[i]*de q1-nu q1*de row[i]<0) then row[i] else q1),()))):=by
    have hc':qnm row[i] (((lst q1).1,((lst q1).2.1,())),(lst q1).2.2)=some (nu row[i]*de q1-nu q1*de row[i]).sign:=hc;unfold qa1;simp only[hd,cond_true,qp row hlt,Option.bind_some,hc',ql0,ei]
    cases decide (nu row[i]*de q1-nu q1*de row[i]<0)<;>rfl
   by_cases hneg:nu row[i]*de q1-nu q1*de row[i]<0
   ·rw[decide_eq_true hneg,cond_true] at step;have hle:qle row[i] q1:=by
     show nu row[i]*de q1≤nu q1*de row[i];omega
    refine .inl ⟨_,step,⟨row[i],i+1,rfl,hlt,hq,trans hq f1 h0 hle f2,fun k hk hki=>?_⟩,by simp;omega⟩;by_cases e:k=i
    ·subst e;exact qjt _
    ·exact trans hq f1 (hr _ (List.getElem_mem hk)) hle (f3 k hk (by omega))
   ·rw[decide_eq_false hneg,cond_false] at step;refine .inl ⟨_,step,⟨q1,i+1,rfl,hlt,f1,f2,fun k hk hki=>?_⟩,by simp;omega⟩;by_cases e:k=i
    ·subst e;show nu q1*de row[k]≤nu row[k]*de q1;omega
    ·exact f3 k hk (by omega)
  ·have hd:decide ((i:Int)<((row.length:Nat):Int))=false:=by simp;omega
   exact .inr ⟨_,by unfold qa1;simp only[hd,cond_false],q1,rfl,f1,f2,fun k hk=>f3 k hk (by omega)⟩) ((((0:Nat):Int),()),(lst q0,())) ⟨q0,0,rfl,Nat.zero_le _,h0,qjt _,fun k _ h=>absurd h (Nat.not_lt_zero _)⟩
 refine⟨q1,g1,g2,g3,fun q hq=>?_⟩;obtain⟨k,hk,rfl⟩:=List.mem_iff_getElem.1 hq;exact g4 k hk
theorem least_all {m:List (List BQ)} {L:Nat} (hr:∀row∈m,row.length≤1000∧∀q∈row,Qz q L) (hl:m.length≤1000) (hL:L≤1000000000) {q0:BQ} (h0:Qz q0 L) :
  ∃q1,iterW (qaz m) ((0,()),(lst q0,()))=some ((),(lst q1,()))∧Qz q1 L∧∀row∈m,∀q∈row,qle q1 q:=by
 have trans:∀ {a b c:BQ},Qz a L→Qz b L→Qz c L→qle a b→qle b c→qle a c:=fun ha hb hc h1 h2=>qdZ ha.fq.1.pos hb.fq.1.pos hc.fq.1.pos h1 h2;obtain⟨x,g1,q1,rfl,g2,g3⟩:=qg (f:=qaz m) (fun s=>∃q1,∃i:Nat,s=(((i:Int),()),(lst q1,()))∧i≤m.length∧Qz q1 L∧∀k,(hk:k<m.length)→k<i→∀q∈m[k],qle q1 q) (fun s=>m.length-(s.1.1).toNat)
  (fun r=>∃q1,r=((),(lst q1,()))∧Qz q1 L∧∀k,(hk:k<m.length)→∀q∈m[k],qle q1 q) (by
  rintro s ⟨q1,i,rfl,hi,f1,f3⟩
  by_cases hlt:i<m.length
  ·have hd:decide ((i:Int)<((m.length:Nat):Int))=true:=by simp;omega
   have ei:w64 ((i:Int)+1)=((i+1:Nat):Int):=wi_id (by omega) (by omega);obtain⟨r1,r2⟩:=hr m[i] (List.getElem_mem hlt);obtain⟨q2,k1,k2,k3,k4⟩:=least_row r2 r1 hL f1;have step:qaz m (((i:Int),()),(lst q1,()))=some (.inl ((((i+1:Nat):Int),()),(lst q2,()))):=by
    unfold qaz;simp only[hd,cond_true,qp m hlt,Option.bind_some,k1,ei]
   refine .inl ⟨_,step,⟨q2,i+1,rfl,hlt,k2,fun k hk hki q hq=>?_⟩,by simp;omega⟩;by_cases e:k=i
   ·subst e;exact k4 q hq
   ·exact trans k2 f1 ((hr m[k] (List.getElem_mem hk)).2 q hq) k3 (f3 k hk (by omega) q hq)
  ·have hd:decide ((i:Int)<((m.length:Nat):Int))=false:=by simp;omega
   exact .inr ⟨_,by unfold qaz;simp only[hd,cond_false],q1,rfl,f1,fun k hk=>f3 k hk (by omega)⟩) ((((0:Nat):Int),()),(lst q0,())) ⟨q0,0,rfl,Nat.zero_le _,h0,fun k _ h=>absurd h (Nat.not_lt_zero _)⟩
 refine⟨q1,g1,g2,fun row hrow=>?_⟩;obtain⟨k,hk,rfl⟩:=List.mem_iff_getElem.1 hrow;exact g3 k hk
theorem sum_pos {a b a0 b0 s t e f:Int} (hb:0<b) (hb0:0<b0) (ht:0<t) (hf:0<f) (h1:a0*b≤a*b0) (h2:s*(1*b0)=(1*b0-a0*1)*t) (h3:e*(b*t)=(a*t+s*b)*f):0<e:=by
 have k1:(a*t+s*b)*b0=t*(a*b0-a0*b)+t*(b*b0):=by
  have:s*b*b0=b*(s*(1*b0)):=by grind
  have e1:(a*t+s*b)*b0=a*t*b0+s*b*b0:=by grind
  rw[e1,this,h2]
  grind
 have k2:0≤t*(a*b0-a0*b):=Int.mul_nonneg (Int.le_of_lt ht) (by omega);have k3:0<t*(b*b0):=Int.mul_pos ht (Int.mul_pos hb hb0);have k4:0<a*t+s*b:=by
  refine Classical.byContradiction fun hn=>?_;have:=Int.mul_nonpos_of_nonpos_of_nonneg (show a*t+s*b≤0 by omega) (Int.le_of_lt hb0);omega
 have k5:0<e*(b*t):=by rw[h3];exact Int.mul_pos k4 hf
 refine Classical.byContradiction fun hn=>?_;have:=Int.mul_nonpos_of_nonpos_of_nonneg (show e≤0 by omega) (Int.le_of_lt (Int.mul_pos hb ht));omega
theorem add_row {row:List BQ} {L M:Nat} (hr:∀q∈row,Qz q L) (hl:row.length≤1000) (hLM:L≤M) (hM:M≤1000000000) {q0 ad:BQ} (had:Qz ad M) (h0:Qz q0 L) (hle:∀q∈row,qle q0 q) (hadd:nu ad*(1*de q0)=(1*de q0-nu q0*1)*de ad) :
  ∃l,iterW (qa5 row ((ad,()),())) (([],0,()),())=some ((l,()),())∧l.length=row.length∧∀q∈l,Qp q (M+M+1):=by
 obtain⟨x,g1,l,rfl,g2⟩:=qg (f:=qa5 row ((ad,()),())) (fun s=>∃l,∃i:Nat,s=((l,(i:Int),()),())∧i≤row.length∧l.length=i∧∀q∈l,Qp q (M+M+1)) (fun s=>row.length-(s.1.2.1).toNat)
  (fun r=>∃l,r=((l,()),())∧l.length=row.length∧∀q∈l,Qp q (M+M+1)) (by
  rintro s ⟨l,i,rfl,hi,f1,f2⟩
  by_cases hlt:i<row.length
  ·have hd:decide ((i:Int)<((row.length:Nat):Int))=true:=by simp;omega
   have ei:w64 ((i:Int)+1)=((i+1:Nat):Int):=wi_id (by omega) (by omega);have hq:=(hr row[i] (List.getElem_mem hlt)).mono hLM;obtain⟨r,e,f,k1,k2,k3,k4,k5⟩:=ql9 hq.fq.1 had.fq.1 hq.fq.2.1 hq.fq.2.2 had.fq.2.1 had.fq.2.2 hM;have hroom:room (l.length+[r].length) 56=true:=qfL (by simp;omega);have step:qa5 row ((ad,()),()) ((l,(i:Int),()),())=some (.inl ((l++[r],((i+1:Nat):Int),()),())):=by
    unfold qa5;simp only[hd,cond_true,qp row hlt,Option.bind_some,k1,hroom,qc,ei]
   refine .inl ⟨_,step,⟨_,i+1,rfl,hlt,by simp[f1],fun c hc=>?_⟩,by simp;omega⟩;rcases List.mem_append.1 hc with hc | hc
   ·exact f2 c hc
   ·rw[List.mem_singleton] at hc;subst hc;exact⟨e,f,k2,sum_pos hq.fq.1.pos h0.fq.1.pos had.fq.1.pos k2.pos (hle _ (List.getElem_mem hlt)) hadd k3,k4,k5.mono (by omega)⟩
  ·have hd:decide ((i:Int)<((row.length:Nat):Int))=false:=by simp;omega
   exact .inr ⟨_,by unfold qa5;simp only[hd,cond_false],l,rfl,by omega,f2⟩) (([],((0:Nat):Int),()),()) ⟨[],0,rfl,Nat.zero_le _,rfl,fun q h=>by cases h⟩
 exact⟨l,g1,g2⟩
theorem div_all {l:List BQ} {v:BQ} {L:Nat} (hl:l.length≤1000) (hq:∀q∈l,Qz q L) (hL:L≤100000000) {a c:Int} (hv:Fq v a c) (ha0:a≠0) (ha:Sz a L) (hc:Sz c L) (f:(((List BQ)×Int×Unit)×Unit)→Option ((((List BQ)×Int×Unit)×Unit) ⊕ (((List BQ)×Unit)×Unit)))
  (hf1:∀o i,(hi:i<l.length)→f ((o,((i:Nat):Int),()),())=Option.bind (qh6 l[i] v) fun r=>req (room (o.length+([r]).length) 56) (some (.inl ((o++[r],w64 ((i:Int)+1),()),()))))
  (hf2:∀o,f ((o,((l.length:Nat):Int),()),())=some (.inr ((o,()),()))) :
  ∃o,iterW f (([],0,()),())=some ((o,()),())∧o.length=l.length∧∀q∈o,Qz q (L+L):=by
 obtain⟨x,g1,o,rfl,g2⟩:=qg (f:=f) (fun s=>∃o,∃i:Nat,s=((o,(i:Int),()),())∧i≤l.length∧o.length=i∧∀q∈o,Qz q (L+L)) (fun s=>l.length-(s.1.2.1).toNat)
  (fun r=>∃o,r=((o,()),())∧o.length=l.length∧∀q∈o,Qz q (L+L)) (by
  rintro s ⟨o,i,rfl,hi,f1,f2⟩
  by_cases hlt:i<l.length
  ·have hqi:=hq l[i] (List.getElem_mem hlt);obtain⟨r,e,g,k1,k2,_,k4,k5⟩:=qrt hqi.fq.1 hv hqi.fq.2.1 hqi.fq.2.2 ha hc (by omega) ha0;have step:f ((o,(i:Int),()),())=some (.inl ((o++[r],((i+1:Nat):Int),()),())):=by
    rw[hf1 o i hlt,k1,Option.bind_some,qfL (by simp;omega),qc,wi_id (by omega) (by omega)];rfl
   refine .inl ⟨_,step,⟨_,i+1,rfl,hlt,by simp[f1],fun c hc=>?_⟩,by simp;omega⟩;rcases List.mem_append.1 hc with hc | hc
   ·exact f2 c hc
   ·rw[List.mem_singleton] at hc;subst hc;exact⟨e,g,k2,k4,k5⟩
  ·have e:i=l.length:=by omega
   subst e
   exact .inr ⟨_,hf2 o,o,rfl,f1,f2⟩) (([],((0:Nat):Int),()),()) ⟨[],0,rfl,Nat.zero_le _,rfl,fun q h=>by cases h⟩
 exact⟨o,g1,g2⟩
end Lvl
namespace Lvl
set_option linter.unusedVariables false
set_option linter.unusedSimpArgs false
theorem rows_spec {m:List (List BQ)} {n L M:Nat} (hr:∀row∈m,row.length=n∧∀q∈row,Qz q L) (hl:m.length≤100) (hn:n≤100) (hLM:L≤M) (hM:M≤100000000) (hM1:1≤M) {q0 ad one:BQ} (had:Qz ad M) (h0:Qz q0 L) (hle:∀row∈m,∀q∈row,qle q0 q) (hadd:nu ad*(1*de q0)=(1*de q0-nu q0*1)*de ad)
  (ho:bigOf 1=some one) (ho1:Fq one 1 1) :
  ∃A B,iterW (qa7 m ((ad,()),())) ((0,()),(([],([],([],()))),()))=some ((),((A,(B,([],()))),()))∧A.length=m.length∧B.length=m.length∧(∀r∈A,r.length=n∧∀q∈r,Qp q (M+M+1))∧∀q∈B,Qp q (M+M+1):=by
 have hone:Qp ((one.1,(one.2.1,()))) (M+M+1):=⟨1,1,qo2 ho1,by omega,(Sz.small (by decide)).mono (by omega),(Sz.small (by decide)).mono (by omega)⟩;obtain⟨x,g1,A,B,rfl,g2⟩:=qg (f:=qa7 m ((ad,()),())) (fun s=>∃A B,∃i:Nat,s=(((i:Int),()),((A,(B,([],()))),()))∧i≤m.length∧A.length=i∧B.length=i∧(∀r∈A,r.length=n∧∀q∈r,Qp q (M+M+1))∧∀q∈B,Qp q (M+M+1)) (fun s=>m.length-(s.1.1).toNat)
  (fun r=>∃A B,r=((),((A,(B,([],()))),()))∧A.length=m.length∧B.length=m.length∧(∀r∈A,r.length=n∧∀q∈r,Qp q (M+M+1))∧∀q∈B,Qp q (M+M+1)) (by
  rintro s ⟨A,B,i,rfl,hi,f1,f2,f3,f4⟩
  by_cases hlt:i<m.length
  ·have hd:decide ((i:Int)<((m.length:Nat):Int))=true:=by simp;omega
   have ei:w64 ((i:Int)+1)=((i+1:Nat):Int):=wi_id (by omega) (by omega);obtain⟨r1,r2⟩:=hr m[i] (List.getElem_mem hlt);obtain⟨l,k1,k2,k3⟩:=add_row r2 (by omega) hLM (by omega) had h0 (hle _ (List.getElem_mem hlt)) hadd;have h24:room (A.length+[l].length) 24=true:=qoM (by simp;omega);have h56:room (B.length+[((one.1,(one.2.1,())):BQ)].length) 56=true:=qfL (by simp;omega);have step:qa7 m ((ad,()),()) (((i:Int),()),((A,(B,([],()))),()))=some (.inl ((((i+1:Nat):Int),()),((A++[l],(B++[(one.1,(one.2.1,()))],([],()))),()))):=by
    unfold qa7;simp only[hd,cond_true,qp m hlt,Option.bind_some,k1,h24,qc,ho,h56,agree_self,ei]
   refine .inl ⟨_,step,⟨_,_,i+1,rfl,hlt,by simp[f1],by simp[f2],fun r hr'=>?_,fun q hq=>?_⟩,by simp;omega⟩
   ·rcases List.mem_append.1 hr' with h | h
    ·exact f3 r h
    ·rw[List.mem_singleton] at h;subst h;exact⟨by omega,k3⟩
   ·rcases List.mem_append.1 hq with h | h
    ·exact f4 q h
    ·rw[List.mem_singleton] at h;subst h;exact hone
  ·have hd:decide ((i:Int)<((m.length:Nat):Int))=false:=by simp;omega
   exact .inr ⟨_,by unfold qa7;simp only[hd,cond_false],A,B,rfl,by omega,by omega,f3,f4⟩) ((((0:Nat):Int),()),(([],([],([],()))),())) ⟨[],[],0,rfl,Nat.zero_le _,rfl,rfl,(fun r h=>by cases h),fun q h=>by cases h⟩
 exact⟨A,B,g1,g2⟩
theorem ones_spec {row:List BQ} {M:Nat} (hl:row.length≤100) (hM1:1≤M) {one:BQ} {A:List (List BQ)} {B:List BQ} (ho:bigOf 1=some one) (ho1:Fq one 1 1) :
  ∃C,iterW (qa4 row) ((0,()),((A,(B,([],()))),()))=some ((),((A,(B,(C,()))),()))∧C.length=row.length∧∀q∈C,Qp q M:=by
 have hone:Qp ((one.1,(one.2.1,()))) M:=⟨1,1,qo2 ho1,by omega,(Sz.small (by decide)).mono (by omega),(Sz.small (by decide)).mono (by omega)⟩;obtain⟨x,g1,C,rfl,g2⟩:=qg (f:=qa4 row) (fun s=>∃C,∃i:Nat,s=(((i:Int),()),((A,(B,(C,()))),()))∧i≤row.length∧C.length=i∧∀q∈C,Qp q M) (fun s=>row.length-(s.1.1).toNat)
  (fun r=>∃C,r=((),((A,(B,(C,()))),()))∧C.length=row.length∧∀q∈C,Qp q M) (by
  rintro s ⟨C,i,rfl,hi,f1,f2⟩
  by_cases hlt:i<row.length
  ·have hd:decide ((i:Int)<((row.length:Nat):Int))=true:=by simp;omega
   have ei:w64 ((i:Int)+1)=((i+1:Nat):Int):=wi_id (by omega) (by omega);have h56:room (C.length+[((one.1,(one.2.1,())):BQ)].length) 56=true:=qfL (by simp;omega);have step:qa4 row (((i:Int),()),((A,(B,(C,()))),()))=some (.inl ((((i+1:Nat):Int),()),((A,(B,(C++[(one.1,(one.2.1,()))],()))),()))):=by
    unfold qa4;simp only[hd,cond_true,ho,Option.bind_some,h56,qc,ei]
   refine .inl ⟨_,step,⟨_,i+1,rfl,hlt,by simp[f1],fun q hq=>?_⟩,by simp;omega⟩;rcases List.mem_append.1 hq with h | h
   ·exact f2 q h
   ·rw[List.mem_singleton] at h;subst h;exact hone
  ·have hd:decide ((i:Int)<((row.length:Nat):Int))=false:=by simp;omega
   exact .inr ⟨_,by unfold qa4;simp only[hd,cond_false],C,rfl,by omega,f2⟩) ((((0:Nat):Int),()),((A,(B,([],()))),())) ⟨[],0,rfl,Nat.zero_le _,rfl,fun q h=>by cases h⟩
 exact⟨C,g1,g2⟩
theorem Qp.mono {q:BQ} {L M:Nat} (h:Qp q L) (hl:L≤M):Qp q M:=by
 obtain⟨a,b,h1,h2,h3,h4⟩:=h;exact⟨a,b,h1,h2,h3.mono hl,h4.mono hl⟩
theorem game_spec {m:List (List BQ)} {n L Y:Nat} (hL:L=208) (hY:Y=5000000) (hm0:0<m.length) (hm:m.length≤12) (hn0:0<n) (hn:n≤12) (hr:∀row∈m,row.length=n∧∀q∈row,Qz q L) :
  ∃v rs cs,qfd m=some (v,(rs,(cs,())))∧Qz v Y∧rs.length=m.length∧cs.length=n∧(∀q∈rs,Qz q Y)∧∀q∈cs,Qz q Y:=by
 obtain⟨r1,r2⟩:=hr m[0] (List.getElem_mem hm0)
 have h00:0<m[0].length:=by omega
 obtain⟨q0,hq0⟩:∃q0,q0=m[0][0]:=⟨_,rfl⟩
 have hq0z:Qz q0 L:=by rw[hq0];exact r2 _ (List.getElem_mem h00)
 obtain⟨q1,a1,a2,a3⟩:=least_all (m:=m) (L:=L) (fun row hrow=>⟨by have:=(hr row hrow).1;omega,(hr row hrow).2⟩) (by omega) (by omega) hq0z;obtain⟨one,o1,o2⟩:=qqm (n:=1) (by omega) (by omega);obtain⟨M,hMe⟩:∃M,M=417:=⟨_,rfl⟩;obtain⟨ad,e,f,b1,b2,b3,b4,b5⟩:=qsC (qo2 o2) a2.fq.1 (L:=L) ((Sz.small (by decide)).mono (by omega)) ((Sz.small (by decide)).mono (by omega)) a2.fq.2.1 a2.fq.2.2 (by omega);have hadz:Qz ad M:=⟨e,f,b2,b4.mono (by omega),b5.mono (by omega)⟩;have hadd:nu ad*(1*de q1)=(1*de q1-nu q1*1)*de ad:=by
  rw[b2.nu,b2.de];exact b3
 obtain⟨A,B,c1,c2,c3,c4,c5⟩:=rows_spec (M:=M) hr (by omega) (by omega) (by omega) (by omega) (by omega) hadz a2 a3 hadd o1 o2;obtain⟨L2,hL2⟩:∃L2,L2=1000:=⟨_,rfl⟩;obtain⟨C,d1,d2,d3⟩:=ones_spec (row:=m[0]) (M:=L2) (A:=A) (B:=B) (by omega) (by omega) o1 o2;obtain⟨S0,hS0⟩:∃S0,S0=14002:=⟨_,rfl⟩;obtain⟨SB,hSB⟩:∃SB,SB=182028:=⟨_,rfl⟩;obtain⟨Z,hZ⟩:∃Z,Z=1000000:=⟨_,rfl⟩;obtain⟨r,s1,⟨s2,s3⟩,⟨s4,s5⟩,va,vc,s6,s7,s8,s9⟩:=qrK hL2 hS0 hSB hZ (A:=A) (Bv:=B) (C:=C) (n:=n) (m:=m.length) c2 c3 (by omega) hn hm hn0 hm0 (fun r hr'=>⟨(c4 r hr').1,fun q hq=>((c4 r hr').2 q hq).mono (by omega)⟩) (fun q hq=>(c5 q hq).mono (by omega)) d3
 obtain⟨xs,x1,x2,x3⟩:=div_all (l:=r.2.1) (v:=r.2.2.2.2.1) (L:=Z) (by omega) s3 (by omega) s6 s7 s8 s9 (qcY r) (fun o i hi=>by
   have hd:decide ((i:Int)<((r.2.1.length:Nat):Int))=true:=by simp;omega
   have hg:getD' r.2.1 i ((false,([],())),([],()))=r.2.1[i]:=qbt hi;unfold qcY;simp only[hd,cond_true,qA hi,qc,Int.toNat_natCast,hg]) (fun o=>by
   have hd:decide (((r.2.1.length:Nat):Int)<((r.2.1.length:Nat):Int))=false:=by simp
   unfold qcY
   simp only[hd,cond_false])
 obtain⟨ys,y1,y2,y3⟩:=div_all (l:=r.2.2.1) (v:=r.2.2.2.2.1) (L:=Z) (by omega) s5 (by omega) s6 s7 s8 s9 (qcX r) (fun o i hi=>by
   have hd:decide ((i:Int)<((r.2.2.1.length:Nat):Int))=true:=by simp;omega
   have hg:getD' r.2.2.1 i ((false,([],())),([],()))=r.2.2.1[i]:=qbt hi;unfold qcX;simp only[hd,cond_true,qA hi,qc,Int.toNat_natCast,hg]) (fun o=>by
   have hd:decide (((r.2.2.1.length:Nat):Int)<((r.2.2.1.length:Nat):Int))=false:=by simp
   unfold qcX
   simp only[hd,cond_false])
 obtain⟨w,we,wf,w1,w2,_,w4,w5⟩:=qrt (qo2 o2) s6 (L:=Z) ((Sz.small (by decide)).mono (by omega)) ((Sz.small (by decide)).mono (by omega)) s8 s9 (by omega) s7;obtain⟨Z2,hZ2⟩:∃Z2,Z2=2000000:=⟨_,rfl⟩;obtain⟨v,ve,vf,v1,v2,_,v4,v5⟩:=qsC w2 b2 (L:=Z2) (w4.mono (by omega)) (w5.mono (by omega)) (b4.mono (by omega)) (b5.mono (by omega)) (by omega);refine⟨v,ys,xs,?_,⟨ve,vf,v2,v4.mono (by omega),v5.mono (by omega)⟩,by omega,by omega,fun q hq=>(y3 q hq).mono (by omega),fun q hq=>(x3 q hq).mono (by omega)⟩;have am:at? m (0:Int)=some m[0]:=qp m (i:=0) hm0
 have am2:at? m[0] (0:Int)=some q0:=by rw[hq0];exact qp m[0] (i:=0) h00
 have a1':iterW (qaz m) ((0,()),((q0.1.1,(q0.1.2.1,q0.2)),()))=some ((),(lst q1,())):=a1;have b1':qdJ (one.1,(one.2.1,())) (((lst q1).1,((lst q1).2.1,())),(lst q1).2.2)=some ad:=b1;unfold qfd;simp only[am,am2,Option.bind_some,a1',o1,b1',agree_self,c1,d1,s1,x1,y1,w1,v1]
end Lvl
namespace Lvl
set_option linter.unusedVariables false
set_option linter.unusedSimpArgs false
theorem qvd {l:List ByteArray} (hl:l.length≤12) (hs:∀t∈l,t.size≤TL) (hc:∀t∈l,qO t=some 0):∃o,ratIn l=some o∧o.length=l.length∧∀q∈o,Qz q E0:=by
 obtain⟨r,h1,h2⟩:=qeP (f:=ql3 l) l.length (fun _ q=>Qz q E0) (fun _=>False) (fun o=>((o,()),())) (fun o i hi ho=>by
  have hm:=List.getElem_mem hi;obtain⟨q,q1,q2,_⟩:=qnH (hc _ hm) (hs _ hm);have hd:decide ((i:Int)<((l.length:Nat):Int))=true:=decide_eq_true (by omega)
  have hw:w64 ((i:Int)+1)=((i+1:Nat):Int):=by rw[qi (by omega) (by omega)];rfl
  have hr:room (o.length+[q].length) 56=true:=qfL (by rw[List.length_singleton];omega);refine .inl ⟨q,?_,q2⟩;unfold ql3;simp only[hd,cond_true,qp l hi,Option.bind_some,q1,hr,qc,hw]) (fun o ho=>by
  have hd:decide (((l.length:Nat):Int)<((l.length:Nat):Int))=false:=decide_eq_false (by omega);unfold ql3
  simp only[hd,cond_false])
 rcases h2 with h2 | ⟨o,rfl,h3,h4⟩
 ·exact absurd h2 id
 ·refine⟨o,?_,h3,fun q hq=>?_⟩
  ·unfold ratIn;rw[h1];rfl
  ·obtain⟨i,hi,rfl⟩:=List.getElem_of_mem hq;exact h4 i hi
theorem mIn_spec {m:List (List ByteArray)} {n:Nat} (hm:Sized m) (hf:Fine m n):∃o,qlP m=some o∧o.length=m.length∧∀row∈o,row.length=n∧∀q∈row,Qz q E0:=by
 have hm1:=hf.m1
 obtain⟨r,h1,h2⟩:=qeP (f:=qfa m) m.length (fun _ row=>row.length=n∧∀q∈row,Qz q E0) (fun _=>False) (fun o=>((o,()),())) (fun o i hi ho=>by
  have hmem:=List.getElem_mem hi;have hrow:=hf.row _ hmem;have hn:=hf.n1;obtain⟨q,q1,q2,q3⟩:=qvd (l:=m[i]) (by omega) (hm _ hmem).2 hrow.2;have hd:decide ((i:Int)<((m.length:Nat):Int))=true:=decide_eq_true (by omega)
  have hw:w64 ((i:Int)+1)=((i+1:Nat):Int):=by rw[qi (by omega) (by omega)];rfl
  have hr:room (o.length+[q].length) 24=true:=qoM (by rw[List.length_singleton];omega);refine .inl ⟨q,?_,by rw[q2];exact hrow.1,q3⟩;unfold qfa;simp only[hd,cond_true,qp m hi,Option.bind_some,q1,hr,qc,hw]) (fun o ho=>by
  have hd:decide (((m.length:Nat):Int)<((m.length:Nat):Int))=false:=decide_eq_false (by omega);unfold qfa
  simp only[hd,cond_false])
 rcases h2 with h2 | ⟨o,rfl,h3,h4⟩
 ·exact absurd h2 id
 ·refine⟨o,?_,h3,fun q hq=>?_⟩
  ·unfold qlP;rw[h1];rfl
  ·obtain⟨i,hi,rfl⟩:=List.getElem_of_mem hq;exact h4 i hi
theorem qtD {l:List BQ} {S:Nat} (hl:l.length≤1000) (hq:∀q∈l,Qz q S):∃o e,qjW l=some (o,(e,()))∧(e=0→o.length=l.length∧∀t∈o,t.size≤100000):=by
 obtain⟨r,h1,h2⟩:=qeP (f:=qc6 l) l.length (fun _ t=>t.size≤100000) (fun r=>∃e,r = .inr ([],(e,()))∧e≠0) (fun o => .inl ((o,()),())) (fun o i hi ho=>by
  obtain⟨t,e,t1,t2⟩:=qp9 (hq _ (List.getElem_mem hi));have hd:decide ((i:Int)<((l.length:Nat):Int))=true:=decide_eq_true (by omega)
  have hw:w64 ((i:Int)+1)=((i+1:Nat):Int):=by rw[qi (by omega) (by omega)];rfl
  have hr:room (o.length+[t].length) 16=true:=room16 (by rw[List.length_singleton];omega);by_cases he:e=0
  ·refine .inl ⟨t,?_,(t2 he).2⟩;subst he;unfold qc6;simp only[hd,cond_true,qp l hi,Option.bind_some,t1,eq0,cond_false,hr,qc,hw]
  ·refine .inr ⟨.inr ([],(e,())),?_,e,rfl,he⟩;unfold qc6;simp only[hd,cond_true,qp l hi,Option.bind_some,t1,ne0 he]) (fun o ho=>by
  have hd:decide (((l.length:Nat):Int)<((l.length:Nat):Int))=false:=decide_eq_false (by omega);unfold qc6
  simp only[hd,cond_false])
 unfold qjW;rcases h2 with ⟨e,rfl,he⟩ | ⟨o,rfl,h3,h4⟩
 ·exact⟨[],e,by rw[h1];rfl,fun h=>absurd h he⟩
 ·refine⟨o,0,by rw[h1];rfl,fun _=>⟨h3,fun t ht=>?_⟩⟩;obtain⟨i,hi,rfl⟩:=List.getElem_of_mem ht;exact h4 i hi
theorem qvt {m:List (List ByteArray)} (hm:Sized m):∃s rs cs e,qb3 m=some ((s,(rs,(cs,()))),(e,()))∧(e≠0→s=ByteArray.mk #[])∧(e=0→(∃n,Fine m n)∧qaO m=some 0∧s.size≤100000):=by
 obtain⟨c,h1,h2⟩:=qim hm;unfold qb3;rw[h1,Option.bind_some];by_cases hc:c=0
 rotate_left
 ·rw[ne0 hc,cond_true];exact⟨_,_,_,c,rfl,fun _=>rfl,fun h=>absurd h hc⟩
 subst hc;obtain⟨n,hf⟩:=h2 rfl;obtain⟨g,g1,g2,g3⟩:=mIn_spec hm hf;have m0:=hf.m0;have m1:=hf.m1;have n1:=hf.n1;obtain⟨Y,hY⟩:∃Y,Y=5000000:=⟨_,rfl⟩;obtain⟨v,rs,cs,k1,k2,k3,k4,k5,k6⟩:=game_spec (m:=g) E0_eq hY (by omega) (by omega) hf.n0 n1 g3;have hr1:room ([v].length+rs.length) 56=true:=qfL (by rw[List.length_singleton];omega);have hr2:room (([v]++rs).length+cs.length) 56=true:=qfL (by rw[List.length_append,List.length_singleton];omega);rw[eq0,cond_false,g1,Option.bind_some,k1,Option.bind_some];simp only[hr1,hr2,qc]
 have hlen:(([v]++rs)++cs).length=1+rs.length+cs.length:=by rw[List.length_append,List.length_append,List.length_singleton]
 obtain⟨o,e,o1,o2⟩:=qtD (l:=([v]++rs)++cs) (S:=Y) (by omega) (fun q hq=>by
  rcases List.mem_append.1 hq with h | h
  ·rcases List.mem_append.1 h with h | h
   ·rw[List.mem_singleton.1 h];exact k2
   ·exact k5 q h
  ·exact k6 q h)
 rw[o1,Option.bind_some];by_cases he:e=0
 rotate_left
 ·simp only[ne0 he,cond_true];exact⟨_,_,_,e,rfl,fun _=>rfl,fun h=>absurd h he⟩
 subst he;obtain⟨o2,o3⟩:=o2 rfl
 have h0:0<o.length:=by omega
 have hw:w64 (((rs.length:Nat):Int)+1)=((rs.length+1:Nat):Int):=by rw[qi (by omega) (by omega)];rfl
 have b1:qh 1 ((rs.length+1:Nat):Int) o.length=true:=by
  unfold qh;rw[decide_eq_true (by omega),decide_eq_true (by omega),decide_eq_true (by omega)];rfl
 have b2:qh ((rs.length+1:Nat):Int) ((o.length:Nat):Int) o.length=true:=by
  unfold qh;rw[decide_eq_true (by omega),decide_eq_true (by omega),decide_eq_true (by omega)];rfl
 have b3:decide (((rs.length+1:Nat):Int)≤((rs.length+1:Nat):Int))=true:=decide_eq_true (by omega);have b4:decide (((rs.length+1:Nat):Int)≤((o.length:Nat):Int))=true:=decide_eq_true (by omega);have b5:inb (0:Int) o.length=true:=qA (i:=0) h0;simp only[eq0,cond_false,hw,b1,b2,b3,b4,b5,Bool.and_self,qc,agree_self];refine⟨_,_,_,0,rfl,fun h=>absurd rfl h,fun _=>⟨⟨n,hf⟩,trivial,?_⟩⟩;rw[qbt h0];exact o3 _ (List.getElem_mem h0)
def Gv (m:List (List ByteArray)) (a:ByteArray) (o:List (List ByteArray)):Prop :=
 o.length=m.length∧∀i (hi:i<m.length) (ho:i<o.length),o[i].length=m[i].length∧∀k (hk:k<m[i].length) (hk':k<o[i].length),qga m[i][k] a=some (o[i][k],(0,()))
theorem give_row {row:List ByteArray} {a:ByteArray} (hl:row.length≤12) (hs:∀t∈row,t.size≤TL) (ha:a.size≤TL) :
  ∃r,iterW (qaH row a) (([],(0,())),())=some r∧((∃e,r = .inr (.inr (.inr (.inr ([],(e,())))))∧e≠0)∨∃o,r = .inl ((o,()),())∧o.length=row.length∧∀k (hk:k<row.length) (hk':k<o.length),qga row[k] a=some (o[k],(0,()))):=by
 obtain⟨r,h1,h2⟩:=qeP (f:=qaH row a) row.length (fun i t=>∀hi:i<row.length,qga row[i] a=some (t,(0,()))) (fun r=>∃e,r = .inr (.inr (.inr (.inr ([],(e,())))))∧e≠0) (fun o => .inl ((o,()),())) (fun o i hi ho=>by
  obtain⟨t,e,t1,_⟩:=qt8 (hs _ (List.getElem_mem hi)) ha;have hd:decide ((i:Int)<((row.length:Nat):Int))=true:=decide_eq_true (by omega)
  have hw:w64 ((i:Int)+1)=((i+1:Nat):Int):=by rw[qi (by omega) (by omega)];rfl
  have hr:room (o.length+[t].length) 16=true:=room16 (by rw[List.length_singleton];omega);by_cases he:e=0
  ·subst he;refine .inl ⟨t,?_,fun _=>t1⟩;unfold qaH;simp only[hd,cond_true,qp row hi,Option.bind_some,t1,eq0,cond_false,hr,qc,hw]
  ·refine .inr ⟨.inr (.inr (.inr (.inr ([],(e,()))))),?_,e,rfl,he⟩;unfold qaH;simp only[hd,cond_true,qp row hi,Option.bind_some,t1,ne0 he]) (fun o ho=>by
  have hd:decide (((row.length:Nat):Int)<((row.length:Nat):Int))=false:=decide_eq_false (by omega);unfold qaH
  simp only[hd,cond_false])
 refine⟨r,h1,h2.imp id ?_⟩
 rintro ⟨o,rfl,h3,h4⟩
 exact⟨o,rfl,h3,fun k hk hk'=>h4 k hk' hk⟩
theorem qrJ {m:List (List ByteArray)} (hm:Sized m) {a:ByteArray} (ha:a.size≤TL):∃o e,qda m a=some (o,(e,()))∧(e≠0→o=[])∧(e=0→Gv m a o) ∧
  (qaO m=some 0→∀c,qO a=some c→c≠0→e=c):=by
 obtain⟨c,h1,h2⟩:=qim hm;unfold qda;rw[h1,Option.bind_some];by_cases hc:c=0
 rotate_left
 ·rw[ne0 hc,cond_true];exact⟨_,c,rfl,fun _=>rfl,fun h=>absurd h hc,fun h=>absurd (Option.some.inj h) hc⟩
 subst hc;obtain⟨n,hf⟩:=h2 rfl;have m0:=hf.m0;have m1:=hf.m1;have n1:=hf.n1;obtain⟨d,k1⟩:=qnJ a ha;rw[eq0,cond_false,k1,Option.bind_some];by_cases hd0:d=0
 rotate_left
 ·rw[ne0 hd0,cond_true];exact⟨_,d,rfl,fun _=>rfl,fun h=>absurd h hd0,fun _ c hc _=>Option.some.inj hc⟩
 subst hd0;rw[eq0,cond_false];obtain⟨r,h3,h4⟩:=qeP (f:=qbm m a) m.length (fun i o=>∀hi:i<m.length,o.length=m[i].length∧∀k (hk:k<m[i].length) (hk':k<o.length),qga m[i][k] a=some (o[k],(0,())))
  (fun r=>∃e,r = .inr ([],(e,()))∧e≠0) (fun o => .inl ((o,()),())) (fun o i hi ho=>by
  have hmem:=List.getElem_mem hi;obtain⟨r,r1,r2⟩:=give_row (row:=m[i]) (a:=a) (by have:=(hf.row _ hmem).1;omega) (hm _ hmem).2 ha;have hd:decide ((i:Int)<((m.length:Nat):Int))=true:=decide_eq_true (by omega)
  have hw:w64 ((i:Int)+1)=((i+1:Nat):Int):=by rw[qi (by omega) (by omega)];rfl
  rcases r2 with ⟨e,rfl,he⟩ | ⟨q,rfl,q1,q2⟩
  ·refine .inr ⟨.inr ([],(e,())),?_,e,rfl,he⟩;unfold qbm;simp only[hd,cond_true,qp m hi,Option.bind_some,r1,Sum.elim_inr]
  ·have hr:room (o.length+[q].length) 24=true:=qoM (by rw[List.length_singleton];omega);refine .inl ⟨q,?_,fun _=>⟨q1,q2⟩⟩;unfold qbm;simp only[hd,cond_true,qp m hi,Option.bind_some,r1,Sum.elim_inl,hr,qc,hw]) (fun o ho=>by
  have hd:decide (((m.length:Nat):Int)<((m.length:Nat):Int))=false:=decide_eq_false (by omega);unfold qbm
  simp only[hd,cond_false])
 rw[h3,Option.bind_some];rcases h4 with ⟨e,rfl,he⟩ | ⟨o,rfl,h5,h6⟩
 ·exact⟨[],e,rfl,fun _=>rfl,fun h=>absurd h he,fun _ c hc h=>absurd (Option.some.inj hc).symm h⟩
 ·exact⟨o,0,rfl,fun h=>absurd rfl h,fun _=>⟨h5,fun i hi ho=>h6 i ho hi⟩,fun _ c hc h=>absurd (Option.some.inj hc).symm h⟩
theorem qvi {m:List (List ByteArray)} (hm:Sized m):∃s rs cs e o f,qb3 m=some ((s,(rs,(cs,()))),(e,()))∧qbH m=some (s,(e,()))∧qbD m=some (o,(f,())) ∧
  (e≠0→s=ByteArray.mk #[]∧f=e∧o=[]) ∧
  (e=0→qaO m=some 0∧s.size≤100000∧(f=0→∃t,qoA s=some (t,(0,()))∧t.size≤100000∧Gv m t o)):=by
 obtain⟨s,rs,cs,e,h1,h2,h3⟩:=qvt hm;have hst:qbH m=some (s,(e,())):=by
  unfold qbH;rw[h1];rfl
 by_cases he:e=0
 rotate_left
 ·refine⟨s,rs,cs,e,[],e,h1,hst,?_,fun _=>⟨h2 he,rfl,rfl⟩,fun h=>absurd h he⟩;unfold qbD;rw[hst,Option.bind_some];simp only[ne0 he,cond_true]
 subst he;obtain⟨_,hc,hs⟩:=h3 rfl;obtain⟨t,e,t1,t2⟩:=qtZ (a:=s) (by rw[TL_eq];omega);by_cases he:e=0
 rotate_left
 ·refine⟨s,rs,cs,0,[],e,h1,hst,?_,fun h=>absurd rfl h,fun _=>⟨hc,hs,fun h=>absurd h he⟩⟩;unfold qbD;rw[hst,Option.bind_some];simp only[eq0,cond_false,t1,Option.bind_some,ne0 he,cond_true]
 subst he;obtain⟨t2,_⟩:=t2 rfl;obtain⟨o,f,o1,o2,o3,_⟩:=qrJ hm (a:=t) (by rw[TL_eq];omega);refine⟨s,rs,cs,0,o,f,h1,hst,?_,fun h=>absurd rfl h,fun _=>⟨hc,hs,fun h=>⟨t,t1,t2,o3 h⟩⟩⟩;unfold qbD;rw[hst,Option.bind_some];simp only[eq0,cond_false,t1,Option.bind_some,o1]
end Lvl
end Go.Proofs.YteahiolockghkaaGreatDoor
namespace Go.Den
set_option linter.unusedVariables false
def rngB:(τ:Ty)→D τ→Bool
 | .int k,(n:Int)=>decide (k.min≤n)&&decide (n≤k.max)
 | .bool,_=>true
 | .str,(s:ByteArray)=>Nat.ble s.size maxLen
 | .sl e,(xs:List (D e))=>Nat.ble xs.length maxLen&&xs.all (rngB e)
 | .osl _ e,(xs:List (D e))=>Nat.ble xs.length maxLen&&xs.all (rngB e)
 | .obx e,x=>rngB e x
 | .onl _ _,_=>true
 | .hrl _ _ _ _ _,_=>true
 | .err,_=>true
 | .bld _ _,_=>true
 | .nil,_=>true
 | .ref,_=>true
 | .ifc _ _,_=>true
 | .omp _ _,_=>true
 | .st f r,x=>rngB f x.1&&rngB r x.2
theorem qkr:∀(τ:Ty) (x:D τ),rngB τ x=true→Rng τ x
 | .int k,n,h=>by
  simp only[rngB,Bool.and_eq_true,decide_eq_true_eq] at h
  cases k<;>exact h
 | .bool,_,_=>trivial
 | .str,s,h=>Nat.le_of_ble_eq_true h
 | .sl e,xs,h=>by
  simp only[rngB,Bool.and_eq_true] at h;exact⟨Nat.le_of_ble_eq_true h.1,fun x hx=>qkr e x (List.all_eq_true.1 h.2 x hx)⟩
 | .osl _ e,xs,h=>by
  simp only[rngB,Bool.and_eq_true] at h;exact⟨Nat.le_of_ble_eq_true h.1,fun x hx=>qkr e x (List.all_eq_true.1 h.2 x hx)⟩
 | .obx e,x,h=>qkr e x h
 | .onl _ _,_,_=>trivial
 | .hrl _ _ _ _ _,_,_=>trivial
 | .err,_,_=>trivial
 | .bld _ _,_,_=>trivial
 | .nil,_,_=>trivial
 | .ref,_,_=>trivial
 | .ifc _ _,_,_=>trivial
 | .omp _ _,_,_=>trivial
 | .st f r,x,h=>by
  simp only[rngB,Bool.and_eq_true] at h;exact⟨qkr f x.1 h.1,qkr r x.2 h.2⟩
set_option linter.unusedSimpArgs false

def foldN {A:Type} (g:Nat→A→A):Nat→A→A
 | 0,a=>a
 | n+1,a=>g n (foldN g n a)
theorem qsj {A R:Type} (n:Nat) (f:((A×Int×Unit)×Unit)→Option (((A×Int×Unit)×Unit) ⊕ R)) (g:Nat→A→A) (fin:A→R) (I:Nat→A→Prop) (a0:A) (h0:I 0 a0)
  (hs:∀i,i<n→∀a,I i a→f ((a,(i:Int),()),())=some (.inl ((g i a,((i:Int)+1),()),()))∧I (i+1) (g i a)) (he:∀a,I n a→f ((a,(n:Int),()),())=some (.inr (fin a))) :
  iterW f ((a0,(0:Int),()),())=some (fin (foldN g n a0)):=by
 have hI:∀i,i≤n→I i (foldN g i a0):=fun i=>by
  induction i with
  | zero=>intro _;exact h0
  | succ i ih=>intro hi;exact(hs i (by omega) _ (ih (by omega))).2
 have:=qgn (f:=f) n (fun i=>((foldN g i a0,(i:Int),()),())) (fin (foldN g n a0)) (fun i hi=>by
  rw[(hs i hi _ (hI i (by omega))).1]
  simp[foldN]) (he _ (hI n (Nat.le_refl _)))
 exact this
theorem qrG {A:Type} (F:Nat→List A):∀(n:Nat) (a:List A),foldN (fun i a=>a++F i) n a=a++(List.range n).flatMap F
 | 0,a=>by simp[foldN]
 | n+1,a=>by rw[foldN,qrG F n,List.range_succ];simp
theorem qjT {A R:Type} (n B:Nat) (f:(((List A)×Int×Unit)×Unit)→Option ((((List A)×Int×Unit)×Unit) ⊕ R)) (F:Nat→List A) (fin:List A→R) (a0:List A) (hF:∀i,i<n→(F i).length≤B)
  (hs:∀i,i<n→∀a:List A,a.length≤a0.length+i*B→f ((a,(i:Int),()),())=some (.inl ((a++F i,((i:Int)+1),()),()))) (he:∀a,f ((a,(n:Int),()),())=some (.inr (fin a))) :
  iterW f ((a0,(0:Int),()),())=some (fin (a0++(List.range n).flatMap F)):=by
 rw[←qrG];refine qsj n f (fun i a=>a++F i) fin (fun i a=>a.length≤a0.length+i*B) a0 (by simp) (fun i hi a ha=>⟨hs i hi a ha,?_⟩) (fun a _=>he a);have:=hF i hi;rw[List.length_append,Nat.add_mul];omega
theorem qbr {A C:Type} (F:C→List A) (B:Nat):∀l:List C,(∀x∈l,(F x).length≤B)→(l.flatMap F).length≤l.length*B
 | [],_=>by simp
 | x::l,h=>by
  have:=qbr F B l (fun y hy=>h y (List.mem_cons_of_mem _ hy));have:=h x List.mem_cons_self;rw[List.flatMap_cons,List.length_append,List.length_cons,Nat.add_mul];omega
theorem foldN_all {A:Type} (xs:List A) (q:A→Bool) (b0:Bool):∀n,n≤xs.length→foldN (fun i b=>b&&((xs[i]?).map q).getD true) n b0=(b0&&(xs.take n).all q)
 | 0,_=>by simp[foldN]
 | n+1,h=>by
  have hn:n<xs.length:=by omega
  rw[foldN,foldN_all xs q b0 n (by omega),List.getElem?_eq_getElem hn,List.take_succ_eq_append_getElem hn,List.all_append];simp[Bool.and_assoc]
theorem qvh {A R:Type} (xs:List A) (q:A→Bool) (f:((Int×Int×Unit)×Unit)→Option (((Int×Int×Unit)×Unit) ⊕ R)) (fin:Int→R)
  (hs:∀(i:Nat) (hi:i<xs.length) (c:Int),0≤c→c≤i→f ((c,(i:Int),()),())=some (.inl (((bif q xs[i] then c+1 else c),((i:Int)+1),()),()))) (he:∀c,f ((c,(xs.length:Int),()),())=some (.inr (fin c))) :
  iterW f (((0:Int),(0:Int),()),())=some (fin ((xs.countP q:Nat):Int)):=by
 have hf:∀n,n≤xs.length→foldN (fun i (c:Int)=>bif ((xs[i]?).map q).getD false then c+1 else c) n 0=(((xs.take n).countP q:Nat):Int):=fun n=>by
  induction n with
  | zero=>intro _;simp[foldN]
  | succ n ih =>
   intro h
   have hn:n<xs.length:=by omega
   rw[foldN,ih (by omega),List.getElem?_eq_getElem hn,List.take_succ_eq_append_getElem hn,List.countP_append];simp only[Option.map_some,Option.getD_some,List.countP_cons,List.countP_nil]
   cases q xs[n]<;>simp
 have:=hf xs.length (Nat.le_refl _);rw[List.take_length] at this;rw[←this];refine qsj xs.length f _ fin (fun i c=>0≤c∧c≤i) 0 (by simp) (fun i hi c hc=>⟨?_,?_⟩) (fun b _=>he b)
 ·rw[hs i hi c hc.1 hc.2,List.getElem?_eq_getElem hi];rfl
 ·cases ((xs[i]?).map q).getD false<;>simp<;>omega
def scanL {A S R:Type} (g:S→A→S ⊕ R) (fin:S→R):List A→S→R
 | [],s=>fin s
 | x::xs,s=>match g s x with
  | .inl s'=>scanL g fin xs s'
  | .inr r=>r
theorem iter_scan {A S T R:Type} (xs:List A) (f:T→Option (T ⊕ R)) (st:Nat→S→T) (g:S→A→S ⊕ R) (fin:S→R) (I:Nat→S→Prop)
  (hs:∀i (hi:i<xs.length) s,I i s→f (st i s)=match g s xs[i] with
   | .inl s'=>some (.inl (st (i+1) s'))
   | .inr r=>some (.inr r))
  (hI:∀i (hi:i<xs.length) s s',I i s→g s xs[i] = .inl s'→I (i+1) s')
  (he:∀s,I xs.length s→f (st xs.length s)=some (.inr (fin s))) (s0:S) (h0:I 0 s0) :
  iterW f (st 0 s0)=some (scanL g fin xs s0):=by
 have key:∀k i s,i+k=xs.length→I i s→iterW f (st i s)=some (scanL g fin (xs.drop i) s):=by
  intro k
  induction k with
  | zero =>
   intro i s hi hs'
   have:i=xs.length:=by omega
   subst this;rw[qz (he s hs'),List.drop_length];rfl
  | succ k ih =>
   intro i s hi hs'
   have hl:i<xs.length:=by omega
   have h1:=hs i hl s hs';have h2:=hI i hl s;rw[List.drop_eq_getElem_cons hl];unfold scanL
   match hg:g s xs[i] with
   | .inl s' =>
    rw[hg] at h1;rw[qX h1,ih (i+1) s' (by omega) (h2 s' hs' hg)]
   | .inr r =>
    rw[hg] at h1;rw[qz h1]
 have:=key xs.length 0 s0 (by omega) h0
 rwa [List.drop_zero] at this
theorem Le.iterW {T α:Type} {f g:T→Option (T ⊕ α)} (h:∀x,Le (f x) (g x)) (x:T):Le (Go.Den.iterW f x) (Go.Den.iterW g x):=fun r hr=>by
 obtain⟨n,hn⟩:=qnc hr;exact Le.iter h n x r hn
theorem Le.agreeW {α:Type} {a b a' b':Option α} (h:Le a a') (h':Le b b'):Le (Go.Den.agree a b) (Go.Den.agree a' b'):=fun r hr=>by
 unfold Go.Den.agree at hr ⊢;split at hr
 ·rename_i e;rw[h r hr,h' r (e▸hr),if_pos rfl]
 ·cases hr
theorem quG {T α:Type} {G:(T→Option α)→T→Option α} (hG:Mono G) (I:T→Prop) (μ:T→Nat) (s:T→α)
  (h:∀φ x,I x→(∀y,I y→μ y<μ x→φ y=some (s y))→G φ x=some (s x)):∀x,I x→fixW G x=some (s x):=by
 have a2:∀n x,I x→μ x<n→fixN G n x=some (s x):=by
  intro n
  induction n with
  | zero=>intro x _ hl;omega
  | succ n ih=>intro x hx hl;exact h _ x hx fun y hy hm=>ih y hy (by omega)
 intro x hx;exact Le.fix (fun φ ψ hs y=>hG φ ψ hs y) hG (μ x+1) x _ (a2 _ x hx (Nat.lt_succ_self _))
end Go.Den
namespace Go.Proofs.YteahiolockghkaaGreatDoor
open Go.Den
set_option linter.unusedVariables false
set_option maxRecDepth 100000
theorem qe0 (self self':Zv1→Option Zv4) (hself:∀x,Le (self x) (self' x)) (r2:List Zv63) (p:Zv73×Zv50×Int×Int×Unit) (depth:Int) (x3:Zv72×Zv7):Le (qr r2 p self depth x3) (qr r2 p self' depth x3):=by
 unfold qr
 repeat (first | exact Le.refl _ | assumption | apply hself | apply Le.cond | apply Le.req | apply Le.gopt | apply Le.map | apply Le.agreeW | refine Le.iterW (fun _=>?_) _ | refine Le.bind ?_ (Le.elim (fun _=>?_) (fun _=>?_)) | refine Le.bind ?_ (fun _=>?_))
theorem qf8:Mono qP:=by
 intro self self' hself x
 unfold qP qbe
 repeat (first | exact Le.refl _ | assumption | apply qe0 | apply hself | apply Le.cond | apply Le.req | apply Le.gopt | apply Le.map | apply Le.agreeW | refine Le.iterW (fun _=>?_) _ | refine Le.bind ?_ (Le.elim (fun _=>?_) (fun _=>?_)) | refine Le.bind ?_ (fun _=>?_))
theorem qkx (self self':Zv2→Option (Int)) (hself:∀x,Le (self x) (self' x)) (r4:List Zv63) (r:ByteArray×Int×Int×Zv16×Zv73×Bool×Bool×Zv42×Int×Int×Int×Unit) (p:Zv73×Zv50×Int×Int×Unit) (depth:Int) (x5:Zv69×Zv48):Le (qaN r4 r p self depth x5) (qaN r4 r p self' depth x5):=by
 unfold qaN
 repeat (first | exact Le.refl _ | assumption | apply hself | apply Le.cond | apply Le.req | apply Le.gopt | apply Le.map | apply Le.agreeW | refine Le.iterW (fun _=>?_) _ | refine Le.bind ?_ (Le.elim (fun _=>?_) (fun _=>?_)) | refine Le.bind ?_ (fun _=>?_))
theorem qn5:Mono qbZ:=by
 intro self self' hself x
 unfold qbZ qfm
 repeat (first | exact Le.refl _ | assumption | apply qkx | apply hself | apply Le.cond | apply Le.req | apply Le.gopt | apply Le.map | apply Le.agreeW | refine Le.iterW (fun _=>?_) _ | refine Le.bind ?_ (Le.elim (fun _=>?_) (fun _=>?_)) | refine Le.bind ?_ (fun _=>?_))
set_option linter.unusedSimpArgs false

abbrev Way:=Int×Int×Int×Int×Unit
abbrev Piece:=Int×Int×Int×(List Way)×Unit
abbrev End:=Int×Int×Int×Bool×Unit
abbrev Rules:=ByteArray×Int×Int×(List Piece)×(List Int)×Bool×Bool×(List End)×Int×Int×Int×Unit
abbrev Rules.name (r:Rules):ByteArray:=r.1
abbrev Rules.width (r:Rules):Int:=r.2.1
abbrev Rules.height (r:Rules):Int:=r.2.2.1
abbrev Rules.pieces (r:Rules):List Piece:=r.2.2.2.1
abbrev Rules.start (r:Rules):List Int:=r.2.2.2.2.1
abbrev Rules.falls (r:Rules):Bool:=r.2.2.2.2.2.1
abbrev Rules.keeps (r:Rules):Bool:=r.2.2.2.2.2.2.1
abbrev Rules.ends (r:Rules):List End:=r.2.2.2.2.2.2.2.1
abbrev Rules.blocked (r:Rules):Int:=r.2.2.2.2.2.2.2.2.1
abbrev Rules.quiet (r:Rules):Int:=r.2.2.2.2.2.2.2.2.2.1
abbrev Rules.repeats (r:Rules):Int:=r.2.2.2.2.2.2.2.2.2.2.1
abbrev tyWay:Ty := .st (.int .i64) (.st (.int .i64) (.st (.int .i64) (.st (.int .i64) .nil)))
abbrev tyPiece:Ty := .st (.int .u8) (.st (.int .i64) (.st (.int .i64) (.st (.sl tyWay) .nil)))
abbrev tyEnd:Ty := .st (.int .i64) (.st (.int .i64) (.st (.int .i64) (.st .bool .nil)))
abbrev qfo:Ty := .st .str (.st (.int .i64) (.st (.int .i64) (.st (.sl tyPiece) (.st (.sl (.int .i64)) (.st .bool (.st .bool (.st (.sl tyEnd) (.st (.int .i64) (.st (.int .i64) (.st (.int .i64) .nil))))))))))

def nz (x:Int):Option Int:=if x=0 then none else some x
def qd5 (f:Nat→Int) (n:Nat):Int:=scan (fun i=>nz (f i)) 0 0 n
theorem qgz {f:Nat→Int} {n:Nat} (h:qd5 f n=0):∀i,i<n→f i=0:=by
 have key:∀(k i:Nat),scan (fun i=>nz (f i)) 0 i k=0→∀j,i≤j→j<i+k→f j=0:=by
  intro k
  induction k with
  | zero=>intro i _ j h1 h2;omega
  | succ k ih =>
   intro i hs j h1 h2;unfold scan at hs;by_cases c:f i=0
   ·simp only[nz,if_pos c] at hs;rcases Nat.eq_or_lt_of_le h1 with e | e
    ·rw[←e];exact c
    ·exact ih (i+1) hs j e (by omega)
   ·simp only[nz,if_neg c] at hs;exact absurd hs c
 exact fun i hi=>key n 0 h i (Nat.zero_le _) (by omega)
theorem loopNZ {γ:Type} (n:Nat) (f:((Int×Unit)×Unit)→Option (((Int×Unit)×Unit) ⊕ (γ ⊕ Int))) (err:Nat→Int) (u:γ) (z:Option Int)
  (h1:∀i,i<n→f (((i:Int),()),())=if err i=0 then some (.inl ((((i+1:Nat):Int),()),())) else some (.inr (.inr (err i)))) (h2:f (((n:Int),()),())=some (.inr (.inl u))) :
  Option.bind (iterW f ((0,()),())) (Sum.elim (fun _=>z) some)=if qd5 err n=0 then z else some (qd5 err n):=by
 have key:∀k i,i+k=n→Option.bind (iterW f (((i:Int),()),())) (Sum.elim (fun _=>z) some)=if scan (fun i=>nz (err i)) 0 i k=0 then z else some (scan (fun i=>nz (err i)) 0 i k):=by
  intro k
  induction k with
  | zero =>
   intro i hi
   have:i=n:=by omega
   subst this;rw[qz h2];rfl
  | succ k ih =>
   intro i hi;have hs:=h1 i (by omega);unfold scan;by_cases c:err i=0
   ·rw[if_pos c] at hs;rw[qX hs,ih (i+1) (by omega)]
    have:nz (err i)=none:=by simp only[nz,if_pos c]
    rw[this]
   ·rw[if_neg c] at hs;rw[qz hs]
    have:nz (err i)=some (err i):=by simp only[nz,if_neg c]
    simp only[this,if_neg c];rfl
 exact key n 0 (by omega)
def ch (s:ByteArray) (i:Nat):Nat:=((s[i]?).getD 0).toNat
theorem strAt_eq (s:ByteArray) (i:Nat) (h:i<s.size):∃c:UInt8,strAt s (i:Int)=some c∧c.toNat=ch s i:=by
 refine⟨(s[i]?).getD 0,?_,rfl⟩
 have h0:decide ((0:Int)≤(i:Int))=true:=by simp
 have:s[i]?=some s[i]:=getElem?_pos s i h;unfold strAt;rw[h0,cond_true,Int.toNat_natCast,this];rfl
theorem ch_lt (s:ByteArray) (i:Nat):ch s i<256:=UInt8.toNat_lt _
def qmH (s:ByteArray) (i:Nat):Bool:=!(decide (65≤ch s i∧ch s i≤90)||decide (i≠0∧48≤ch s i∧ch s i≤57))
def quR (s:ByteArray):Bool:=!((List.range s.size).any (qmH s))&&decide (1≤s.size∧s.size≤8)
theorem empty_iff (s:ByteArray):(s.toList==(ByteArray.mk #[]).toList)=decide (s.size=0):=by
 rw[ByteArray.toList_eq,ByteArray.toList_eq];obtain⟨⟨l⟩⟩:=s;rw[Bool.eq_iff_iff,beq_iff_eq,decide_eq_true_eq];exact List.length_eq_zero_iff.symm
theorem name_spec (s:ByteArray) (hs:s.size≤9223372036854775807):qjD s=some (quR s):=by
 unfold qjD quR
 have hL:=qdg (List.range s.size) (qmH s) (qev s) (.inr false) (.inl ((),())) (fun i hi=>by
  have hi':i<s.size:=by simpa using hi
  obtain⟨c,h1,h2⟩:=strAt_eq s i hi';have hlt:=ch_lt s i;unfold qev
  have h3:(i:Int)<(s.size:Int):=by omega
  have hg:∀b,gopt b 0 (some c)=some (bif b then c else 0):=fun b=>by cases b<;>rfl
  simp only[h3,decide_true,cond_true,h1,Option.bind_some,hg,List.getElem_range,qi (n:=(i:Int)+1) (by omega) (by omega)]
  have hb:qmH s i = !(decide (65≤c.toNat∧c.toNat≤90)||decide (i≠0∧48≤c.toNat∧c.toNat≤57)):=by unfold qmH;rw[h2]
  rw[hb];generalize hn:c.toNat=n at *
  have e0:((i:Int)==0)=decide (i=0):=by rw[Bool.eq_iff_iff];simp
  rw[e0];by_cases c1:65≤n
  ·have a1:decide ((n:Int)≥65)=true:=by simp only[decide_eq_true_eq];omega
   simp only[a1,cond_true,Bool.true_and,hn];by_cases c2:n≤90
   ·have a2:decide ((n:Int)≤90)=true:=by simp only[decide_eq_true_eq];omega
    simp[a2,c1,c2]
   ·have a2:decide ((n:Int)≤90)=false:=by simp only[decide_eq_false_iff_not];omega
    have a3:decide ((n:Int)<48)=false:=by simp only[decide_eq_false_iff_not];omega
    have a4:decide ((n:Int)>57)=true:=by simp only[decide_eq_true_eq];omega
    have a5:¬n≤57:=by omega
    by_cases c3:i=0
    ·simp[a2,c1,c2,c3]
    ·simp[a2,a3,a4,a5,c1,c2,c3,hn]
  ·have a1:decide ((n:Int)≥65)=false:=by simp only[decide_eq_false_iff_not];omega
   by_cases c3:i=0
   ·simp[a1,c1,c3]
   ·by_cases c4:48≤n
    ·have a3:decide ((n:Int)<48)=false:=by simp only[decide_eq_false_iff_not];omega
     by_cases c5:n≤57
     ·have a4:decide ((n:Int)>57)=false:=by simp only[decide_eq_false_iff_not];omega
      simp[a1,a3,a4,c1,c3,c4,c5,hn]
     ·have a4:decide ((n:Int)>57)=true:=by simp only[decide_eq_true_eq];omega
      simp[a1,a3,a4,c1,c3,c4,c5,hn]
    ·have a3:decide ((n:Int)<48)=true:=by simp only[decide_eq_true_eq];omega
     simp[a1,a3,c1,c3,c4,hn]) (by unfold qev;simp)
 rw[hL,empty_iff]
 cases (List.range s.size).any (qmH s) with
 | true=>rfl
 | false =>
  simp only[cond_false,Option.bind_some,Sum.elim_inl,Bool.not_false,Bool.true_and,Option.some.injEq];rw[Bool.eq_iff_iff];simp only[Bool.and_eq_true,Bool.not_eq_true',decide_eq_false_iff_not,decide_eq_true_eq];omega
def qoq (w:Way):Bool:=((((!(qd w.1 (-7:Int) (7:Int)))||(!(qd w.2.1 (-7:Int) (7:Int))))||((w.1==(0:Int))&&(w.2.1==(0:Int))))||(!(qd w.2.2.1 (1:Int) (7:Int))))||(!(qd w.2.2.2.1 (0:Int) (2:Int)))
def pErr (l:List Piece) (i:Nat):Int:=match l[i]? with
 | none=>0
 | some p=>bif decide (p.1<65)||decide (p.1>90) then 6 else bif (l.take i).any (fun q=>q.1==p.1) then 7
  else bif (!(qd p.2.1 0 64))||(!(qd p.2.2.1 0 ((l.length:Nat):Int))) then 4 else bif decide (((p.2.2.2.1.length:Nat):Int)>16) then 2 else bif p.2.2.2.1.any qoq then 4 else 0
theorem take_len {α:Type} (l:List α) {i:Nat} (h:i≤l.length):((l.take i).drop 0).length=i:=by simp;omega
theorem qs3 (r:Rules):qfz r=some (if r.pieces.length=0 then 8 else if 6<r.pieces.length then 2 else qd5 (pErr r.pieces) r.pieces.length):=by
 unfold qfz;by_cases c0:r.pieces.length=0
 ·have:(((r.pieces.length:Nat):Int)==0)=true:=beq_t (by omega);rw[this,if_pos c0];rfl
 ·have:(((r.pieces.length:Nat):Int)==0)=false:=beq_f (by omega);rw[this,if_neg c0,cond_false];by_cases c1:6<r.pieces.length
  ·have:decide (((r.pieces.length:Nat):Int)>6)=true:=by simp only[decide_eq_true_eq];omega
   rw[this,if_pos c1];rfl
  ·have:decide (((r.pieces.length:Nat):Int)>6)=false:=by simp only[decide_eq_false_iff_not];omega
   rw[this,if_neg c1,cond_false];rw[loopNZ r.pieces.length (qc1 r) (pErr r.pieces) ((),()) (some 0) (fun i hi=>?_) (by unfold qc1;simp)]
   ·split
    ·rename_i h;rw[h]
    ·rfl
   ·unfold qc1
    have h1:(i:Int)<(r.pieces.length:Int):=by omega
    have hg:r.pieces[i]?=some r.pieces[i]:=List.getElem?_eq_getElem hi
    have hb:qh 0 (i:Int) r.pieces.length=true:=by unfold qh;simp only[Bool.and_eq_true,decide_eq_true_eq];omega
    simp only[h1,decide_true,cond_true,at?_eq r.pieces (i:Int) (by omega) h1,Option.bind_some,Int.toNat_natCast,hb,qc,qi (n:=(i:Int)+1) (by omega) (by omega)];unfold pErr;rw[hg];generalize hp:r.pieces[i]=p;simp only
    cases hA:(decide (p.1<65)||decide (p.1>90)) with
    | true=>simp
    | false =>
     have hL2:=qdg ((r.pieces.take i).drop 0) (fun q=>q.1==p.1) (qcZ r (((i:Int),()),()) p) (.inr (.inr (.inr (.inr (7:Int))))) (.inl ((),())) (fun j hj=>by
      have hj':j<i:=by rw[take_len _ (by omega)] at hj;exact hj
      unfold qcZ
      have h2:(j:Int)<((((r.pieces.take i).drop 0).length:Nat):Int):=by omega
      have h3:(j:Int)≥0:=by omega
      simp only[Int.toNat_natCast,h2,decide_true,cond_true,at?_eq ((r.pieces.take i).drop 0) (j:Int) (by omega) h2,Option.bind_some,h3,qi (n:=(j:Int)+1) (by omega) (by omega)]
      rfl) (by unfold qcZ;simp)
     rw[hL2];simp only[List.drop_zero,cond_false,Option.bind_some]
     cases hB:(r.pieces.take i).any (fun q=>q.1==p.1) with
     | true=>simp
     | false =>
      simp only[cond_false,Sum.elim_inl]
      cases hC:((!(qd p.2.1 0 64))||(!(qd p.2.2.1 0 ((r.pieces.length:Nat):Int)))) with
      | true=>simp
      | false =>
       simp only[cond_false];by_cases cD:((p.2.2.2.1.length:Nat):Int)>16
       ·simp[cD]
       ·have hL4:=qdg p.2.2.2.1 qoq (qc0 p) (.inr (.inr (.inr (.inr (4:Int))))) (.inl ((),())) (fun j hj=>by
         unfold qc0
         have h2:(j:Int)<((p.2.2.2.1.length:Nat):Int):=by omega
         simp only[h2,decide_true,cond_true,at?_eq p.2.2.2.1 (j:Int) (by omega) h2,Option.bind_some,Int.toNat_natCast,qi (n:=(j:Int)+1) (by omega) (by omega)]
         rfl) (by unfold qc0;simp)
        simp only[cD,decide_false,cond_false,hL4,Option.bind_some]
        cases p.2.2.2.1.any qoq<;>simp
def sErr (r:Rules) (i:Nat):Int:=bif qd (r.start.getD i 0) 0 (2*((r.pieces.length:Nat):Int)) then 0 else 4
def eErr (r:Rules) (i:Nat):Int:=match r.ends[i]? with
 | none=>0
 | some x=>bif !(qd x.1 0 2) then 1 else
  bif (!(bif x.1==1 then x.2.2.1==0 else qd x.2.2.1 1 64))||(!(bif x.1==0 then x.2.1==0 else qd x.2.1 0 (((r.pieces.length:Nat):Int)-1))) then 4 else 0
def qsJ (r:Rules):Int:=bif (((!(qd r.blocked (0:Int) (2:Int)))||(!(qd r.quiet (0:Int) (200:Int))))||((r.repeats !=(0:Int))&&(!(qd r.repeats (2:Int) (5:Int))))) then 4 else 0
def qkm (r:Rules):Int:=if 6<r.ends.length then 2 else qd5 (eErr r) r.ends.length
def qcN (r:Rules):Int :=
 if quR r.name=false then 6 else
 if ¬((1≤r.width∧r.width≤8)∧1≤r.height∧r.height≤8) then 4 else
 if r.pieces.length=0 then 8 else if 6<r.pieces.length then 2 else
 if qd5 (pErr r.pieces) r.pieces.length≠0 then qd5 (pErr r.pieces) r.pieces.length else
 if ((r.start.length:Nat):Int)≠r.width*r.height then 3 else
 if qd5 (sErr r) r.start.length≠0 then qd5 (sErr r) r.start.length else
 if qkm r≠0 then qkm r else qsJ r
theorem within_iff {n a b:Int}:qd n a b=true↔a≤n∧n≤b:=by unfold qd;simp
theorem qnA (r:Rules) (hl:r.pieces.length≤1000):qbx r=some (qkm r):=by
 unfold qbx qkm;by_cases c:6<r.ends.length
 ·have:decide (((r.ends.length:Nat):Int)>6)=true:=by simp only[decide_eq_true_eq];omega
  rw[this,if_pos c];rfl
 ·have:decide (((r.ends.length:Nat):Int)>6)=false:=by simp only[decide_eq_false_iff_not];omega
  rw[this,if_neg c,cond_false];rw[loopNZ r.ends.length (qbk r) (eErr r) ((),()) (some 0) (fun i hi=>?_) (by unfold qbk;simp)]
  ·split
   ·rename_i h;rw[h]
   ·rfl
  ·unfold qbk eErr
   have h1:(i:Int)<(r.ends.length:Int):=by omega
   have hg:r.ends[i]?=some r.ends[i]:=List.getElem?_eq_getElem hi;rw[hg];simp only[h1,decide_true,cond_true,at?_eq r.ends (i:Int) (by omega) h1,Option.bind_some,Int.toNat_natCast,qi (n:=(i:Int)+1) (by omega) (by omega),qi (n:=((r.pieces.length:Nat):Int)-1) (by omega) (by omega)];generalize r.ends[i]=x;by_cases k0:x.1=0
   ·have:qd x.1 0 2=true:=within_iff.2 (by omega);have k1:(x.1==1)=false:=beq_f (by omega);simp only[this,beq_t k0,k1,cond_true,cond_false,Option.bind_some,Sum.elim_inl,Bool.not_true]
    cases qd x.2.2.1 1 64<;>cases (x.2.1==0)<;>simp
   ·by_cases k1:x.1=1
    ·have:qd x.1 0 2=true:=within_iff.2 (by omega);simp only[this,beq_f k0,beq_t k1,cond_true,cond_false,Option.bind_some,Sum.elim_inl,Bool.not_true]
     cases (x.2.2.1==0)<;>cases qd x.2.1 0 (((r.pieces.length:Nat):Int)-1)<;>simp
    ·by_cases k2:x.1=2
     ·have:qd x.1 0 2=true:=within_iff.2 (by omega);simp only[this,beq_f k0,beq_f k1,beq_t k2,cond_true,cond_false,Option.bind_some,Sum.elim_inl,Bool.not_true]
      cases qd x.2.2.1 1 64<;>cases qd x.2.1 0 (((r.pieces.length:Nat):Int)-1)<;>simp
     ·have:qd x.1 0 2=false:=by
       rw[Bool.eq_false_iff];intro h;have:=within_iff.1 h;omega
      simp only[this,beq_f k0,beq_f k1,beq_f k2,cond_true,cond_false,Option.bind_some,Sum.elim_inr,Bool.not_false];rfl
theorem qdF (r:Rules) (hr:Rng qfo r):qeJ r=some (qcN r):=by
 have hname:r.name.size≤9223372036854775807:=Nat.le_trans hr.1 (by decide);have hstart:r.start.length≤9223372036854775807:=Nat.le_trans hr.2.2.2.2.1.1 (by decide);have hP:r.2.2.2.1.length=r.pieces.length:=rfl;have hW:r.2.1*r.2.2.1=r.width*r.height:=rfl;have hE:r.2.2.2.2.2.2.2.1.length=r.ends.length:=rfl;unfold qeJ qcN;rw[name_spec r.name hname,qs3 r];simp only[Option.bind_some]
 cases quR r.name with
 | false=>rfl
 | true =>
  simp only[Bool.not_true,cond_false,Bool.true_eq_false,if_false];by_cases cw:(1≤r.width∧r.width≤8)∧1≤r.height∧r.height≤8
  ·have e1:((!(qd r.2.1 1 8))||(!(qd r.2.2.1 1 8)))=false:=by
    rw[within_iff.2 cw.1,within_iff.2 cw.2];rfl
   have e2:¬ ¬((1≤r.width∧r.width≤8)∧1≤r.height∧r.height≤8):=fun h=>h cw;simp only[e1,if_neg e2,cond_false];by_cases c0:r.pieces.length=0
   ·simp only[if_pos c0];rfl
   ·by_cases c6:6<r.pieces.length
    ·simp only[if_neg c0,if_pos c6];rfl
    ·simp only[if_neg c0,if_neg c6];by_cases cp:qd5 (pErr r.pieces) r.pieces.length=0
     ·have hwh:w64 (r.2.1*r.2.2.1)=r.width*r.height:=by
       have h1:r.width*r.height≤8*8:=Int.mul_le_mul cw.1.2 cw.2.2 (by omega) (by omega);have h2:0≤r.width*r.height:=Int.mul_nonneg (by omega) (by omega);exact qi (by omega) (by omega)
      rw[cp,if_neg (fun h=>h rfl),hwh];simp only[bne_self_eq_false,cond_false];by_cases cs:((r.start.length:Nat):Int)=r.width*r.height
      ·rw[bne_f cs,if_neg (fun h=>h cs),cond_false];rw[loopNZ r.start.length (qdB r) (sErr r) ((),()) _ (fun i hi=>?_) (by unfold qdB;simp)]
       ·rw[qnA r (by omega)];by_cases cse:qd5 (sErr r) r.start.length=0
        ·rw[if_pos cse,if_neg (fun h=>h cse)];simp only[Option.bind_some];by_cases ce:qkm r=0
         ·rw[ce,if_neg (fun h=>h rfl)];simp only[bne_self_eq_false,cond_false];unfold qsJ;exact qW _ _ _
         ·rw[if_pos ce,bne_t ce];rfl
        ·rw[if_neg cse,if_pos cse]
       ·unfold qdB sErr
        have h1:(i:Int)<(r.start.length:Int):=by omega
        have h3:(i:Int)≥0:=by omega
        have hgd:r.start.getD i 0=r.start[i]:=by simp[List.getD_eq_getElem?_getD,List.getElem?_eq_getElem hi]
        simp only[h1,decide_true,cond_true,at?_eq r.start (i:Int) (by omega) h1,Option.bind_some,Int.toNat_natCast,h3,qi (n:=(i:Int)+1) (by omega) (by omega),qi (n:=2*((r.pieces.length:Nat):Int)) (by omega) (by omega),hgd]
        cases qd r.start[i] 0 (2*((r.pieces.length:Nat):Int))<;>simp
      ·rw[bne_t cs,if_pos cs];rfl
     ·rw[bne_t cp,if_pos cp];rfl
  ·have e1:((!(qd r.2.1 1 8))||(!(qd r.2.2.1 1 8)))=true:=by
    rw[Bool.or_eq_true,Bool.not_eq_true',Bool.not_eq_true'];by_cases k:qd r.2.1 1 8=true
    ·right;rw[Bool.eq_false_iff];intro k2;exact cw ⟨within_iff.1 k,within_iff.1 k2⟩
    ·left;exact Bool.eq_false_iff.2 k
   rw[e1,if_pos cw];rfl

abbrev Place:=(List Int)×((List Int)×(List Int)×Unit)×Int×Int×Unit
abbrev Place.cells (p:Place):List Int:=p.1
abbrev Place.h0 (p:Place):List Int:=p.2.1.1
abbrev Place.h1 (p:Place):List Int:=p.2.1.2.1
abbrev Place.turn (p:Place):Int:=p.2.2.1
abbrev Place.quiet (p:Place):Int:=p.2.2.2.1
theorem agree_self {α:Type} (x:Option α):agree x x=x:=by simp[agree]
theorem qlY (s:List Int) (h:s.length≤1000000):qM s=some s:=by
 unfold qM;have:room (([]:List Int).length+s.length) 8=true:=qcl (by simp;omega);rw[this]
 cases s with
 | nil=>simp[qc,agree_self]
 | cons a l=>simp[qc]
theorem concat2 (a b:List Int) (ha:a.length≤1000) (hb:b.length≤1000):qbW [a,b]=some (a++b):=by
 have w1:w64 (0+((a.length:Nat):Int))=(a.length:Int):=by rw[Int.zero_add];exact qi (by omega) (by omega)
 have w2:w64 ((a.length:Int)+((b.length:Nat):Int))=((a.length+b.length:Nat):Int):=by rw[qi (by omega) (by omega)];omega
 have w3:w64 ((0:Int)+1)=1:=by decide
 have w4:w64 ((1:Int)+1)=2:=by decide
 have g0:at? [a,b] 0=some a:=rfl;have g1:at? [a,b] 1=some b:=rfl;have l1:iterW (qI [a,b]) (((0:Int),(0:Int),()),())=some (((((a.length+b.length:Nat):Int)),()),()):=by
  have s0:qI [a,b] (((0:Int),(0:Int),()),())=some (.inl ((((a.length:Nat):Int),(1:Int),()),())):=by
   unfold qI;simp only[g0,w1,w3,Option.bind_some];rw[show decide (((a.length:Nat):Int)<0)=false by simp];rfl
  have s1:qI [a,b] ((((a.length:Nat):Int),(1:Int),()),())=some (.inl ((((a.length+b.length:Nat):Int),(2:Int),()),())):=by
   unfold qI;simp only[g1,w2,w4,Option.bind_some];rw[show decide (((a.length+b.length:Nat):Int)<0)=false by simp;omega];rfl
  have s2:qI [a,b] ((((a.length+b.length:Nat):Int),(2:Int),()),())=some (.inr ((((a.length+b.length:Nat):Int),()),())):=rfl;rw[qX s0,qX s1,qz s2]
 have l2:iterW (qH [a,b]) ((([]:List Int),(0:Int),()),())=some ((a++b,()),()):=by
  have s0:qH [a,b] ((([]:List Int),(0:Int),()),())=some (.inl ((a,(1:Int),()),())):=by
   unfold qH;simp only[g0,w3,Option.bind_some];rw[qcl (by simp;omega)];rfl
  have s1:qH [a,b] ((a,(1:Int),()),())=some (.inl ((a++b,(2:Int),()),())):=by
   unfold qH;simp only[g1,w4,Option.bind_some];rw[qcl (by omega)];rfl
  have s2:qH [a,b] ((a++b,(2:Int),()),())=some (.inr ((a++b,()),())):=rfl;rw[qX s0,qX s1,qz s2]
 unfold qbW;simp only[l1,Option.bind_some];rw[show decide (((a.length+b.length:Nat):Int)<0)=false by simp;omega]
 have w5:w64 (((a.length+b.length:Nat):Int)-0)=((a.length+b.length:Nat):Int):=by rw[Int.sub_zero];exact qi (by omega) (by omega)
 simp only[w5,cond_false];by_cases c:a.length+b.length=0
 ·rw[c];simp only[Int.natCast_zero,show decide ((0:Int)>0)=false by decide,cond_false,Option.bind_some];rw[l2];rfl
 ·have c1:decide (((a.length+b.length:Nat):Int)>0)=true:=by simp;omega
  have c2:decide (0<((a.length+b.length:Nat):Int))=true:=by simp;omega
  have c3:room ((((a.length+b.length:Nat):Int)).toNat) 8=true:=qcl (by omega)
  have c4:∀l:List Int,qh 0 0 l.length=true:=fun l=>by simp[qh]
  simp only[c1,c2,c3,c4,cond_true,Bool.and_self,qc,Option.bind_some,List.take_zero];rw[l2];rfl

def outC (r:Rules) (d:Int):Bool:=decide (d<0)||decide (d>2*((r.pieces.length:Nat):Int))
def outH (d:Int):Bool:=decide (d<0)||decide (d>1000)
def outT (p:Place):Bool:=(((p.turn !=0)&&(p.turn !=1))||decide (p.quiet<0))||decide (p.quiet>200)
def qiN (r:Rules) (p:Place):Bool:=p.cells.any (outC r)||((p.h0++p.h1).any outH||outT p)
def qnn (r:Rules) (p:Place):Bool:=((((p.cells.length:Nat):Int)!=r.width*r.height)||(((p.h0.length:Nat):Int)!=((r.pieces.length:Nat):Int)))||(((p.h1.length:Nat):Int)!=((r.pieces.length:Nat):Int))
def qbj (r:Rules) (p:Place):Int:=if qcN r≠0 then qcN r else bif qnn r p then 3 else bif qiN r p then 4 else 0

structure VR0 (r:Rules):Prop where
 w1:1≤r.width
 w8:r.width≤8
 h1:1≤r.height
 h8:r.height≤8
 t1:1≤r.pieces.length
 t6:r.pieces.length≤6
 hand:∀q∈r.pieces,0≤q.2.1∧q.2.1≤64
 prom:∀q∈r.pieces,0≤q.2.2.1∧q.2.2.1≤((r.pieces.length:Nat):Int)
 ways:∀q∈r.pieces,q.2.2.2.1.length≤16
 way:∀q∈r.pieces,∀w∈q.2.2.2.1,(-7≤w.1∧w.1≤7)∧(-7≤w.2.1∧w.2.1≤7)∧¬(w.1=0∧w.2.1=0)∧(1≤w.2.2.1∧w.2.2.1≤7)∧(0≤w.2.2.2.1∧w.2.2.2.1≤2)
 start:((r.start.length:Nat):Int)=r.width*r.height
 startC:∀c∈r.start,0≤c∧c≤2*((r.pieces.length:Nat):Int)
 ends6:r.ends.length≤6
 ends:∀x∈r.ends,(0≤x.1∧x.1≤2)∧(if x.1=1 then x.2.2.1=0 else 1≤x.2.2.1∧x.2.2.1≤64)∧(if x.1=0 then x.2.1=0 else 0≤x.2.1∧x.2.1≤((r.pieces.length:Nat):Int)-1)
 blocked:0≤r.blocked∧r.blocked≤2
 quiet:0≤r.quiet∧r.quiet≤200
 repeats:r.repeats=0∨(2≤r.repeats∧r.repeats≤5)
structure Valid (r:Rules) (p:Place):Prop where
 r0:VR0 r
 cells:((p.cells.length:Nat):Int)=r.width*r.height
 l0:p.h0.length=r.pieces.length
 l1:p.h1.length=r.pieces.length
 cell:∀c∈p.cells,0≤c∧c≤2*((r.pieces.length:Nat):Int)
 hand0:∀c∈p.h0,0≤c∧c≤1000
 hand1:∀c∈p.h1,0≤c∧c≤1000
 turn:p.turn=0∨p.turn=1
 quiet:0≤p.quiet∧p.quiet≤200

theorem qtf {α:Type} {l:List α} {x:α} (h:x∈l):∃i,i<l.length∧l[i]?=some x:=by
 obtain⟨i,hi,e⟩:=List.mem_iff_getElem.1 h;exact⟨i,hi,by rw[List.getElem?_eq_getElem hi,e]⟩
theorem qfr {r:Rules} (h:qcN r=0):VR0 r:=by
 unfold qcN at h;split at h
 ·cases h
 split at h
 ·cases h
 rename_i _ h2;have h2:=Decidable.not_not.1 h2;split at h
 ·cases h
 rename_i h3;split at h
 ·cases h
 rename_i h4;split at h
 ·rename_i h5;exact absurd h h5
 rename_i h5;have h5:=qgz (Decidable.not_not.1 h5);split at h
 ·cases h
 rename_i h6;have h6:=Decidable.not_not.1 h6;split at h
 ·rename_i h7;exact absurd h h7
 rename_i h7;have h7:=qgz (Decidable.not_not.1 h7);split at h
 ·rename_i h8;exact absurd h h8
 rename_i h8;have h8:=Decidable.not_not.1 h8;unfold qkm at h8;split at h8
 ·cases h8
 rename_i h9;have h8:=qgz h8;have hp:∀q∈r.pieces,(0≤q.2.1∧q.2.1≤64)∧(0≤q.2.2.1∧q.2.2.1≤((r.pieces.length:Nat):Int))∧q.2.2.2.1.length≤16∧q.2.2.2.1.any qoq=false:=fun q hq=>by
  obtain⟨i,hi,e⟩:=qtf hq;have:=h5 i hi;unfold pErr at this;rw[e] at this;simp only at this;cases c1:(decide (q.1<65)||decide (q.1>90))
  ·cases c2:(r.pieces.take i).any (fun q'=>q'.1==q.1)
   ·cases c3:((!(qd q.2.1 0 64))||(!(qd q.2.2.1 0 ((r.pieces.length:Nat):Int))))
    ·cases c4:decide (((q.2.2.2.1.length:Nat):Int)>16)
     ·cases c5:q.2.2.2.1.any qoq
      ·simp only[Bool.or_eq_false_iff,Bool.not_eq_false'] at c3;simp only[decide_eq_false_iff_not] at c4;exact⟨within_iff.1 c3.1,within_iff.1 c3.2,by omega,rfl⟩
      ·simp[c1,c2,c3,c4,c5] at this
     ·simp[c1,c2,c3,c4] at this
    ·simp[c1,c2,c3] at this
   ·simp[c1,c2] at this
  ·simp[c1] at this
 refine⟨h2.1.1,h2.1.2,h2.2.1,h2.2.2,by omega,by omega,fun q hq=>(hp q hq).1,fun q hq=>(hp q hq).2.1,fun q hq=>(hp q hq).2.2.1,fun q hq w hw=>?_,h6,fun c hc=>?_,by omega,fun x hx=>?_,?_,?_,?_⟩
 ·have:=(hp q hq).2.2.2;rw[List.any_eq_false] at this;have:=this w hw;unfold qoq at this;simp only[Bool.not_eq_true,Bool.or_eq_false_iff,Bool.not_eq_false',within_iff,Bool.and_eq_false_iff,beq_eq_false_iff_ne] at this;refine⟨this.1.1.1.1,this.1.1.1.2,fun h=>?_,this.1.2,this.2⟩;rcases this.1.1.2 with h' | h'
  ·exact h' h.1
  ·exact h' h.2
 ·obtain⟨i,hi,e⟩:=qtf hc;have:=h7 i hi;unfold sErr at this;rw[List.getD_eq_getElem?_getD,e] at this;cases c1:qd c 0 (2*((r.pieces.length:Nat):Int))
  ·simp[c1] at this
  ·exact within_iff.1 c1
 ·obtain⟨i,hi,e⟩:=qtf hx;have:=h8 i hi;unfold eErr at this;rw[e] at this;simp only at this;cases c1:qd x.1 0 2
  ·simp[c1] at this
  ·cases c2:(!(bif x.1==1 then x.2.2.1==0 else qd x.2.2.1 1 64))||(!(bif x.1==0 then x.2.1==0 else qd x.2.1 0 (((r.pieces.length:Nat):Int)-1)))
   ·simp only[Bool.or_eq_false_iff,Bool.not_eq_false'] at c2;refine⟨within_iff.1 c1,?_,?_⟩
    ·have:=c2.1;by_cases e1:x.1=1
     ·rw[if_pos e1];simpa[e1] using this
     ·rw[if_neg e1];rw[beq_f e1,cond_false] at this;exact within_iff.1 this
    ·have:=c2.2;by_cases e1:x.1=0
     ·rw[if_pos e1];simpa[e1] using this
     ·rw[if_neg e1];rw[beq_f e1,cond_false] at this;exact within_iff.1 this
   ·simp[c1,c2] at this
 all_goals
  unfold qsJ at h;cases c1:(((!(qd r.blocked (0:Int) (2:Int)))||(!(qd r.quiet (0:Int) (200:Int))))||((r.repeats !=(0:Int))&&(!(qd r.repeats (2:Int) (5:Int)))))
  ·simp only[Bool.or_eq_false_iff,Bool.not_eq_false',within_iff,Bool.and_eq_false_iff,bne_eq_false_iff_eq] at c1
   first
   | exact c1.1.1
   | exact c1.1.2
   | exact c1.2
  ·simp[c1] at h
theorem VR0.area {r:Rules} (h:VR0 r):1≤r.width*r.height∧r.width*r.height≤64:=by
 have h1:r.width*r.height≤8*8:=Int.mul_le_mul h.w8 h.h8 (by have:=h.h1;omega) (by omega);have h2:1*1≤r.width*r.height:=Int.mul_le_mul h.w1 h.h1 (by omega) (by have:=h.w1;omega);omega
theorem qvJ (r:Rules) (p:Place) (hr:VR0 r) (hn:p.1.length≤9223372036854775807):qg9 r p=some (bif qnn r p then 3 else bif qiN r p then 4 else 0):=by
 have ha:=hr.area;have ht:=hr.t6;unfold qg9 qnn;rw[show r.2.1*r.2.2.1=r.width*r.height from rfl,qi (n:=r.width*r.height) (by omega) (by omega)]
 cases hb:((((((p.1.length:Nat):Int)!=r.width*r.height)||(((p.2.1.1.length:Nat):Int)!=((r.2.2.2.1.length:Nat):Int)))||(((p.2.1.2.1.length:Nat):Int)!=((r.2.2.2.1.length:Nat):Int)))) with
 | true=>rfl
 | false =>
  simp only[Bool.or_eq_false_iff,bne_eq_false_iff_eq] at hb;obtain⟨⟨b1,b2⟩,b3⟩:=hb;have ht':r.2.2.2.1.length≤6:=ht;rw[cond_false,cond_false,concat2 _ _ (by omega) (by omega),Option.bind_some];unfold qiN
  have hl2:(p.2.1.1++p.2.1.2.1).length≤2000:=by simp;omega
  show _=some (bif (p.1.any (outC r)||((p.2.1.1++p.2.1.2.1).any outH||outT p)) then(4:Int) else 0);generalize p.2.1.1++p.2.1.2.1=l at hl2;have i1:iterW (qcg p r l) (((0:Int),()),())=some (bif p.1.any (outC r) then .inr ((true,()),()) else .inl ((),())):=by
   refine qdg p.1 (outC r) (qcg p r l) (.inr ((true,()),())) (.inl ((),())) (fun i hi=>?_) ?_
   ·unfold qcg;simp only[show decide ((i:Int)<((p.1.length:Nat):Int))=true by simp;omega,cond_true];rw[at?_eq _ _ (by omega) (by omega)];simp only[Option.bind_some,Int.toNat_natCast,List.getElem?_eq_getElem hi];rw[qi (n:=(i:Int)+1) (by omega) (by omega),show decide ((i:Int)≥0)=true by simp];rw[qi (n:=(2:Int)*((r.2.2.2.1.length:Nat):Int)) (by omega) (by omega)];unfold outC;generalize (decide (p.1[i]<(0:Int))||decide (p.1[i]>((2:Int)*((r.2.2.2.1.length:Nat):Int))))=q
    cases q<;>rfl
   ·unfold qcg;simp
  have i2:iterW (qcm l p) (((0:Int),()),())=some (bif l.any outH then .inr ((true,()),()) else .inl ((),())):=by
   refine qdg l outH (qcm l p) (.inr ((true,()),())) (.inl ((),())) (fun i hi=>?_) ?_
   ·unfold qcm;simp only[show decide ((i:Int)<((l.length:Nat):Int))=true by simp;omega,cond_true,Int.toNat_natCast,show inb (i:Int) l.length=true from inb_iff.2 ⟨by omega,by omega⟩,qc,show decide ((i:Int)≥0)=true by simp];rw[qi (n:=(i:Int)+1) (by omega) (by omega)]
    have e:getD' l i (0:Int)=l[i]:=by simp[getD',hi]
    have e':outH l[i]=(decide (getD' l i (0:Int)<(0:Int))||decide (getD' l i (0:Int)>(1000:Int))):=by rw[e];rfl
    rw[e'];generalize (decide (getD' l i (0:Int)<(0:Int))||decide (getD' l i (0:Int)>(1000:Int)))=q
    cases q<;>simp
   ·unfold qcm;simp
  have e4:iterW (qjm p r l) (((0:Int),()),())=_:=i1;have e6:iterW (qio l p) (((0:Int),()),())=_:=i2;simp only[i1,i2,e4,e6,agree_self,Option.bind_some];unfold outT;cases p.1.any (outC r)
  ·cases l.any outH
   ·simp only[cond_false,Sum.elim_inl,Option.bind_some,Bool.false_or];exact(qW _ _ _)
   ·rfl
  ·rfl
theorem qvr (r:Rules) (p:Place) (hr:Rng qfo r) (hn:p.1.length≤9223372036854775807):qhm r p=some (qbj r p):=by
 unfold qhm qbj;rw[qdF r hr,Option.bind_some];by_cases c:qcN r=0
 ·rw[bne_f c,cond_false,if_neg (by simpa using c),qvJ r p (qfr c) hn];rfl
 ·rw[bne_t c,cond_true,if_pos c]
theorem qul {r:Rules} {p:Place} (h:qbj r p=0):Valid r p:=by
 unfold qbj at h;split at h
 ·rename_i c;exact absurd h c
 rename_i c;have hv:=qfr (Decidable.not_not.1 c);cases c1:qnn r p
 ·rw[c1,cond_false] at h;cases c2:qiN r p
  ·unfold qnn at c1;unfold qiN outT at c2;simp only[Bool.or_eq_false_iff,bne_eq_false_iff_eq,List.any_eq_false,Bool.and_eq_false_iff,decide_eq_false_iff_not,List.mem_append,outC,outH,decide_eq_true_eq,Bool.not_eq_true] at c1 c2;obtain⟨⟨a1,a2⟩,a3⟩:=c1;obtain⟨b1,b2,⟨b3,b4⟩,b5⟩:=c2;exact⟨hv,a1,by omega,by omega,fun c hc=>by have:=b1 c hc;omega,fun c hc=>by have:=b2 c (.inl hc);omega,fun c hc=>by have:=b2 c (.inr hc);omega,b3,by omega⟩
  ·rw[c2] at h;cases h
 ·rw[c1] at h;cases h

abbrev RWay:=Int×Int×Int×Int×Unit
def cellI (p:Place) (s:Int):Int:=p.cells.getD s.toNat 0
def onB (r:Rules) (x y:Int):Bool:=decide (0≤x∧x<r.width∧0≤y∧y<r.height)
def sq (r:Rules) (x y:Int):Int:=y*r.width+x
def enemy (p:Place) (c:Int):Bool:=decide (c>0)&&((c-1).tmod 2 !=p.turn)
def mineB (p:Place) (c:Int):Bool:=decide (c>0)&&((c-1).tmod 2==p.turn)
def takes (p:Place) (w:RWay) (c:Int):Bool:=((c==0)&&(w.2.2.2.1 !=2))||(enemy p c&&(w.2.2.2.1 !=0))
def dyOf (p:Place) (w:RWay):Int:=if p.turn=1 then-w.2.1 else w.2.1
def wayL (r:Rules) (p:Place) (w:RWay):Nat→Int→Int→List Int
 | 0,_,_=>[]
 | n+1,x,y=>bif onB r (x+w.1) (y+dyOf p w) then(bif takes p w (cellI p (sq r (x+w.1) (y+dyOf p w))) then [sq r (x+w.1) (y+dyOf p w)] else [])++(bif cellI p (sq r (x+w.1) (y+dyOf p w))==0 then wayL r p w n (x+w.1) (y+dyOf p w) else []) else []
def wayS (r:Rules) (p:Place) (s:Int) (w:RWay):List Int:=wayL r p w w.2.2.1.toNat (s.tmod r.width) (s.tdiv r.width)

def WayOk (w:RWay):Prop:=(-7≤w.1∧w.1≤7)∧(-7≤w.2.1∧w.2.1≤7)∧¬(w.1=0∧w.2.1=0)∧(1≤w.2.2.1∧w.2.2.1≤7)∧(0≤w.2.2.2.1∧w.2.2.2.1≤2)
theorem Valid.wayOk {r:Rules} {p:Place} (h:Valid r p) {q:Piece} (hq:q∈r.pieces) {w:RWay} (hw:w∈q.2.2.2.1):WayOk w:=h.r0.way q hq w hw
theorem dyOf_rng {p:Place} {w:RWay} (h:WayOk w) : -7≤dyOf p w∧dyOf p w≤7:=by
 unfold dyOf;obtain⟨_,h1,_⟩:=h;split<;>omega
theorem onB_iff {r:Rules} {x y:Int}:onB r x y=true↔0≤x∧x<r.width∧0≤y∧y<r.height:=by simp[onB]
theorem qpQ {y W H:Int} (hW:0≤W) (h0:0≤y) (h1:y<H):0≤y*W∧y*W≤W*H-W:=by
 refine⟨Int.mul_nonneg h0 hW,?_⟩;have:=Int.mul_le_mul_of_nonneg_right (show y≤H-1 by omega) hW;rw[Int.sub_mul,Int.one_mul,Int.mul_comm H W] at this;exact this
theorem que {r:Rules} (hr:VR0 r) {x y:Int} (h:onB r x y=true):0≤sq r x y∧sq r x y<r.width*r.height:=by
 obtain⟨h1,h2,h3,h4⟩:=onB_iff.1 h;have:=qpQ (show 0≤r.width by have:=hr.w1;omega) h3 h4;unfold sq;omega
theorem qif {p:Place} {s:Int} (h0:0≤s) (h1:s<((p.cells.length:Nat):Int)):at? p.1 s=some (cellI p s):=by
 rw[at?_eq p.1 s h0 h1];unfold cellI;have h1':s<((p.1.length:Nat):Int):=h1;rw[List.getD_eq_getElem?_getD,List.getElem?_eq_getElem (by show s.toNat<p.1.length;omega)];rfl
theorem quX {r:Rules} {p:Place} (h:Valid r p) (s:Int):0≤cellI p s∧cellI p s≤2*((r.pieces.length:Nat):Int):=by
 unfold cellI;rw[List.getD_eq_getElem?_getD]
 cases e:p.cells[s.toNat]? with
 | none=>simp;omega
 | some c=>exact h.cell c (List.mem_of_getElem? e)
theorem qkH {r:Rules} {p:Place} (h:Valid r p) (s:Int):0≤cellI p s∧cellI p s≤12:=by
 have:=quX h s;have:=h.r0.t6;omega
theorem quj (r:Rules) (p:Place) (w:RWay):∀(n:Nat) (x y:Int),(wayL r p w n x y).length≤n
 | 0,x,y=>by simp[wayL]
 | n+1,x,y=>by
  unfold wayL;have:=quj r p w n (x+w.1) (y+dyOf p w);cases onB r (x+w.1) (y+dyOf p w)
  ·simp
  ·cases takes p w (cellI p (sq r (x+w.1) (y+dyOf p w)))<;>cases (cellI p (sq r (x+w.1) (y+dyOf p w))==0)<;>simp<;>omega
theorem quW {r:Rules} {p:Place} {w:RWay} {t:Int}:∀ {n:Nat} {x y:Int},t∈wayL r p w n x y→∃j:Int,1≤j∧onB r (x+j*w.1) (y+j*dyOf p w)=true∧t=sq r (x+j*w.1) (y+j*dyOf p w)
 | 0,x,y,h=>by simp[wayL] at h
 | n+1,x,y,h=>by
  unfold wayL at h
  cases hb:onB r (x+w.1) (y+dyOf p w) with
  | false=>simp[hb] at h
  | true =>
   rw[hb,cond_true] at h;rcases List.mem_append.1 h with h | h
   ·refine⟨1,by omega,by simpa using hb,?_⟩
    cases ht:takes p w (cellI p (sq r (x+w.1) (y+dyOf p w)))<;>simp[ht] at h
    simpa using h
   ·cases hc:(cellI p (sq r (x+w.1) (y+dyOf p w))==0)<;>simp[hc] at h
    obtain⟨j,h1,h2,h3⟩:=quW h
    have e1:x+w.1+j*w.1=x+(j+1)*w.1:=by rw[Int.add_mul];omega
    have e2:y+dyOf p w+j*dyOf p w=y+(j+1)*dyOf p w:=by rw[Int.add_mul];omega
    rw[e1,e2] at h2 h3;exact⟨j+1,by omega,h2,h3⟩
theorem qmz {r:Rules} {p:Place} (h:VR0 r) {w:RWay} {n:Nat} {x y t:Int} (ht:t∈wayL r p w n x y):0≤t∧t<r.width*r.height:=by
 obtain⟨j,h1,h2,h3⟩:=quW ht;rw[h3];exact que h h2
theorem qpu {r:Rules} (hr:VR0 r) {s:Int} (h0:0≤s) (h1:s<r.width*r.height):(0≤s.tmod r.width∧s.tmod r.width<r.width)∧0≤s.tdiv r.width∧s.tdiv r.width<r.height:=by
 have hw:=hr.w1;rw[Int.tmod_eq_emod_of_nonneg h0,Int.tdiv_eq_ediv_of_nonneg h0];refine⟨⟨Int.emod_nonneg _ (by omega),Int.emod_lt_of_pos _ (by omega)⟩,Int.ediv_nonneg h0 (by omega),Int.ediv_lt_of_lt_mul (by omega) (by rw[Int.mul_comm];exact h1)⟩
theorem qvb {r:Rules} {p:Place} (h:Valid r p) {w:RWay} (hw:WayOk w) (s:Int) :
  ((((w.2.2.2.1==(0:Int))&&(cellI p s==(0:Int)))||((w.2.2.2.1==(1:Int))&&((cellI p s==(0:Int))||((decide (cellI p s>(0:Int)))&&(((w64 (cellI p s-(1:Int))).tmod (2:Int))!=p.2.2.1)))))||((w.2.2.2.1==(2:Int))&&((decide (cellI p s>(0:Int)))&&(((w64 (cellI p s-(1:Int))).tmod (2:Int))!=p.2.2.1))))=takes p w (cellI p s):=by
 have hc:=qkH h s;rw[qi (n:=cellI p s-1) (by omega) (by omega)];obtain⟨_,_,_,_,h5⟩:=hw
 have h6:w.2.2.2.1=0∨w.2.2.2.1=1∨w.2.2.2.1=2:=by omega
 unfold takes enemy;rw[show p.turn=p.2.2.1 from rfl];generalize hA:(cellI p s==0)=A;have hA':A=true→decide (cellI p s>0)=false:=fun h=>by
  subst hA;rw[beq_iff_eq] at h;simp[h]
 generalize decide (cellI p s>0)=B at hA';generalize ((cellI p s-1).tmod 2 !=p.2.2.1)=C
 rcases h6 with h6 | h6 | h6<;>rw[h6]<;>cases A<;>cases B<;>cases C<;>simp_all
theorem qt3 {r:Rules} {p:Place} (h:Valid r p) {w:RWay} (hw:WayOk w):∀(n:Nat) (out:List Int) (x y k:Int),0≤k→k+n=w.2.2.1→out.length≤k.toNat→(0≤x∧x<r.width)→(0≤y∧y<r.height) →
  iterW (qcL w r ((dyOf p w,()),()) p) ((out,x,y,k,()),())=some ((out++wayL r p w n x y,()),())
 | 0,out,x,y,k,h0,hk,ho,hx,hy=>by
  refine qz ?_;unfold qcL
  have:decide (k<w.2.2.1)=false:=by simp;omega
  simp only[this,cond_false,wayL,List.append_nil]
 | n+1,out,x,y,k,h0,hk,ho,hx,hy=>by
  have hr:=h.r0;have hd:=dyOf_rng (p:=p) hw;obtain⟨hdx,_,_,hm,_⟩:=hw;have:=hr.w8;have:=hr.h8;have:=hr.w1;have:=hr.h1;have ha:=hr.area
  have hlt:decide (k<w.2.2.1)=true:=by simp;omega
  have wx:w64 (x+w.1)=x+w.1:=qi (by omega) (by omega);have wy:w64 (y+dyOf p w)=y+dyOf p w:=qi (by omega) (by omega);have wk:w64 (k+1)=k+1:=qi (by omega) (by omega);have hoff:((((decide (x+w.1<(0:Int)))||(decide (x+w.1≥r.2.1)))||(decide (y+dyOf p w<(0:Int))))||(decide (y+dyOf p w≥r.2.2.1))) = !onB r (x+w.1) (y+dyOf p w):=by
   rw[Bool.eq_iff_iff];simp only[Bool.or_eq_true,decide_eq_true_eq,Bool.not_eq_true',onB,decide_eq_false_iff_not];show((x+w.1<0∨x+w.1≥r.width)∨y+dyOf p w<0)∨y+dyOf p w≥r.height↔_;omega
  unfold wayL
  cases hb:onB r (x+w.1) (y+dyOf p w) with
  | false =>
   refine qz ?_;unfold qcL;simp only[hlt,cond_true,wx,wy,hoff,hb,Bool.not_false,cond_false,List.append_nil]
  | true =>
   have hs:=que hr hb;obtain⟨b1,b2,b3,b4⟩:=onB_iff.1 hb;have hmul:=qpQ (show 0≤r.width by omega) b3 b4;have w1:w64 ((y+dyOf p w)*r.2.1)=(y+dyOf p w)*r.2.1:=qi (by show _≤(y+dyOf p w)*r.width;omega) (by show(y+dyOf p w)*r.width≤_;omega);have w2:w64 ((y+dyOf p w)*r.2.1+(x+w.1))=sq r (x+w.1) (y+dyOf p w):=qi (by show _≤sq r (x+w.1) (y+dyOf p w);omega) (by show sq r (x+w.1) (y+dyOf p w)≤_;omega);have hat:=qif (p:=p) hs.1 (by rw[h.cells];exact hs.2);have hlen:=h.cells
   have hstep:qcL w r ((dyOf p w,()),()) p ((out,x,y,k,()),())=(bif cellI p (sq r (x+w.1) (y+dyOf p w))!=0 then some (.inr ((out++(bif takes p w (cellI p (sq r (x+w.1) (y+dyOf p w))) then [sq r (x+w.1) (y+dyOf p w)] else []),()),())) else some (.inl ((out++(bif takes p w (cellI p (sq r (x+w.1) (y+dyOf p w))) then [sq r (x+w.1) (y+dyOf p w)] else []),x+w.1,y+dyOf p w,k+1,()),()))):=by
    unfold qcL
    simp only[hlt,cond_true,wx,wy,hoff,hb,Bool.not_true,cond_false,w1,w2,wk,hat,Option.bind_some,qvb h ⟨hdx,‹_›,‹_›,hm,‹_›⟩,show ∀b,imp b true=true from fun b=>by cases b<;>rfl,qc]
    have hroom:room (out.length+[sq r (x+w.1) (y+dyOf p w)].length) 8=true:=qcl (by simp;omega);cases takes p w (cellI p (sq r (x+w.1) (y+dyOf p w)))
    ·simp
    ·simp only[cond_true,hroom,qc,Option.bind_some]
   cases hc:(cellI p (sq r (x+w.1) (y+dyOf p w))==0) with
   | true =>
    have hne:(cellI p (sq r (x+w.1) (y+dyOf p w))!=0)=false:=by simp only[bne,hc];rfl
    rw[hne,cond_false] at hstep
    rw[qX hstep,qt3 h ⟨hdx,‹_›,‹_›,hm,‹_›⟩ n _ (x+w.1) (y+dyOf p w) (k+1) (by omega) (by omega) (by
     have:(bif takes p w (cellI p (sq r (x+w.1) (y+dyOf p w))) then [sq r (x+w.1) (y+dyOf p w)] else []).length≤1:=by cases takes p w (cellI p (sq r (x+w.1) (y+dyOf p w)))<;>simp
     rw[List.length_append];omega) ⟨b1,b2⟩ ⟨b3,b4⟩]
    simp[List.append_assoc]
   | false =>
    have hne:(cellI p (sq r (x+w.1) (y+dyOf p w))!=0)=true:=by simp only[bne,hc];rfl
    rw[hne,cond_true] at hstep;rw[qz hstep];simp
theorem way_spec {r:Rules} {p:Place} (h:Valid r p) {w:RWay} (hw:WayOk w) {s:Int} (h0:0≤s) (h1:s<r.width*r.height):ql1 r p s w=some (wayS r p s w):=by
 have hr:=h.r0;have hd:=qpu hr h0 h1;have:=hr.w8;have:=hr.h8;have:=hr.w1;have:=hr.h1;obtain⟨hdx,hdy,hnz,hm,htk⟩:=id hw;unfold ql1 wayS;have hq:(r.2.1 !=0)=true:=bne_t (by show ¬r.width=0;omega);have wdy:(bif (p.2.2.1==(1:Int)) then some (((w64 (0-w.2.1)),()),()) else some ((w.2.1,()),()))=some ((dyOf p w,()),()):=by
  unfold dyOf;by_cases e:p.turn=1
  ·rw[if_pos e,beq_t e,cond_true,qi (by omega) (by omega)];simp
  ·rw[if_neg e,beq_f e,cond_false]
 have wq:w64 (s.tdiv r.2.1)=s.tdiv r.2.1:=qi (by show _≤s.tdiv r.width;omega) (by show s.tdiv r.width≤_;omega);rw[wdy,Option.bind_some,hq,qc,qc,wq,qt3 h hw w.2.2.1.toNat [] _ _ 0 (by omega) (by omega) (by simp) hd.1 hd.2];simp

theorem qne (x y:Mv):mvLt x y=true↔x.1<y.1∨x.1=y.1∧(x.2.1<y.2.1∨x.2.1=y.2.1∧x.2.2.1<y.2.2.1):=by simp[mvLt]
theorem lt_f (x y:Mv):mvLt x y=false↔¬(x.1<y.1∨x.1=y.1∧(x.2.1<y.2.1∨x.2.1=y.2.1∧x.2.2.1<y.2.2.1)):=by rw[←qne,Bool.not_eq_true]
theorem mv_eq {x y:Mv} (h1:x.1=y.1) (h2:x.2.1=y.2.1) (h3:x.2.2.1=y.2.2.1):x=y:=by
 obtain⟨a,b,c,⟨⟩⟩:=x;obtain⟨a',b',c',⟨⟩⟩:=y;simp only at h1 h2 h3;subst h1 h2 h3;rfl
theorem mv_beq (x y:Mv):((x.1==y.1)&&((x.2.1==y.2.1)&&((x.2.2.1==y.2.2.1)&&true)))=decide (x=y):=by
 rw[Bool.eq_iff_iff];simp only[Bool.and_eq_true,beq_iff_eq,decide_eq_true_eq,and_true];constructor
 ·rintro ⟨h1,h2,h3⟩;exact mv_eq h1 h2 h3
 ·rintro rfl;exact⟨rfl,rfl,rfl⟩

def dd1 (a:Mv):List Mv→List Mv
 | []=>[]
 | x::xs=>if x=a then dd1 a xs else x::dd1 x xs
def dd:List Mv→List Mv
 | []=>[]
 | x::xs=>x::dd1 x xs
theorem qpA (y:Mv):∀(l:List Mv) (a:Mv),dd1 a (l++[y])=dd1 a l++(if (a::l).getLast (by simp)=y then [] else [y])
 | [],a=>by simp only[List.nil_append,dd1,List.getLast_singleton];by_cases h:y=a<;>simp[h,eq_comm]
 | x::xs,a=>by
  simp only[List.cons_append,dd1];by_cases h:x=a
  ·subst h;rw[if_pos rfl,if_pos rfl,qpA y xs x];congr 2
  ·rw[if_neg h,if_neg h,qpA y xs x,List.cons_append];congr 2
theorem dd_snoc {l:List Mv} (hl:l≠[]) (y:Mv):dd (l++[y])=dd l++(if l.getLast hl=y then [] else [y]):=by
 cases l with
 | nil=>exact absurd rfl hl
 | cons x xs=>simp only[List.cons_append,dd,qpA]
theorem qpV (z:Mv):∀(l:List Mv) (a:Mv),z∈a::dd1 a l↔z∈a::l
 | [],a=>by simp[dd1]
 | x::xs,a=>by
  simp only[dd1];by_cases h:x=a
  ·subst h;rw[if_pos rfl,qpV z xs x];simp
  ·rw[if_neg h,List.mem_cons,qpV z xs x,←List.mem_cons]
theorem dd_mem (z:Mv) (l:List Mv):z∈dd l↔z∈l:=by
 cases l with
 | nil=>simp[dd]
 | cons x xs=>exact qpV z xs x
theorem dd1_lt:∀(l:List Mv) (a:Mv),(a::l).Pairwise (fun x y=>(!mvLt y x)=true)→(a::dd1 a l).Pairwise (fun x y=>mvLt x y=true)
 | [],a,h=>by simp[dd1]
 | x::xs,a,h=>by
  simp only[dd1];rw[List.pairwise_cons] at h;by_cases e:x=a
  ·subst e;rw[if_pos rfl];exact dd1_lt xs x h.2
  ·rw[if_neg e,List.pairwise_cons];refine⟨fun z hz=>?_,dd1_lt xs x h.2⟩;have hz':=(qpV z xs x).1 hz;have h1:=h.1 x (by simp);have hax:mvLt a x=true:=by
    rw[Bool.not_eq_true',lt_f] at h1;rw[qne];by_cases c1:a.1=x.1
    ·by_cases c2:a.2.1=x.2.1
     ·by_cases c3:a.2.2.1=x.2.2.1
      ·exact absurd (mv_eq c1 c2 c3).symm e
      ·omega
     ·omega
    ·omega
   rcases List.mem_cons.1 hz' with rfl | hz2
   ·exact hax
   ·have h2:=(List.pairwise_cons.1 h.2).1 z hz2;rw[Bool.not_eq_true',lt_f] at h2;rw[qne] at hax ⊢;omega
theorem dd_lt {l:List Mv} (h:l.Pairwise (fun x y=>(!mvLt y x)=true)):(dd l).Pairwise (fun x y=>mvLt x y=true):=by
 cases l with
 | nil=>simp[dd]
 | cons x xs=>exact dd1_lt xs x h
theorem sort_pw (l:List Mv):(qbn l).Pairwise (fun x y=>(!mvLt y x)=true):=by
 unfold qbn;apply List.pairwise_mergeSort
 ·intro a b c h1 h2;rw[Bool.not_eq_true',lt_f] at *;omega
 ·intro a b;rw[Bool.or_eq_true,Bool.not_eq_true',Bool.not_eq_true',lt_f,lt_f];omega
theorem sort_mem (z:Mv) (l:List Mv):z∈qbn l↔z∈l:=(List.mergeSort_perm l _).mem_iff
theorem sort_len (l:List Mv):(qbn l).length=l.length:=List.length_mergeSort l
theorem lt_irrefl (x:Mv):mvLt x x=false:=by rw[lt_f];omega
theorem qrC:∀ {l m:List Mv},l.Pairwise (fun x y=>mvLt x y=true)→m.Pairwise (fun x y=>mvLt x y=true)→(∀z,z∈l↔z∈m)→l=m
 | [],[],_,_,_=>rfl
 | [],y::m,_,_,h=>by have:=(h y).2 (by simp);simp at this
 | x::l,[],_,_,h=>by have:=(h x).1 (by simp);simp at this
 | x::l,y::m,hl,hm,h=>by
  rw[List.pairwise_cons] at hl hm;have e:x=y:=by
   rcases List.mem_cons.1 ((h x).1 (by simp)) with e | e
   ·exact e
   ·rcases List.mem_cons.1 ((h y).2 (by simp)) with e2 | e2
    ·exact e2.symm
    ·have a:=hm.1 x e;have b:=hl.1 y e2;rw[qne] at a b;omega
  subst e;congr 1;refine qrC hl.2 hm.2 fun z=>⟨fun hz=>?_,fun hz=>?_⟩
  ·rcases List.mem_cons.1 ((h z).1 (by simp[hz])) with e | e
   ·subst e;have:=hl.1 z hz;rw[lt_irrefl] at this;cases this
   ·exact e
  ·rcases List.mem_cons.1 ((h z).2 (by simp[hz])) with e | e
   ·subst e;have:=hm.1 z hz;rw[lt_irrefl] at this;cases this
   ·exact e

abbrev d0:Mv:=((0:Int),((0:Int),((0:Int),())))
theorem qt1 {xs:List Mv} {j:Nat} (h:j<xs.length):xs.take (j+1)=xs.take j++[getD' xs j d0]:=by
 rw[List.take_succ_eq_append_getElem h];simp[getD',h]
theorem dd_take {xs:List Mv} {j:Nat} (h:j<xs.length) (hj:1≤j):dd (xs.take (j+1))=dd (xs.take j)++(if getD' xs (j-1) d0=getD' xs j d0 then [] else [getD' xs j d0]):=by
 have hne:xs.take j≠[]:=by
  intro e;have:=congrArg List.length e;rw[List.length_take] at this;simp only[List.length_nil] at this;omega
 rw[qt1 h,dd_snoc hne];have:(xs.take j).getLast hne=getD' xs (j-1) d0:=by
  rw[List.getLast_eq_getElem];simp only[List.getElem_take,List.length_take,getD'];rw[List.getD_eq_getElem?_getD,List.getElem?_eq_getElem (by omega)];simp only[Option.getD_some];congr 1;omega
 rw[this]
theorem compact5 (xs:List Mv) (k0:Nat) (hk0:1≤k0) (hk1:k0<xs.length) (hx:xs.length≤1000000) (hd:dd (xs.take (k0+1))=xs.take k0) :
  ∃r,iterW (qgu (((k0:Int),()),(xs,()))) (((k0:Int),(1:Int),()),(xs,()))=some r∧(∃k:Nat,r.1.1=(k:Int)∧k≤xs.length∧r.2.1.length=xs.length∧r.2.1.take k=dd xs):=by
 refine qg (fun x=>∃(k k2:Nat),x.1.1=(k:Int)∧x.1.2.1=(k2:Int)∧1≤k2∧k0+k2≤xs.length∧k0≤k∧k+1≤k0+k2∧x.2.1.length=xs.length∧(∀j,k0+k2≤j+1→getD' x.2.1 j d0=getD' xs j d0)∧x.2.1.take k=dd (xs.take (k0+k2))) (fun x=>xs.length-x.1.2.1.toNat) _ ?_ _ ⟨k0,1,rfl,rfl,by omega,by omega,by omega,by omega,rfl,fun _ _=>rfl,by rw[hd]⟩
 rintro ⟨⟨k,k2,⟨⟩⟩,ys,⟨⟩⟩ ⟨K,K2,e1,e2,h1,h2,h3,h4,h5,h6,h7⟩
 simp only at e1 e2 h5 h6 h7;subst e1 e2;unfold qgu;simp only[Int.toNat_natCast];by_cases hlt:K2<xs.length-k0
 ·left
  have c1:decide ((K2:Int)<((xs.length-k0:Nat):Int))=true:=by simp;omega
  have c2:inb (K2:Int) (xs.length-k0)=true:=inb_iff.2 ⟨by omega,by omega⟩
  have w1:w64 ((K2:Int)-1)=((K2-1:Nat):Int):=by rw[qi (by omega) (by omega)];omega
  have c3:inb ((K2-1:Nat):Int) (xs.length-k0)=true:=inb_iff.2 ⟨by omega,by omega⟩
  have w2:w64 ((K2:Int)+1)=((K2+1:Nat):Int):=by rw[qi (by omega) (by omega)];omega
  have w3:w64 ((K:Int)+1)=((K+1:Nat):Int):=by rw[qi (by omega) (by omega)];omega
  have c4:inb (K:Int) ys.length=true:=inb_iff.2 ⟨by omega,by omega⟩;have g1:getD' ys (k0+K2) d0=getD' xs (k0+K2) d0:=h6 _ (by omega);have g2:getD' ys (k0+(K2-1)) d0=getD' xs (k0+(K2-1)) d0:=h6 _ (by omega);have hdd:=dd_take (xs:=xs) (j:=k0+K2) (by omega) (by omega);simp only[c1,cond_true,c2,qc,w1,Int.toNat_natCast,c3,w2,w3,c4,mv_beq,g1,g2];by_cases he:getD' xs (k0+K2) d0=getD' xs (k0+(K2-1)) d0
  ·refine⟨(((K:Int),((K2+1:Nat):Int),()),(ys,())),by simp[he],⟨K,K2+1,rfl,rfl,by omega,by omega,by omega,by omega,h5,fun j hj=>h6 j (by omega),?_⟩,by simp;omega⟩;rw[show k0+(K2+1)=k0+K2+1 by omega,hdd,if_pos (by rw[he];congr 1;omega),List.append_nil];exact h7
  ·refine⟨((((K+1:Nat):Int),((K2+1:Nat):Int),()),(ys.set K (getD' xs (k0+K2) d0),())),by simp[he],⟨K+1,K2+1,rfl,rfl,by omega,by omega,by omega,by omega,by simp[h5],fun j hj=>?_,?_⟩,by simp;omega⟩
   ·rw[←h6 j (by omega)];simp only[getD'];simp only[List.getD_eq_getElem?_getD];rw[List.getElem?_set_ne (by omega)]
   ·rw[show k0+(K2+1)=k0+K2+1 by omega,hdd,if_neg (by intro e;apply he;rw[←e];congr 1;omega),←h7];rw[List.take_succ_eq_append_getElem (by simp;omega)];simp[List.take_set_of_le]
 ·right
  have c1:decide ((K2:Int)<((xs.length-k0:Nat):Int))=false:=by simp;omega
  refine⟨(((K:Int),()),(ys,())),by simp only[c1,cond_false],K,rfl,by omega,h5,?_⟩;rw[h7,show k0+K2=xs.length by omega,List.take_length]
theorem compact4 (xs:List Mv) (hx:xs.length≤1000000) (h2:2≤xs.length) :
  (Option.bind (α:=((Unit)×((List Mv)×Unit)) ⊕ (((List Mv)×Unit)×(Unit))) (iterW qei (((1:Int),()),(xs,()))) (Sum.elim (fun x23=>some ((x23.2.1,()),())) some))=some ((dd xs,()),()):=by
 obtain⟨r,hr,hq⟩:=qg (f:=qei) (fun x=>∃k:Nat,x=(((k:Int),()),(xs,()))∧1≤k∧k≤xs.length∧dd (xs.take k)=xs.take k) (fun x=>xs.length-x.1.1.toNat) (fun r=>r = .inl ((),(xs,()))∧dd xs=xs∨r = .inr ((dd xs,()),())) (by
  rintro x ⟨k,rfl,h1,h3,h4⟩
  unfold qei;simp only[Int.toNat_natCast];by_cases hlt:k<xs.length
  ·have c1:decide ((k:Int)<((xs.length:Nat):Int))=true:=by simp;omega
   have c2:inb (k:Int) xs.length=true:=inb_iff.2 ⟨by omega,by omega⟩
   have w1:w64 ((k:Int)-1)=((k-1:Nat):Int):=by rw[qi (by omega) (by omega)];omega
   have c3:inb ((k-1:Nat):Int) xs.length=true:=inb_iff.2 ⟨by omega,by omega⟩
   have w2:w64 ((k:Int)+1)=((k+1:Nat):Int):=by rw[qi (by omega) (by omega)];omega
   have c4:qh (k:Int) ((xs.length:Nat):Int) xs.length=true:=by simp[qh];omega
   have hdd:=dd_take hlt h1;simp only[c1,cond_true,c2,qc,w1,Int.toNat_natCast,c3,c4,mv_beq];by_cases he:getD' xs k d0=getD' xs (k-1) d0
   ·right;rw[if_pos he.symm,List.append_nil,h4] at hdd;obtain⟨r,hr,K,e1,e2,e3,e4⟩:=compact5 xs k h1 hlt hx hdd;obtain⟨⟨k',⟨⟩⟩,ys,⟨⟩⟩:=r;simp only at e1 e3 e4;subst e1;refine⟨.inr ((dd xs,()),()),?_,.inr rfl⟩;rw[hr]
    have c5:qh (K:Int) ((ys.length:Nat):Int) ys.length=true:=by simp[qh];omega
    have c6:∀l:List Mv,K≤l.length→qh 0 (K:Int) l.length=true:=fun l hl=>by simp[qh];omega
    simp only[he,decide_true,cond_true,Option.bind_some,c5,qc,Int.toNat_natCast];rw[c6 _ (by simp;omega),qc,Option.bind_some,Sum.elim_inr,List.take_append_of_le_length (by simp;omega),List.take_take,Nat.min_self,e4]
   ·left;refine⟨((((k+1:Nat):Int),()),(xs,())),?_,⟨k+1,rfl,by omega,by omega,?_⟩,by simp;omega⟩
    ·simp only[he,decide_false,cond_false,Option.bind_some,Sum.elim_inl,w2]
    ·rw[hdd,if_neg (fun e=>he e.symm),h4,←qt1 hlt]
  ·right
   have c1:decide ((k:Int)<((xs.length:Nat):Int))=false:=by simp;omega
   refine⟨.inl ((),(xs,())),by simp only[c1,cond_false],.inl ⟨rfl,?_⟩⟩
   have:k=xs.length:=by omega
   rw[this,List.take_length] at h4
   exact h4) (((1:Int),()),(xs,())) ⟨1,rfl,by omega,by omega,by
    cases xs with
    | nil=>rfl
    | cons x l=>rfl⟩
 rw[hr];rcases hq with ⟨rfl,e⟩ | rfl
 ·rw[e];rfl
 ·rfl

def qb2 (p:Place):List Int:=getD' [p.2.1.1,p.2.1.2.1] (p.2.2.1).toNat []
theorem qj2 {r:Rules} {p:Place} (h:Valid r p):qb2 p=if p.turn=0 then p.h0 else p.h1:=by
 unfold qb2;rcases h.turn with e | e
 ·rw[if_pos e,show p.2.2.1=0 from e];rfl
 ·rw[if_neg (by omega),show p.2.2.1=1 from e];rfl
theorem qlV {r:Rules} {p:Place} (h:Valid r p):(qb2 p).length=r.pieces.length:=by
 rw[qj2 h];split
 ·exact h.l0
 ·exact h.l1
theorem quI {r:Rules} {p:Place} (h:Valid r p):∀c∈qb2 p,0≤c∧c≤1000:=by
 rw[qj2 h];split
 ·exact h.hand0
 ·exact h.hand1
def handI (p:Place) (k:Int):Int:=(qb2 p).getD k.toNat 0
theorem at_hand {p:Place} {k:Int} (h0:0≤k) (h1:k<(((qb2 p).length:Nat):Int)):at? (getD' [p.2.1.1,p.2.1.2.1] (p.2.2.1).toNat []) k=some (handI p k):=by
 show at? (qb2 p) k=_;rw[at?_eq _ k h0 h1];unfold handI;rw[List.getD_eq_getElem?_getD,List.getElem?_eq_getElem (by omega)];rfl
def colF (p:Place) (W x0:Int):Nat→Bool
 | 0=>true
 | y+1=>colF p W x0 y&&(cellI p (x0+(y:Int)*W)!=0)
def qig (r:Rules) (p:Place) (s:Int):Bool:=colF p r.width (s.tmod r.width) (s.tdiv r.width).toNat
theorem div_eq {W s:Int} (hW:1≤W) (h0:0≤s):s=s.tmod W+((s.tdiv W).toNat:Int)*W:=by
 have h1:=Int.tmod_add_tdiv_mul s W
 have h2:0≤s.tdiv W:=by rw[Int.tdiv_eq_ediv_of_nonneg h0];exact Int.ediv_nonneg h0 (by omega)
 rw[Int.toNat_of_nonneg h2];exact h1.symm
theorem qmL {r:Rules} {p:Place} (h:Valid r p) {x0:Int} (hx:0≤x0∧x0<r.width):∀(y:Nat),(y:Int)≤r.height →
  (Option.bind (α:=((Unit)×(Unit)) ⊕ Bool) (iterW (qbT p r) ((x0+(y:Int)*r.width-r.width,()),())) (Sum.elim (fun x3=>some true) some))=some (colF p r.width x0 y)
 | 0,hy=>by
  rw[qz (r := .inl ((),())) (by
   unfold qbT
   have:decide (x0+((0:Nat):Int)*r.width-r.width≥0)=false:=by simp;omega
   simp only[this,cond_false])]
  rfl
 | y+1,hy=>by
  have hr:=h.r0;have:=hr.w8;have:=hr.h8;have:=hr.w1;have:=hr.h1;have ha:=hr.area;have hb:onB r x0 (y:Int)=true:=onB_iff.2 ⟨hx.1,hx.2,by omega,by omega⟩;have hs:=que hr hb;have hm:=qpQ (show 0≤r.width by omega) (show(0:Int)≤(y:Int) by omega) (show(y:Int)<r.height by omega);have e:x0+((y+1:Nat):Int)*r.width-r.width=x0+(y:Int)*r.width:=by
   rw[show((y+1:Nat):Int)=(y:Int)+1 by omega,Int.add_mul];omega
  rw[e];have hat:=qif (p:=p) (s:=x0+(y:Int)*r.width) (by omega) (by rw[h.cells];omega)
  have hge:decide (x0+(y:Int)*r.width≥0)=true:=by simp;omega
  cases hc:(cellI p (x0+(y:Int)*r.width)==0) with
  | true =>
   rw[qz (r := .inr false) (by
    unfold qbT
    simp only[hge,cond_true,hat,Option.bind_some,hc])]
   simp[colF,bne,hc]
  | false =>
   rw[qX (y:=((x0+(y:Int)*r.width-r.width,()),())) (by
    unfold qbT;simp only[hge,cond_true,hat,Option.bind_some,hc,cond_false]
    rw[qi (n:=x0+(y:Int)*r.width-r.2.1) (by show _≤x0+(y:Int)*r.width-r.width;omega) (by show x0+(y:Int)*r.width-r.width≤_;omega)]),qmL h hx y (by omega)]
   simp[colF,bne,hc]
theorem qtJ {r:Rules} {p:Place} (h:Valid r p) {s:Int} (h0:0≤s) (h1:s<r.width*r.height):qfv r p s=some (qig r p s):=by
 have hr:=h.r0;have:=hr.w8;have:=hr.h8;have:=hr.w1;have:=hr.h1;have ha:=hr.area;have hd:=qpu hr h0 h1;have e:=div_eq hr.w1 h0;unfold qfv qig;rw[qi (n:=s-r.2.1) (by show _≤s-r.width;omega) (by show s-r.width≤_;omega)];have:=qmL h hd.1 (s.tdiv r.width).toNat (by omega);rw[←e] at this;exact this
def putOk (r:Rules) (p:Place) (s:Int):Bool:=(cellI p s==0)&&(!r.falls||qig r p s)
def qfM (r:Rules) (p:Place) (s:Nat):List Mv:=bif putOk r p (s:Int) then(List.range (qb2 p).length).flatMap (fun k:Nat=>bif decide (handI p (k:Int)>0) then [((-1:Int),((s:Int),((k:Int),())))] else []) else []
theorem fm_len1 {A:Type} (n:Nat) (F:Nat→List A) (h:∀k,(F k).length≤1):((List.range n).flatMap F).length≤n:=by
 have:=qbr F 1 (List.range n) (fun k _=>h k);simpa using this
theorem qkn {r:Rules} {p:Place} (h:Valid r p) (s:Nat):(qfM r p s).length≤6:=by
 unfold qfM;cases putOk r p (s:Int)
 ·simp
 ·rw[cond_true];refine Nat.le_trans (fm_len1 _ _ fun k=>?_) (by rw[qlV h];exact h.r0.t6)
  cases decide (handI p (k:Int)>0)<;>simp
theorem qek {r:Rules} {p:Place} (h:Valid r p):p.1.length≤64:=by
 have:=h.cells;have:=h.r0.area;have h1:((p.1.length:Nat):Int)=r.width*r.height:=h.cells;omega
theorem puts_spec {r:Rules} {p:Place} (h:Valid r p):qir r p=some ((List.range p.1.length).flatMap (qfM r p)):=by
 have hr:=h.r0;have:=hr.w8;have:=hr.h8;have:=hr.w1;have:=hr.h1;have ha:=hr.area;have hlen:((p.1.length:Nat):Int)=r.width*r.height:=h.cells;have h64:=qek h
 have hh:(qb2 p).length≤6:=by rw[qlV h];exact hr.t6
 unfold qir;rw[qjT (A:=Mv) p.1.length 6 (qer p r) (qfM r p) (fun a=>((a,()),())) [] (fun i _=>qkn h i) (fun i hi a hal=>?_) (fun a=>?_)]
 ·simp
 ·unfold qer
  have c1:decide ((i:Int)<((p.1.length:Nat):Int))=true:=by simp;omega
  have hat:=qif (p:=p) (s:=(i:Int)) (by omega) (by show(i:Int)<((p.1.length:Nat):Int);omega);simp only[c1,cond_true,hat,Option.bind_some];have hf:=qtJ h (s:=(i:Int)) (by omega) (by omega);have hfil:(i:Int)<r.width→qig r p (i:Int)=true:=fun hlt=>by
   unfold qig;rw[Int.tdiv_eq_ediv_of_nonneg (by omega),Int.ediv_eq_zero_of_lt (by omega) hlt];rfl
  rw[hf]
  have hg:∀b c:Bool,gopt b false (some c)=some (b&&c):=fun b c=>by cases b<;>rfl
  rw[hg,Option.bind_some];have hcond:((cellI p (i:Int)!=(0:Int))||((r.2.2.2.2.2.1&&(decide ((i:Int)≥r.2.1)))&&(!(((r.2.2.2.2.2.1&&(decide ((i:Int)≥r.2.1)))&&(!(cellI p (i:Int)!=(0:Int))))&&qig r p (i:Int))))) = !putOk r p (i:Int):=by
   unfold putOk;rw[show r.2.2.2.2.2.1=r.falls from rfl];by_cases hlt:(i:Int)<r.width
   ·rw[hfil hlt,show decide ((i:Int)≥r.2.1)=false by simp;exact hlt];simp only[bne]
    cases (cellI p (i:Int)==0)<;>cases r.falls<;>rfl
   ·rw[show decide ((i:Int)≥r.2.1)=true by simp;show r.width≤(i:Int);omega];simp only[bne]
    cases (cellI p (i:Int)==0)<;>cases r.falls<;>cases qig r p (i:Int)<;>rfl
  rw[hcond,qi (n:=(i:Int)+1) (by omega) (by omega)];unfold qfM
  cases hp:putOk r p (i:Int) with
  | false=>simp
  | true =>
   have hin:inb p.2.2.1 2=true:=inb_iff.2 (by have:=h.turn;show 0≤p.turn∧p.turn<((2:Nat):Int);omega);simp only[Bool.not_true,cond_false,cond_true,hin,qc]
   rw[qjT (A:=Mv) (qb2 p).length 1 (qep p ((a,(i:Int),()),())) (fun k=>bif decide (handI p (k:Int)>0) then [((-1:Int),((i:Int),((k:Int),())))] else []) (fun a=>((a,()),())) a (fun k _=>by cases decide (handI p (k:Int)>0)<;>simp) (fun k hk a2 ha2=>?_) (fun a2=>?_)]
   ·rfl
   ·unfold qep;have c2:decide ((k:Int)<(((getD' [p.2.1.1,p.2.1.2.1] (p.2.2.1).toNat []).length:Nat):Int))=true:=by
     have:k<(getD' [p.2.1.1,p.2.1.2.1] (p.2.2.1).toNat []).length:=hk;simp;exact this
    have hat2:=at_hand (p:=p) (k:=(k:Int)) (by omega) (by omega);simp only[c2,cond_true,hat2,Option.bind_some];rw[qi (n:=(k:Int)+1) (by omega) (by omega)];cases decide (handI p (k:Int)>0)
    ·simp
    ·have hroom:room (a2.length+[((-1:Int),((i:Int),((k:Int),())))].length) 24=true:=qcl (by
      simp only[List.length_singleton,List.length_nil] at *;have:i*6≤64*6:=Nat.mul_le_mul_right _ (by omega)
      omega)
     simp only[cond_true,hroom,qc,Option.bind_some]
   ·unfold qep;have c2:decide ((((qb2 p).length:Nat):Int)<(((getD' [p.2.1.1,p.2.1.2.1] (p.2.2.1).toNat []).length:Nat):Int))=false:=by
     show decide ((((qb2 p).length:Nat):Int)<(((qb2 p).length:Nat):Int))=false;simp
    simp only[c2,cond_false]
 ·unfold qer;simp

def lastB (r:Rules) (pl t:Int):Bool:=bif pl==0 then t.tdiv r.width==r.height-1 else t.tdiv r.width==0
theorem qma {r:Rules} (hr:VR0 r) (pl:Int) {t:Int} (h0:0≤t) (h1:t<r.width*r.height):qdN r pl t=some (lastB r pl t):=by
 have:=hr.w8;have:=hr.h8;have:=hr.w1;have:=hr.h1;have hd:=qpu hr h0 h1;have hq:(r.2.1 !=0)=true:=bne_t (by show ¬r.width=0;omega);have w1:w64 (t.tdiv r.2.1)=t.tdiv r.width:=qi (by show _≤t.tdiv r.width;omega) (by show t.tdiv r.width≤_;omega);have w2:w64 (r.2.2.1-1)=r.height-1:=qi (by show _≤r.height-1;omega) (by show r.height-1≤_;omega);unfold qdN lastB;rw[hq,qc,qc,w1,w2];exact qW _ _ _
def qbR (r:Rules) (k:Int):Piece:=r.pieces.getD k.toNat (0,0,0,[],())
theorem qqg {r:Rules} {k:Int} (h0:0≤k) (h1:k<((r.pieces.length:Nat):Int)):at? r.2.2.2.1 k=some (qbR r k)∧qbR r k∈r.pieces:=by
 have h1':k<((r.2.2.2.1.length:Nat):Int):=h1;rw[at?_eq r.2.2.2.1 k h0 h1];unfold qbR;rw[List.getD_eq_getElem?_getD,List.getElem?_eq_getElem (by show k.toNat<r.2.2.2.1.length;omega)];exact⟨rfl,List.getElem_mem _⟩
def qbs (c:Int):Int:=(c-1).tdiv 2
theorem qjH {r:Rules} {p:Place} (h:Valid r p) {s:Int} (hm:cellI p s>0):w64 ((w64 (cellI p s-1)).tdiv 2)=qbs (cellI p s)∧0≤qbs (cellI p s)∧qbs (cellI p s)<((r.pieces.length:Nat):Int):=by
 have hc:=quX h s;have ht:=h.r0.t6;rw[qi (n:=cellI p s-1) (by omega) (by omega)];unfold qbs;rw[Int.tdiv_eq_ediv_of_nonneg (by omega)];refine⟨qi (by omega) (by omega),by omega,by omega⟩
def becomes (r:Rules) (p:Place) (k t:Int):Int:=bif decide ((qbR r k).2.2.1>0)&&lastB r p.turn t then(qbR r k).2.2.1-1 else k
def goAt (r:Rules) (p:Place) (s:Nat):List Mv:=bif mineB p (cellI p (s:Int)) then(qbR r (qbs (cellI p (s:Int)))).2.2.2.1.flatMap (fun w=>(wayS r p (s:Int) w).map fun t=>((s:Int),(t,(becomes r p (qbs (cellI p (s:Int))) t,())))) else []
theorem qjQ {A C:Type} (l:List C) (F:C→List A) (d:C):(List.range l.length).flatMap (fun i=>F (l.getD i d))=l.flatMap F:=by
 induction l with
 | nil=>rfl
 | cons x l ih =>
  rw[List.length_cons,List.range_succ_eq_map,List.flatMap_cons,List.flatMap_cons,List.flatMap_map]
  have e:(fun a=>F ((x::l).getD a.succ d))=fun i=>F (l.getD i d):=by funext i;simp
  rw[e,ih];rfl
theorem map_range {A C:Type} (l:List C) (F:C→A) (d:C):(List.range l.length).flatMap (fun i=>[F (l.getD i d)])=l.map F:=by
 rw[qjQ l (fun x=>[F x]) d]
 induction l with
 | nil=>rfl
 | cons x l ih=>rw[List.flatMap_cons,List.map_cons,ih];rfl
theorem qsG {r:Rules} {p:Place} {s:Int} {w:RWay} (hw:WayOk w):(wayS r p s w).length≤7:=by
 obtain⟨_,_,_,h4,_⟩:=hw;exact Nat.le_trans (quj _ _ _ _ _ _) (by omega)
theorem quk {r:Rules} {p:Place} (h:Valid r p) (s:Nat):(goAt r p s).length≤112:=by
 unfold goAt
 cases hm:mineB p (cellI p (s:Int)) with
 | false=>simp
 | true =>
  have hc:cellI p (s:Int)>0:=by unfold mineB at hm;simp at hm;exact hm.1
  have hk:=qjH h hc;have hmem:=(qqg (r:=r) hk.2.1 hk.2.2).2;rw[cond_true];refine Nat.le_trans (qbr _ 7 _ fun w hw=>?_) ?_
  ·rw[List.length_map];exact qsG (h.wayOk hmem hw)
  ·have:=h.r0.ways _ hmem;omega
def qcW (r:Rules) (p:Place):List Mv:=(List.range p.1.length).flatMap (qfM r p)++(List.range p.1.length).flatMap (goAt r p)
theorem list_raw {r:Rules} {p:Place} (h:Valid r p):iterW (qc4 p r) (((List.range p.1.length).flatMap (qfM r p),(0:Int),()),())=some ((qcW r p,()),()):=by
 have hr:=h.r0;have:=hr.w8;have:=hr.h8;have:=hr.w1;have:=hr.h1;have ha:=hr.area;have hlen:((p.1.length:Nat):Int)=r.width*r.height:=h.cells;have h64:=qek h;have hpl:((List.range p.1.length).flatMap (qfM r p)).length≤64*6:=by
  refine Nat.le_trans (qbr _ 6 _ fun i _=>qkn h i) ?_;rw[List.length_range];exact Nat.mul_le_mul_right _ h64
 unfold qcW;generalize (List.range p.1.length).flatMap (qfM r p)=pl at hpl;refine qjT (A:=Mv) p.1.length 112 (qc4 p r) (goAt r p) (fun a=>((a,()),())) pl (fun i _=>quk h i) (fun i hi a hal=>?_) (fun a=>?_)
 ·have hal2:a.length≤64*6+64*112:=by
   have:i*112≤64*112:=Nat.mul_le_mul_right _ (by omega);omega
  unfold qc4
  have c1:decide ((i:Int)<((p.1.length:Nat):Int))=true:=by simp;omega
  have hat:=qif (p:=p) (s:=(i:Int)) (by omega) (by show(i:Int)<((p.1.length:Nat):Int);omega);have hc:=qkH h (i:Int)
  have hi2:(i:Int)<r.width*r.height:=by omega
  simp only[c1,cond_true,hat,Option.bind_some,show ∀b,imp b true=true from fun b=>by cases b<;>rfl,qc]
  have hcond:((cellI p (i:Int)==(0:Int))||(((w64 (cellI p (i:Int)-(1:Int))).tmod (2:Int))!=p.2.2.1)) = !mineB p (cellI p (i:Int)):=by
   rw[qi (n:=cellI p (i:Int)-1) (by omega) (by omega)];unfold mineB;rw[show p.turn=p.2.2.1 from rfl];by_cases hz:cellI p (i:Int)=0
   ·simp[hz]
   ·rw[beq_f hz,show decide (cellI p (i:Int)>0)=true by simp;omega];simp[bne]
  rw[hcond,qi (n:=(i:Int)+1) (by omega) (by omega)];unfold goAt
  cases hm:mineB p (cellI p (i:Int)) with
  | false=>simp
  | true =>
   have hcp:cellI p (i:Int)>0:=by unfold mineB at hm;simp at hm;exact hm.1
   have hk:=qjH h hcp;obtain⟨hpa,hmem⟩:=qqg (r:=r) hk.2.1 hk.2.2;simp only[Bool.not_true,cond_false,hk.1,hpa,Option.bind_some,cond_true];generalize hK:qbs (cellI p (i:Int))=K at *;have hways:=h.r0.ways _ hmem;have hWl:(qbR r K).2.2.2.1.length≤16:=hways;rw[qjT (A:=Mv) (qbR r K).2.2.2.1.length 7 (qec (qbR r K) r p ((a,(i:Int),()),()) (cellI p (i:Int))) (fun j=>(wayS r p (i:Int) ((qbR r K).2.2.2.1.getD j (0,0,0,0,()))).map fun t=>((i:Int),(t,(becomes r p K t,())))) (fun a=>((a,()),())) a (fun j hj=>?_) (fun j hj a2 ha2=>?_) (fun a2=>?_)]
   ·rw[qjQ (qbR r K).2.2.2.1 (fun w=>(wayS r p (i:Int) w).map fun t=>((i:Int),(t,(becomes r p K t,())))) (0,0,0,0,())];rfl
   ·rw[List.length_map,List.getD_eq_getElem?_getD,List.getElem?_eq_getElem hj];exact qsG (h.wayOk hmem (List.getElem_mem hj))
   ·have ha22:a2.length≤64*6+64*112+112:=by
     have:j*7≤16*7:=Nat.mul_le_mul_right _ (by omega);omega
    unfold qec
    have c2:decide ((j:Int)<(((qbR r K).2.2.2.1.length:Nat):Int))=true:=by simp;omega
    have hatw:at? (qbR r K).2.2.2.1 (j:Int)=some ((qbR r K).2.2.2.1.getD j (0,0,0,0,())):=by
     rw[at?_eq _ _ (by omega) (by omega),List.getD_eq_getElem?_getD,List.getElem?_eq_getElem hj];rfl
    have hwm:(qbR r K).2.2.2.1.getD j (0,0,0,0,())∈(qbR r K).2.2.2.1:=by
     rw[List.getD_eq_getElem?_getD,List.getElem?_eq_getElem hj];exact List.getElem_mem hj
    have hwo:=h.wayOk hmem hwm;simp only[c2,cond_true,hatw,Option.bind_some];generalize (qbR r K).2.2.2.1.getD j (0,0,0,0,())=w at *;rw[way_spec h hwo (by omega) hi2,Option.bind_some];have hwl:=qsG (r:=r) (p:=p) (s:=(i:Int)) hwo;have hwr:∀t∈wayS r p (i:Int) w,0≤t∧t<r.width*r.height:=fun t ht=>qmz hr ht;generalize wayS r p (i:Int) w=T at *;rw[qjT (A:=Mv) T.length 1 (qem T r (cellI p (i:Int)) p ((a,(i:Int),()),())) (fun t=>[((i:Int),(T.getD t 0,(becomes r p K (T.getD t 0),())))]) (fun a=>((a,()),())) a2 (fun _ _=>by simp) (fun t ht a3 ha3=>?_) (fun a3=>?_)]
    ·rw[map_range T (fun t=>((i:Int),(t,(becomes r p K t,())))) 0];simp only[Option.bind_some];rw[qi (n:=(j:Int)+1) (by omega) (by omega)]
    ·unfold qem
     have c3:decide ((t:Int)<((T.length:Nat):Int))=true:=by simp;omega
     have c4:inb (t:Int) T.length=true:=inb_iff.2 ⟨by omega,by omega⟩;have hg:getD' T t (0:Int)=T.getD t 0:=rfl;have htr:=hwr (T.getD t 0) (by rw[List.getD_eq_getElem?_getD,List.getElem?_eq_getElem ht];exact List.getElem_mem ht);simp only[c3,cond_true,c4,qc,hk.1,hpa,Option.bind_some,Int.toNat_natCast,hg];generalize T.getD t 0=tt at *;rw[qma hr p.2.2.1 htr.1 htr.2];have hpr:=h.r0.prom _ hmem;have ht6:=h.r0.t6
     have hgo:∀b c:Bool,gopt b false (some c)=some (b&&c):=fun b c=>by cases b<;>rfl
     rw[hgo,Option.bind_some,qi (n:=(qbR r K).2.2.1-1) (by omega) (by omega),qi (n:=(t:Int)+1) (by omega) (by omega)];unfold becomes;rw[show p.turn=p.2.2.1 from rfl];have hroom:room (a3.length+1) 24=true:=qcl (by omega)
     cases decide ((qbR r K).2.2.1>0)<;>cases lastB r p.2.2.1 tt<;>simp[hroom,qc]
    ·unfold qem;simp
   ·unfold qec;simp
 ·unfold qc4;simp
theorem raw_len {r:Rules} {p:Place} (h:Valid r p):(qcW r p).length≤10000:=by
 have h64:=qek h;unfold qcW;rw[List.length_append];have h1:((List.range p.1.length).flatMap (qfM r p)).length≤64*6:=by
  refine Nat.le_trans (qbr _ 6 _ fun i _=>qkn h i) ?_;rw[List.length_range];exact Nat.mul_le_mul_right _ h64
 have h2:((List.range p.1.length).flatMap (goAt r p)).length≤64*112:=by
  refine Nat.le_trans (qbr _ 112 _ fun i _=>quk h i) ?_;rw[List.length_range];exact Nat.mul_le_mul_right _ h64
 omega
theorem list_dd {r:Rules} {p:Place} (h:Valid r p):qc5 r p=some (dd (qbn (qcW r p))):=by
 unfold qc5;rw[puts_spec h,Option.bind_some,list_raw h,Option.bind_some];have hl:=raw_len h;have hb:Nat.blt (qcW r p).length 4611686018427387904=true:=by
  rw[Nat.blt_eq];omega
 simp only[hb,qc];have hs:=sort_len (qcW r p);generalize qbn (qcW r p)=xs at hs;by_cases h2:xs.length<2
 ·have c:decide (((xs.length:Nat):Int)<2)=true:=by simp;omega
  rw[c,cond_true];have:dd xs=xs:=by
   match xs,h2 with
   | [],_=>rfl
   | [x],_=>rfl
  rw[this];rfl
 ·have c:decide (((xs.length:Nat):Int)<2)=false:=by simp;omega
  rw[c,cond_false,compact4 xs (by omega) (by omega)];rfl

def mvOk (r:Rules) (p:Place) (m:Mv):Bool:=decide ((-1≤m.1∧m.1<((p.1.length:Nat):Int))∧(0≤m.2.1∧m.2.1<((p.1.length:Nat):Int))∧(0≤m.2.2.1∧m.2.2.1<((r.pieces.length:Nat):Int)))
def goOk (r:Rules) (p:Place) (m:Mv):Bool:=mineB p (cellI p m.1)&&((becomes r p (qbs (cellI p m.1)) m.2.1==m.2.2.1)&&(qbR r (qbs (cellI p m.1))).2.2.2.1.any (fun w=>decide (m.2.1∈wayS r p m.1 w)))
def qQ (r:Rules) (p:Place) (m:Mv):Bool:=mvOk r p m&&(bif m.1 == -1 then decide (handI p m.2.2.1>0)&&putOk r p m.2.1 else goOk r p m)
def at3 (r:Rules) (p:Place) (i j k:Nat):List Mv:=bif qQ r p ((i:Int)-1,((j:Int),((k:Int),()))) then [((i:Int)-1,((j:Int),((k:Int),())))] else []
def at2 (r:Rules) (p:Place) (i j:Nat):List Mv:=(List.range r.2.2.2.1.length).flatMap (at3 r p i j)
def at1 (r:Rules) (p:Place) (i:Nat):List Mv:=(List.range p.1.length).flatMap (at2 r p i)
def qdW (r:Rules) (p:Place):List Mv:=(List.range (p.1.length+1)).flatMap (at1 r p)
theorem at3_len (r:Rules) (p:Place) (i j k:Nat):(at3 r p i j k).length≤1:=by unfold at3;cases qQ r p ((i:Int)-1,((j:Int),((k:Int),())))<;>simp
theorem at2_len {r:Rules} {p:Place} (h:Valid r p) (i j:Nat):(at2 r p i j).length≤6:=Nat.le_trans (fm_len1 _ _ (at3_len r p i j)) h.r0.t6
theorem at1_len {r:Rules} {p:Place} (h:Valid r p) (i:Nat):(at1 r p i).length≤384:=by
 refine Nat.le_trans (qbr _ 6 _ fun j _=>at2_len h i j) ?_;have:=qek h;rw[List.length_range];omega
theorem qpW (n:Nat) (F:Nat→List Mv) (h1:∀i,i<n→(F i).Pairwise (fun x y=>mvLt x y=true)) (h2:∀i j,i<j→∀x∈F i,∀y∈F j,mvLt x y=true):((List.range n).flatMap F).Pairwise (fun x y=>mvLt x y=true):=by
 rw[List.pairwise_flatMap];exact⟨fun i hi=>h1 i (List.mem_range.1 hi),List.pairwise_lt_range.imp fun hij=>h2 _ _ hij⟩
theorem qs9 {r:Rules} {p:Place} {i j k:Nat} {x:Mv} (h:x∈at3 r p i j k):x=((i:Int)-1,((j:Int),((k:Int),())))∧qQ r p x=true:=by
 unfold at3 at h
 cases hb:qQ r p ((i:Int)-1,((j:Int),((k:Int),()))) with
 | false=>simp[hb] at h
 | true =>
  rw[hb,cond_true,List.mem_singleton] at h;rw[h];exact⟨rfl,hb⟩
theorem qtt {r:Rules} {p:Place} {i j:Nat} {x:Mv} (h:x∈at2 r p i j):x.1=(i:Int)-1∧x.2.1=(j:Int)∧qQ r p x=true:=by
 obtain⟨k,_,hk⟩:=List.mem_flatMap.1 h;obtain⟨e,h2⟩:=qs9 hk;refine⟨by rw[e],by rw[e],h2⟩
theorem qs5 {r:Rules} {p:Place} {i:Nat} {x:Mv} (h:x∈at1 r p i):x.1=(i:Int)-1∧qQ r p x=true:=by
 obtain⟨j,_,hj⟩:=List.mem_flatMap.1 h;obtain⟨h1,_,h3⟩:=qtt hj;exact⟨h1,h3⟩
theorem qny {r:Rules} {p:Place} (x:Mv):x∈qdW r p↔qQ r p x=true:=by
 constructor
 ·intro h;obtain⟨i,_,hi⟩:=List.mem_flatMap.1 h;exact(qs5 hi).2
 ·intro h
  have hok:mvOk r p x=true:=by unfold qQ at h;simp only[Bool.and_eq_true] at h;exact h.1
  unfold mvOk at hok;rw[decide_eq_true_eq] at hok;obtain⟨⟨a1,a2⟩,⟨b1,b2⟩,c1,c2⟩:=hok;have c2':x.2.2.1<((r.2.2.2.1.length:Nat):Int):=c2;have e:(((((x.1+1).toNat:Nat):Int)-1,(((x.2.1.toNat:Nat):Int),(((x.2.2.1.toNat:Nat):Int),()))):Mv)=x:=mv_eq (by show(((x.1+1).toNat:Nat):Int)-1=x.1;omega) (by show((x.2.1.toNat:Nat):Int)=x.2.1;omega) (by show((x.2.2.1.toNat:Nat):Int)=x.2.2.1;omega);refine List.mem_flatMap.2 ⟨(x.1+1).toNat,List.mem_range.2 (by omega),List.mem_flatMap.2 ⟨x.2.1.toNat,List.mem_range.2 (by omega),List.mem_flatMap.2 ⟨x.2.2.1.toNat,List.mem_range.2 (by omega),?_⟩⟩⟩;unfold at3;rw[e,h,cond_true,List.mem_singleton]
theorem qu6 (r:Rules) (p:Place):(qdW r p).Pairwise (fun x y=>mvLt x y=true):=by
 refine qpW _ _ (fun i _=>qpW _ _ (fun j _=>qpW _ _ (fun k _=>?_) fun k k' hk x hx y hy=>?_) fun j j' hj x hx y hy=>?_) fun i i' hi x hx y hy=>?_
 ·unfold at3
  cases qQ r p ((i:Int)-1,((j:Int),((k:Int),())))<;>simp
 ·obtain⟨ex,_⟩:=qs9 hx;obtain⟨ey,_⟩:=qs9 hy
  have e1:x.1=(i:Int)-1:=by rw[ex]
  have e2:x.2.1=(j:Int):=by rw[ex]
  have e3:x.2.2.1=(k:Int):=by rw[ex]
  have f1:y.1=(i:Int)-1:=by rw[ey]
  have f2:y.2.1=(j:Int):=by rw[ey]
  have f3:y.2.2.1=(k':Int):=by rw[ey]
  rw[qne];omega
 ·obtain⟨e1,e2,_⟩:=qtt hx;obtain⟨f1,f2,_⟩:=qtt hy;rw[qne];omega
 ·obtain⟨e1,_⟩:=qs5 hx;obtain⟨f1,_⟩:=qs5 hy;rw[qne];omega
theorem raw_mem {r:Rules} {p:Place} (h:Valid r p) (x:Mv):x∈qcW r p↔qQ r p x=true:=by
 have hr:=h.r0;have hlen:((p.1.length:Nat):Int)=r.width*r.height:=h.cells;have hh:=qlV h;unfold qcW;rw[List.mem_append];constructor
 ·rintro (hx | hx)
  ·obtain⟨s,hs,hx⟩:=List.mem_flatMap.1 hx;rw[List.mem_range] at hs;unfold qfM at hx
   cases hp:putOk r p (s:Int) with
   | false=>simp[hp] at hx
   | true =>
    rw[hp,cond_true] at hx;obtain⟨k,hk,hx⟩:=List.mem_flatMap.1 hx;rw[List.mem_range] at hk
    cases hd:decide (handI p (k:Int)>0) with
    | false=>simp[hd] at hx
    | true =>
     rw[hd,cond_true,List.mem_singleton] at hx;have hok:mvOk r p x=true:=by
      unfold mvOk;rw[decide_eq_true_eq,hx];simp only;omega
     unfold qQ;rw[hok,Bool.true_and,hx];simp only[beq_t rfl,cond_true,hd,hp,Bool.and_self]
  ·obtain⟨s,hs,hx⟩:=List.mem_flatMap.1 hx;rw[List.mem_range] at hs;unfold goAt at hx
   cases hm:mineB p (cellI p (s:Int)) with
   | false=>simp[hm] at hx
   | true =>
    have hcp:cellI p (s:Int)>0:=by unfold mineB at hm;simp at hm;exact hm.1
    have hk:=qjH h hcp;obtain⟨hpa,hmem⟩:=qqg (r:=r) hk.2.1 hk.2.2;rw[hm,cond_true] at hx;obtain⟨w,hw,hx⟩:=List.mem_flatMap.1 hx;obtain⟨t,ht,hx⟩:=List.mem_map.1 hx;have htr:0≤t∧t<r.width*r.height:=qmz hr ht;have hpr:=hr.prom _ hmem;have hbr:0≤becomes r p (qbs (cellI p (s:Int))) t∧becomes r p (qbs (cellI p (s:Int))) t<((r.pieces.length:Nat):Int):=by
     unfold becomes
     cases hb:(decide ((qbR r (qbs (cellI p (s:Int)))).2.2.1>0)&&lastB r p.turn t) with
     | false=>exact hk.2
     | true =>
      simp only[Bool.and_eq_true,decide_eq_true_eq] at hb;rw[cond_true];omega
    have hok:mvOk r p x=true:=by
     unfold mvOk;rw[decide_eq_true_eq,←hx];simp only;omega
    unfold qQ goOk;rw[hok,Bool.true_and,←hx];simp only;rw[beq_f (by omega),cond_false,hm,Bool.true_and,beq_t rfl,Bool.true_and,List.any_eq_true];exact⟨w,hw,by simpa using ht⟩
 ·intro hx;unfold qQ at hx;rw[Bool.and_eq_true] at hx;obtain⟨hok,hx⟩:=hx;unfold mvOk at hok;rw[decide_eq_true_eq] at hok;obtain⟨⟨a1,a2⟩,⟨b1,b2⟩,c1,c2⟩:=hok;by_cases hm:x.1 = -1
  ·rw[beq_t hm,cond_true,Bool.and_eq_true] at hx;left
   have e1:((x.2.1.toNat:Nat):Int)=x.2.1:=by omega
   have e2:((x.2.2.1.toNat:Nat):Int)=x.2.2.1:=by omega
   refine List.mem_flatMap.2 ⟨x.2.1.toNat,List.mem_range.2 (by omega),?_⟩;unfold qfM;rw[e1,hx.2,cond_true];refine List.mem_flatMap.2 ⟨x.2.2.1.toNat,List.mem_range.2 (by omega),?_⟩;rw[e2,hx.1,cond_true,List.mem_singleton];exact mv_eq hm rfl rfl
  ·rw[beq_f hm,cond_false] at hx;unfold goOk at hx;simp only[Bool.and_eq_true,beq_iff_eq,List.any_eq_true,decide_eq_true_eq] at hx;obtain⟨h1,h2,w,hw,ht⟩:=hx;right
   have e1:((x.1.toNat:Nat):Int)=x.1:=by omega
   refine List.mem_flatMap.2 ⟨x.1.toNat,List.mem_range.2 (by omega),?_⟩;unfold goAt;rw[e1,h1,cond_true];refine List.mem_flatMap.2 ⟨w,hw,List.mem_map.2 ⟨x.2.1,ht,?_⟩⟩;exact mv_eq rfl rfl h2
theorem qmA {r:Rules} {p:Place} (h:Valid r p):qc5 r p=some (qdW r p):=by
 rw[list_dd h];congr 1;refine qrC (dd_lt (sort_pw _)) (qu6 r p) fun z=>?_;rw[dd_mem,sort_mem,raw_mem h,qny]

def own (r:Rules) (p:Place) (pl x y:Int):Bool:=onB r x y&&(decide (cellI p (sq r x y)>0)&&((cellI p (sq r x y)-1).tmod 2==pl))
def runB (r:Rules) (p:Place) (pl:Int) (n:Nat) (x y dx dy:Int):Bool:=(List.range n).all fun i=>own r p pl (x+(i:Int)*dx) (y+(i:Int)*dy)
theorem runB_cons (r:Rules) (p:Place) (pl:Int) (n:Nat) (x y dx dy:Int):runB r p pl (n+1) x y dx dy=(own r p pl x y&&runB r p pl n (x+dx) (y+dy) dx dy):=by
 unfold runB;rw[List.range_succ_eq_map,List.all_cons,List.all_map];have e:((fun i:Nat=>own r p pl (x+(i:Int)*dx) (y+(i:Int)*dy))∘Nat.succ)=fun i:Nat=>own r p pl (x+dx+(i:Int)*dx) (y+dy+(i:Int)*dy):=by
  funext i;simp only[Function.comp]
  have e1:x+((i.succ:Nat):Int)*dx=x+dx+(i:Int)*dx:=by rw[show((i.succ:Nat):Int)=(i:Int)+1 by omega,Int.add_mul];omega
  have e2:y+((i.succ:Nat):Int)*dy=y+dy+(i:Int)*dy:=by rw[show((i.succ:Nat):Int)=(i:Int)+1 by omega,Int.add_mul];omega
  rw[e1,e2]
 rw[e];simp
theorem own_on {r:Rules} {p:Place} {pl x y:Int} (h:own r p pl x y=true):onB r x y=true:=by unfold own at h;rw[Bool.and_eq_true] at h;exact h.1
abbrev dX (d:Nat):Int:=getD' [(1:Int),(0:Int),(1:Int),(1:Int)] d 0
abbrev dY (d:Nat):Int:=getD' [(0:Int),(1:Int),(1:Int),(-1:Int)] d 0
def lineB (r:Rules) (p:Place) (pl c:Int):Bool:=(List.range p.1.length).any fun s=>(List.range 4).any fun d=>runB r p pl c.toNat ((s:Int).tmod r.width) ((s:Int).tdiv r.width) (dX d) (dY d)
theorem dX_rng (d:Nat) : -1≤dX d∧dX d≤1:=by
 match d with
 | 0=>decide
 | 1=>decide
 | 2=>decide
 | 3=>decide
 | n+4=>simp[dX,getD']
theorem dY_rng (d:Nat) : -1≤dY d∧dY d≤1:=by
 match d with
 | 0=>decide
 | 1=>decide
 | 2=>decide
 | 3=>decide
 | n+4=>simp[dY,getD']
theorem line3 {r:Rules} {p:Place} (h:Valid r p) {pl c:Int} (d:Nat) (hc:c≤64):∀(m:Nat) (x y n:Int),0≤n→n+m=c→(-1≤x∧x≤8)→(-1≤y∧y≤8) →
  ∃n',iterW (qd8 c r p pl (((d:Int),()),())) ((x,y,n,()),())=some ((n',()),())∧(n'==c)=runB r p pl m x y (dX d) (dY d)
 | 0,x,y,n,h0,hn,hx,hy=>by
  refine⟨n,qz ?_,?_⟩
  ·unfold qd8
   have:decide (n<c)=false:=by simp;omega
   simp only[this,cond_false,Option.bind_some]
  ·rw[beq_t (by omega)];rfl
 | m+1,x,y,n,h0,hn,hx,hy=>by
  have hr:=h.r0;have:=hr.w8;have:=hr.h8;have:=hr.w1;have:=hr.h1;have ha:=hr.area
  have hlt:decide (n<c)=true:=by simp;omega
  have hoff:((((decide (x<(0:Int)))||(decide (x≥r.2.1)))||(decide (y<(0:Int))))||(decide (y≥r.2.2.1))) = !onB r x y:=by
   rw[Bool.eq_iff_iff];simp only[Bool.or_eq_true,decide_eq_true_eq,Bool.not_eq_true',onB,decide_eq_false_iff_not];show((x<0∨x≥r.width)∨y<0)∨y≥r.height↔_;omega
  have hown:(bif (decide (n<c)) then(bif ((((decide (x<(0:Int)))||(decide (x≥r.2.1)))||(decide (y<(0:Int))))||(decide (y≥r.2.2.1))) then some ((false,()),())
    else Option.bind (at? p.1 (w64 ((w64 (y*r.2.1))+x))) fun d4 =>
    req (imp (decide (d4>(0:Int))) true) (some ((((decide (d4>(0:Int)))&&(((w64 (d4-(1:Int))).tmod (2:Int))==pl)),()),())))
    else some ((false,()),()))=some ((own r p pl x y,()),()):=by
   rw[hlt,cond_true,hoff];unfold own
   cases hb:onB r x y with
   | false=>rfl
   | true =>
    have hs:=que hr hb;obtain⟨b1,b2,b3,b4⟩:=onB_iff.1 hb;have hmul:=qpQ (show 0≤r.width by omega) b3 b4;have w1:w64 (y*r.2.1)=y*r.2.1:=qi (by show _≤y*r.width;omega) (by show y*r.width≤_;omega);have w2:w64 (y*r.2.1+x)=sq r x y:=qi (by show _≤sq r x y;omega) (by show sq r x y≤_;omega);have hcs:=qkH h (sq r x y);rw[w1,w2,qif (p:=p) hs.1 (by rw[h.cells];exact hs.2)]
    simp only[Bool.not_true,cond_false,Option.bind_some,show ∀b,imp b true=true from fun b=>by cases b<;>rfl,qc,Bool.true_and]
    rw[qi (n:=cellI p (sq r x y)-1) (by omega) (by omega)]
  rw[runB_cons]
  cases ho:own r p pl x y with
  | false =>
   refine⟨n,qz ?_,?_⟩
   ·unfold qd8;rw[hown,ho];rfl
   ·rw[beq_f (by omega)];rfl
  | true =>
   obtain⟨b1,b2,b3,b4⟩:=onB_iff.1 (own_on ho);have r1:=dX_rng d;have r2:=dY_rng d;obtain⟨n',e1,e2⟩:=line3 h (pl:=pl) d hc m (x+dX d) (y+dY d) (n+1) (by omega) (by omega) (by omega) (by omega);refine⟨n',?_,by rw[e2];simp⟩
   rw[qX (y:=((x+dX d,y+dY d,n+1,()),())) (by
    unfold qd8;rw[hown,ho];simp only[Option.bind_some,cond_true,Int.toNat_natCast]
    rw[qi (n:=x+dX d) (by omega) (by omega),qi (n:=y+dY d) (by omega) (by omega),qi (n:=n+1) (by omega) (by omega)])]
   exact e1
theorem line_spec {r:Rules} {p:Place} (h:Valid r p) (pl:Int) {c:Int} (hc1:1≤c) (hc:c≤64):qlN r p pl c=some (lineB r p pl c):=by
 have hr:=h.r0;have:=hr.w8;have:=hr.h8;have:=hr.w1;have:=hr.h1;have ha:=hr.area;have hlen:((p.1.length:Nat):Int)=r.width*r.height:=h.cells;have hq:(r.2.1 !=0)=true:=bne_t (by show ¬r.width=0;omega);unfold qlN
 have hL:=qdg (List.range p.1.length) (fun s=>(List.range 4).any fun d=>runB r p pl c.toNat ((s:Int).tmod r.width) ((s:Int).tdiv r.width) (dX d) (dY d)) (qfk p r c pl) (.inr true) (.inl ((),())) (fun s hs=>by
  have hs':s<p.1.length:=by simpa using hs
  have hdv:=qpu hr (show(0:Int)≤(s:Int) by omega) (show(s:Int)<r.width*r.height by omega)
  have hL2:=qdg (List.range 4) (fun d=>runB r p pl c.toNat ((s:Int).tmod r.width) ((s:Int).tdiv r.width) (dX d) (dY d)) (qfc r c p pl (((s:Int),()),())) (.inr (.inr (.inr (.inr true)))) (.inl ((),())) (fun d hd=>by
   have hd':d<4:=by simpa using hd
   have w1:w64 ((s:Int).tdiv r.2.1)=(s:Int).tdiv r.width:=qi (by show _≤(s:Int).tdiv r.width;omega) (by show(s:Int).tdiv r.width≤_;omega);obtain⟨n',e1,e2⟩:=line3 h (pl:=pl) (c:=c) d hc c.toNat ((s:Int).tmod r.width) ((s:Int).tdiv r.width) 0 (by omega) (by omega) (by omega) (by omega);unfold qfc;simp only[show decide ((d:Int)<4)=true by simp;omega,cond_true,show inb (d:Int) 4=true from inb_iff.2 ⟨by omega,by omega⟩,qc,hq,w1];rw[show((s:Int).tmod r.2.1)=(s:Int).tmod r.width from rfl,e1,Option.bind_some];simp only[List.getElem_range];rw[←e2,qi (n:=(d:Int)+1) (by omega) (by omega)]
   cases (n'==c)<;>rfl) (by
   unfold qfc
   rfl)
  unfold qfk;simp only[show decide ((s:Int)<((p.1.length:Nat):Int))=true by simp;omega,cond_true,List.getElem_range];rw[hL2,qi (n:=(s:Int)+1) (by omega) (by omega)]
  cases (List.range 4).any (fun d=>runB r p pl c.toNat ((s:Int).tmod r.width) ((s:Int).tdiv r.width) (dX d) (dY d))<;>rfl) (by
  unfold qfk
  simp)
 rw[hL];unfold lineB
 cases (List.range p.1.length).any (fun s=>(List.range 4).any fun d=>runB r p pl c.toNat ((s:Int).tmod r.width) ((s:Int).tdiv r.width) (dX d) (dY d))<;>rfl

def reachB (r:Rules) (p:Place) (x:End) (mover:Int):Bool:=(List.range p.1.length).any fun s=>(cellI p (s:Int)==2*x.2.1+mover+1)&&lastB r mover (s:Int)
def fewOf (p:Place) (x:End) (mover:Int):Int:=((p.1.countP (fun c=>c==2*x.2.1+1-mover+1):Nat):Int)
def metB (r:Rules) (p:Place) (x:End) (mover:Int):Bool:=bif x.1==0 then lineB r p mover x.2.2.1 else bif x.1==1 then reachB r p x mover else decide (fewOf p x mover<x.2.2.1)
structure EndOk (r:Rules) (x:End):Prop where
 kind:0≤x.1∧x.1≤2
 cnt:x.1=0→1≤x.2.2.1∧x.2.2.1≤64
 pc:0≤x.2.1∧x.2.1≤6
theorem Valid.endOk {r:Rules} {p:Place} (h:Valid r p) {x:End} (hx:x∈r.ends):EndOk r x:=by
 obtain⟨h1,h2,h3⟩:=h.r0.ends x hx;have ht:=h.r0.t6;refine⟨h1,fun e=>?_,?_⟩
 ·rw[if_neg (by omega)] at h2;exact h2
 ·split at h3<;>omega
theorem cell_get (p:Place) (i:Nat) (hi:i<p.1.length):cellI p (i:Int)=p.1[i]:=by
 unfold cellI;rw[List.getD_eq_getElem?_getD,Int.toNat_natCast];simp[hi]
theorem qva {r:Rules} {p:Place} (h:Valid r p) {x:End} (hx:EndOk r x) {mover:Int} (hm:mover=0∨mover=1):qi3 r p x mover=some (metB r p x mover):=by
 have hr:=h.r0;have ha:=hr.area;have h64:=qek h;have hlen:((p.1.length:Nat):Int)=r.width*r.height:=h.cells;have hp:=hx.pc;unfold qi3 metB;by_cases k0:x.1=0
 ·rw[beq_t k0,cond_true,cond_true,line_spec h mover (hx.cnt k0).1 (hx.cnt k0).2];rfl
 ·rw[beq_f k0,cond_false,cond_false];by_cases k1:x.1=1
  ·rw[beq_t k1,cond_true,cond_true]
   have hL:=qdg (List.range p.1.length) (fun s=>(cellI p (s:Int)==2*x.2.1+mover+1)&&lastB r mover (s:Int)) (qee p x mover r) (.inr (.inr true)) (.inl ((),())) (fun s hs=>by
    have hs':s<p.1.length:=by simpa using hs
    unfold qee;simp only[show decide ((s:Int)<((p.1.length:Nat):Int))=true by simp;omega,cond_true,List.getElem_range];rw[qif (p:=p) (s:=(s:Int)) (by omega) (by show(s:Int)<((p.1.length:Nat):Int);omega),Option.bind_some,qma hr mover (by omega) (by omega)];rw[qi (n:=2*x.2.1) (by omega) (by omega),qi (n:=2*x.2.1+mover) (by omega) (by omega),qi (n:=2*x.2.1+mover+1) (by omega) (by omega),qi (n:=(s:Int)+1) (by omega) (by omega)]
    cases (cellI p (s:Int)==2*x.2.1+mover+1)<;>cases lastB r mover (s:Int)<;>rfl) (by
    unfold qee
    simp)
   rw[hL];unfold reachB
   cases (List.range p.1.length).any (fun s=>(cellI p (s:Int)==2*x.2.1+mover+1)&&lastB r mover (s:Int))<;>rfl
  ·rw[beq_f k1,cond_false,cond_false,Option.bind_some,Sum.elim_inl]
   have hL:=qvh p.1 (fun c=>c==2*x.2.1+1-mover+1) (qes p x mover) (fun c=>((c,()),())) (fun i hi c c0 ci=>by
    unfold qes;simp only[show decide ((i:Int)<((p.1.length:Nat):Int))=true by simp;omega,cond_true];rw[qif (p:=p) (s:=(i:Int)) (by omega) (by show(i:Int)<((p.1.length:Nat):Int);omega),Option.bind_some,cell_get p i hi];rw[qi (n:=2*x.2.1) (by omega) (by omega),qi (n:=2*x.2.1+1) (by omega) (by omega),qi (n:=2*x.2.1+1-mover) (by omega) (by omega),qi (n:=2*x.2.1+1-mover+1) (by omega) (by omega),qi (n:=(i:Int)+1) (by omega) (by omega),qi (n:=c+1) (by omega) (by omega)];cases (p.1[i]==2*x.2.1+1-mover+1)<;>rfl) (fun c=>by
    unfold qes
    simp)
   rw[hL];rfl
def endE (r:Rules) (p:Place) (i:Nat):Option (((Unit)×(Unit)) ⊕ Int):=match r.2.2.2.2.2.2.2.1[i]? with
 | some x=>bif metB r p x (1-p.turn) then some (.inr (bif x.2.2.2.1 then 1+p.turn else 1+(1-p.turn))) else none
 | none=>none
def qtY (r:Rules) (p:Place):Int:=bif r.blocked==0 then 1+(1-p.turn) else bif r.blocked==1 then 1+p.turn else 3
def qaU (r:Rules) (p:Place):Int:=match scan (endE r p) (.inl ((),())) 0 r.2.2.2.2.2.2.2.1.length with
 | .inl _=>bif (r.quiet !=0)&&decide (p.quiet≥r.quiet) then 3 else bif decide ((((qdW r p).length:Nat):Int)>0) then 0 else qtY r p
 | .inr v=>v
theorem turn_w {r:Rules} {p:Place} (h:Valid r p):w64 ((1:Int)-p.2.2.1)=1-p.turn∧w64 ((1:Int)+p.2.2.1)=1+p.turn∧w64 (1+(1-p.turn))=1+(1-p.turn)∧w64 (1+p.turn)=1+p.turn:=by
 have ht:=h.turn;refine⟨qi (by show _≤1-p.turn;omega) (by show 1-p.turn≤_;omega),qi (by show _≤1+p.turn;omega) (by show 1+p.turn≤_;omega),qi (by omega) (by omega),qi (by omega) (by omega)⟩
theorem ql7 {r:Rules} {p:Place} (h:Valid r p):qeM r p=some (qaU r p):=by
 have ht:=h.turn;obtain⟨t1,t2,t3,t4⟩:=turn_w h;have h6:r.2.2.2.2.2.2.2.1.length≤6:=h.r0.ends6;unfold qeM qaU
 have hL:=qvX r.2.2.2.2.2.2.2.1.length (qdz r p) (endE r p) (.inl ((),())) (fun i hi=>by
  unfold qdz endE;rw[List.getElem?_eq_getElem hi];simp only[show decide ((i:Int)<((r.2.2.2.2.2.2.2.1.length:Nat):Int))=true by simp;omega,cond_true];rw[at?_eq r.2.2.2.2.2.2.2.1 (i:Int) (by omega) (by omega),Option.bind_some,t1];simp only[Int.toNat_natCast];rw[qva h (h.endOk (List.getElem_mem hi)) (by omega),Option.bind_some];cases metB r p r.2.2.2.2.2.2.2.1[i] (1-p.turn)
  ·simp only[cond_false];rw[qi (n:=(i:Int)+1) (by omega) (by omega)];rfl
  ·simp only[cond_true,show decide ((i:Int)≥0)=true by simp,Option.bind_some];unfold qck;rw[t3,show p.2.2.1=p.turn from rfl,t4]
   cases (r.2.2.2.2.2.2.2.1[i]).2.2.2.1<;>rfl) (by
  unfold qdz
  simp)
 rw[hL,Option.bind_some]
 cases scan (endE r p) (.inl ((),())) 0 r.2.2.2.2.2.2.2.1.length with
 | inr v=>rfl
 | inl u =>
  simp only[Sum.elim_inl];rw[show((r.2.2.2.2.2.2.2.2.2.1 !=(0:Int))&&(decide (p.2.2.2.1≥r.2.2.2.2.2.2.2.2.2.1)))=((r.quiet !=0)&&decide (p.quiet≥r.quiet)) from rfl];cases ((r.quiet !=0)&&decide (p.quiet≥r.quiet))
  ·rw[cond_false,cond_false,qmA h,Option.bind_some];cases decide ((((qdW r p).length:Nat):Int)>0)
   ·rw[cond_false,cond_false,t1];unfold qtY qck;rw[t3,show p.2.2.1=p.turn from rfl,t4,show r.2.2.2.2.2.2.2.2.1=r.blocked from rfl]
    cases (r.blocked==0)<;>cases (r.blocked==1)<;>rfl
   ·rfl
  ·rfl

def qmJ (p:Place) (m:Mv):Int:=2*m.2.2.1+p.turn+1
def cellsA (p:Place) (m:Mv):List Int:=(bif decide (m.1≥0) then p.1.set m.1.toNat 0 else p.1).set m.2.1.toNat (qmJ p m)
def handD (m:Mv) (h:List Int):List Int:=bif decide (m.1≥0) then h else h.set m.2.2.1.toNat (h.getD m.2.2.1.toNat 0-1)
def handK (r:Rules) (c:Int) (h:List Int):List Int:=bif decide (c>0)&&r.keeps then h.set (qbs c).toNat (if 1000<h.getD (qbs c).toNat 0+1 then 1000 else h.getD (qbs c).toNat 0+1) else h
def handA (r:Rules) (p:Place) (m:Mv) (h:List Int):List Int:=handK r (cellI p m.2.1) (handD m h)
def qou (p:Place) (m:Mv):Int:=bif decide (cellI p m.2.1>0)||decide (m.1<0) then 0 else if 200<p.quiet+1 then 200 else p.quiet+1
def qu (r:Rules) (p:Place) (m:Mv):Place:=(cellsA p m,((bif p.turn==0 then handA r p m p.2.1.1 else p.2.1.1),(bif p.turn==0 then p.2.1.2.1 else handA r p m p.2.1.2.1),()),1-p.turn,qou p m,())
theorem copy_spec {r:Rules} {p:Place} (h:Valid r p):qiw p=some p:=by
 have h64:=qek h;have ht:=h.r0.t6;have a0:p.2.1.1.length=r.pieces.length:=h.l0;have a1:p.2.1.2.1.length=r.pieces.length:=h.l1;unfold qiw;rw[qlY p.1 (by omega),qlY p.2.1.1 (by omega),qlY p.2.1.2.1 (by omega)];simp only[Option.bind_some,agree_self]
theorem qft {r:Rules} {p:Place} {m:Mv} (ha:qQ r p m=true):(-1≤m.1∧m.1<((p.1.length:Nat):Int))∧(0≤m.2.1∧m.2.1<((p.1.length:Nat):Int))∧(0≤m.2.2.1∧m.2.2.1<((r.pieces.length:Nat):Int)):=by
 unfold qQ mvOk at ha;rw[Bool.and_eq_true,decide_eq_true_eq] at ha;exact ha.1
theorem qhW {r:Rules} {p:Place} {m:Mv} (ha:qQ r p m=true) (hm:m.1 = -1):handI p m.2.2.1>0∧cellI p m.2.1=0:=by
 unfold qQ putOk at ha;rw[beq_t hm,cond_true] at ha;simp only[Bool.and_eq_true,decide_eq_true_eq,beq_iff_eq] at ha;exact⟨ha.2.1,ha.2.2.1⟩
theorem qm2 (m:Mv) (h:List Int):(handD m h).length=h.length:=by unfold handD;cases decide (m.1≥0)<;>simp
theorem qr8 (r:Rules) (c:Int) (h:List Int):(handK r c h).length=h.length:=by unfold handK;cases (decide (c>0)&&r.keeps)<;>simp
theorem ql2 {l:List Int} {b:Int} (hb:0≤b) (h:∀c∈l,0≤c∧c≤b) (i:Nat):0≤l.getD i 0∧l.getD i 0≤b:=by
 rw[List.getD_eq_getElem?_getD]
 cases e:l[i]? with
 | none=>simp;exact hb
 | some c=>exact h c (List.mem_of_getElem? e)
theorem qsn {r:Rules} {p:Place} {m:Mv} (h:Valid r p) (ha:qQ r p m=true):∀c∈handD m (qb2 p),0≤c∧c≤1000:=by
 have hr:=quI h;unfold handD
 cases hd:decide (m.1≥0) with
 | true=>exact hr
 | false =>
  intro c hc;rw[cond_false] at hc
  have hm:m.1 = -1:=by have:=(qft ha).1.1;simp at hd;omega
  have hp:=(qhW ha hm).1;have hg:=ql2 (by omega) hr m.2.2.1.toNat;rcases List.mem_or_eq_of_mem_set hc with h1 | h1
  ·exact hr c h1
  ·unfold handI at hp;omega
theorem handK_rng {r:Rules} {c:Int} {h:List Int} (hh:∀x∈h,0≤x∧x≤1000):∀x∈handK r c h,0≤x∧x≤1000:=by
 unfold handK
 cases (decide (c>0)&&r.keeps) with
 | false=>exact hh
 | true =>
  intro x hx;have hg:=ql2 (by omega) hh (qbs c).toNat;rcases List.mem_or_eq_of_mem_set hx with h1 | h1
  ·exact hh x h1
  ·rw[h1];split<;>omega
theorem qsq {r:Rules} {p:Place} {m:Mv} (hv:Valid r p) (ha:qQ r p m=true) (l:List Int) (hl:l=qb2 p) :
  (decide (m.1≥0)=false→inb m.2.2.1 l.length=true∧w64 (getD' l m.2.2.1.toNat 0-1)=l.getD m.2.2.1.toNat 0-1) ∧
  (decide (cellI p m.2.1>0)=true→inb (qbs (cellI p m.2.1)) (handD m l).length=true∧w64 (getD' (handD m l) (qbs (cellI p m.2.1)).toNat 0+1)=(handD m l).getD (qbs (cellI p m.2.1)).toNat 0+1):=by
 subst hl;have hr:=quI hv;have hl:=qlV hv;obtain⟨r1,r2,r3⟩:=qft ha;refine⟨fun _=>⟨inb_iff.2 ⟨r3.1,by rw[hl];exact r3.2⟩,?_⟩,fun hc=>⟨?_,?_⟩⟩
 ·have:=ql2 (by omega) hr m.2.2.1.toNat;exact qi (by show _≤(qb2 p).getD m.2.2.1.toNat 0-1;omega) (by show(qb2 p).getD m.2.2.1.toNat 0-1≤_;omega)
 ·have hk:=qjH hv (of_decide_eq_true hc);exact inb_iff.2 ⟨hk.2.1,by rw[qm2,hl];exact hk.2.2⟩
 ·have:=ql2 (by omega) (qsn hv ha) (qbs (cellI p m.2.1)).toNat;exact qi (by show _≤(handD m (qb2 p)).getD (qbs (cellI p m.2.1)).toNat 0+1;omega) (by show(handD m (qb2 p)).getD (qbs (cellI p m.2.1)).toNat 0+1≤_;omega)
theorem qqX {r:Rules} {p:Place} {m:Mv} (h:Valid r p) (ha:qQ r p m=true):qdf r p m=some (qu r p m):=by
 obtain⟨r1,r2,r3⟩:=qft ha;have ht6:=h.r0.t6;have hq:=h.quiet;have htn:=h.turn;have h64:=qek h;have hto:inb m.2.1 p.1.length=true:=inb_iff.2 r2;have wv:w64 (w64 (w64 (2*m.2.2.1)+p.2.2.1)+1)=qmJ p m:=by
  unfold qmJ;rw[show p.2.2.1=p.turn from rfl,qi (n:=2*m.2.2.1) (by omega) (by omega),qi (n:=2*m.2.2.1+p.turn) (by omega) (by omega),qi (by omega) (by omega)]
 have wq:w64 (p.2.2.2.1+1)=p.quiet+1:=qi (by show _≤p.quiet+1;omega) (by show p.quiet+1≤_;omega);have wt:w64 (1-p.2.2.1)=1-p.turn:=(turn_w h).1;have hcell:getD' p.1 m.2.1.toNat 0=cellI p m.2.1:=rfl;have hin:inb p.2.2.1 2=true:=inb_iff.2 (by show 0≤p.turn∧p.turn<((2:Nat):Int);omega);have wk:decide (cellI p m.2.1>0)=true→w64 ((w64 (cellI p m.2.1-1)).tdiv 2)=qbs (cellI p m.2.1):=fun hc=>(qjH h (of_decide_eq_true hc)).1;have hho:qb2 p=if p.turn=0 then p.2.1.1 else p.2.1.2.1:=qj2 h;have hneg:decide (m.1<0) = !decide (m.1≥0):=by
  rw[Bool.eq_iff_iff];simp only[decide_eq_true_eq,Bool.not_eq_true',decide_eq_false_iff_not];omega
 unfold qdf qu;rw[copy_spec h,Option.bind_some];simp only[hcell,hto,qc,wv,wq,wt,hin,hneg];rcases htn with e | e
 ·have e':p.2.2.1=0:=e;rw[if_pos e] at hho;obtain⟨k1,k2⟩:=qsq h ha p.2.1.1 hho.symm;simp only[e',e,show((0:Int)==0)=true from rfl,cond_true];unfold handA cellsA qou handK;simp only[hneg]
  cases hd:decide (m.1≥0) with
  | true =>
   have hf:inb m.1 p.1.length=true:=inb_iff.2 ⟨of_decide_eq_true hd,r1.2⟩
   have hD:handD m p.2.1.1=p.2.1.1:=by unfold handD;rw[hd];rfl
   rw[hD] at k2 ⊢;simp only[cond_true,hf,qc,Option.bind_some,List.length_set,hto]
   cases hc:decide (cellI p m.2.1>0) with
   | false=>rfl
   | true =>
    obtain⟨k3,k4⟩:=k2 hc
    cases hk:r.2.2.2.2.2.2.1 with
    | false=>rw[show r.keeps=false from hk];rfl
    | true =>
     rw[show r.keeps=true from hk];simp only[Bool.true_and,cond_true,wk hc,k3,qc,k4,Option.bind_some];rfl
  | false =>
   obtain⟨k5,k6⟩:=k1 hd
   have hD:handD m p.2.1.1=p.2.1.1.set m.2.2.1.toNat (p.2.1.1.getD m.2.2.1.toNat 0-1):=by unfold handD;rw[hd];rfl
   have hz:decide (cellI p m.2.1>0)=false:=by
    have:=(qhW ha (by simp at hd;omega)).2;rw[this];rfl
   rw[hD];simp only[cond_false,k5,k6,qc,Option.bind_some,hz,Bool.false_and,hto];rfl
 ·have e':p.2.2.1=1:=e;rw[if_neg (by omega)] at hho;obtain⟨k1,k2⟩:=qsq h ha p.2.1.2.1 hho.symm;simp only[e',e,show((1:Int)==0)=false from rfl,cond_false];unfold handA cellsA qou handK;simp only[hneg]
  cases hd:decide (m.1≥0) with
  | true =>
   have hf:inb m.1 p.1.length=true:=inb_iff.2 ⟨of_decide_eq_true hd,r1.2⟩
   have hD:handD m p.2.1.2.1=p.2.1.2.1:=by unfold handD;rw[hd];rfl
   rw[hD] at k2 ⊢;simp only[cond_true,hf,qc,Option.bind_some,List.length_set,hto]
   cases hc:decide (cellI p m.2.1>0) with
   | false=>rfl
   | true =>
    obtain⟨k3,k4⟩:=k2 hc
    cases hk:r.2.2.2.2.2.2.1 with
    | false=>rw[show r.keeps=false from hk];rfl
    | true =>
     rw[show r.keeps=true from hk];simp only[Bool.true_and,cond_true,wk hc,k3,qc,k4,Option.bind_some];rfl
  | false =>
   obtain⟨k5,k6⟩:=k1 hd
   have hD:handD m p.2.1.2.1=p.2.1.2.1.set m.2.2.1.toNat (p.2.1.2.1.getD m.2.2.1.toNat 0-1):=by unfold handD;rw[hd];rfl
   have hz:decide (cellI p m.2.1>0)=false:=by
    have:=(qhW ha (by simp at hd;omega)).2;rw[this];rfl
   rw[hD];simp only[cond_false,k5,k6,qc,Option.bind_some,hz,Bool.false_and,hto];rfl
theorem qsW {r:Rules} {p:Place} {m:Mv} (h:Valid r p) (ha:qQ r p m=true):Valid r (qu r p m):=by
 obtain⟨r1,r2,r3⟩:=qft ha;have htn:=h.turn;have hq:=h.quiet;have hK:=handK_rng (r:=r) (c:=cellI p m.2.1) (qsn h ha);have hho:=qj2 h;refine⟨h.r0,?_,?_,?_,?_,?_,?_,?_,?_⟩
 ·show((((bif decide (m.1≥0) then p.1.set m.1.toNat 0 else p.1).set m.2.1.toNat (qmJ p m)).length:Nat):Int)=_
  have:((bif decide (m.1≥0) then p.1.set m.1.toNat 0 else p.1).set m.2.1.toNat (qmJ p m)).length=p.1.length:=by cases decide (m.1≥0)<;>simp
  rw[this];exact h.cells
 ·show(bif p.turn==0 then handA r p m p.2.1.1 else p.2.1.1).length=_;cases (p.turn==0)
  ·exact h.l0
  ·rw[cond_true];unfold handA;rw[qr8,qm2];exact h.l0
 ·show(bif p.turn==0 then p.2.1.2.1 else handA r p m p.2.1.2.1).length=_;cases (p.turn==0)
  ·rw[cond_false];unfold handA;rw[qr8,qm2];exact h.l1
  ·exact h.l1
 ·intro c hc;have hc:c∈(bif decide (m.1≥0) then p.1.set m.1.toNat 0 else p.1).set m.2.1.toNat (qmJ p m):=hc;rcases List.mem_or_eq_of_mem_set hc with h1 | h1
  ·cases hd:decide (m.1≥0) with
   | false=>rw[hd,cond_false] at h1;exact h.cell c h1
   | true =>
    rw[hd,cond_true] at h1;rcases List.mem_or_eq_of_mem_set h1 with h2 | h2
    ·exact h.cell c h2
    ·have:=h.r0.t1;omega
  ·rw[h1];unfold qmJ;omega
 ·intro c hc;have hc:c∈(bif p.turn==0 then handA r p m p.2.1.1 else p.2.1.1):=hc;rcases htn with e | e
  ·rw[beq_t e,cond_true] at hc;rw[if_pos e] at hho;have hc:c∈handK r (cellI p m.2.1) (handD m p.h0):=hc;rw[←hho] at hc;exact hK c hc
  ·rw[beq_f (by omega),cond_false] at hc;exact h.hand0 c hc
 ·intro c hc;have hc:c∈(bif p.turn==0 then p.2.1.2.1 else handA r p m p.2.1.2.1):=hc;rcases htn with e | e
  ·rw[beq_t e,cond_true] at hc;exact h.hand1 c hc
  ·rw[beq_f (by omega),cond_false] at hc;rw[if_neg (by omega)] at hho;have hc:c∈handK r (cellI p m.2.1) (handD m p.h1):=hc;rw[←hho] at hc;exact hK c hc
 ·show 1-p.turn=0∨1-p.turn=1;omega
 ·show 0≤qou p m∧qou p m≤200;unfold qou;cases (decide (cellI p m.2.1>0)||decide (m.1<0))
  ·rw[cond_false];split<;>omega
  ·simp

def qpR (r:Rules):List Int:=r.2.2.2.1.map fun x=>x.2.1
def qe7 (r:Rules):Place:=(r.2.2.2.2.1,(qpR r,qpR r,()),0,0,())
theorem map_take {A B:Type} (l:List A) (f:A→B) (i:Nat) (hi:i<l.length):(l.take (i+1)).map f=(l.take i).map f++[f l[i]]:=by
 rw[List.take_succ_eq_append_getElem hi,List.map_append];rfl
theorem qvB (r:Rules) (hr:Rng qfo r):qhl r=some (if qcN r=0 then(qe7 r,0,()) else(([],([],[],()),0,0,()),qcN r,())):=by
 unfold qhl;rw[qdF r hr,Option.bind_some];by_cases c:qcN r=0
 ·have h:=qfr c;have hs:((r.2.2.2.2.1.length:Nat):Int)=r.width*r.height:=h.start;have ha:=h.area;have ht:r.2.2.2.1.length≤6:=h.t6;rw[bne_f c,cond_false,if_pos c,qlY _ (by omega),Option.bind_some]
  have hL:=qgn (f:=qcu r) r.2.2.2.1.length (fun i=>(((i:Int),()),((r.2.2.2.2.1,((r.2.2.2.1.take i).map (fun x=>x.2.1),((r.2.2.2.1.take i).map (fun x=>x.2.1),((0:Int),((0:Int),()))))),()))) ((),((r.2.2.2.2.1,(qpR r,(qpR r,((0:Int),((0:Int),()))))),())) (fun i hi=>by
   unfold qcu;simp only[show decide ((i:Int)<((r.2.2.2.1.length:Nat):Int))=true by simp;omega,cond_true];rw[at?_eq _ _ (by omega) (by omega),Option.bind_some];simp only[Int.toNat_natCast];have hroom:∀z:Int,room (((r.2.2.2.1.take i).map (fun x=>x.2.1)).length+[z].length) 8=true:=fun z=>qcl (by simp;omega);simp only[hroom,qc,agree_self,Option.bind_some];rw[qi (n:=(i:Int)+1) (by omega) (by omega),map_take _ _ i hi]
   rfl) (by
   unfold qcu;simp only[show decide (((r.2.2.2.1.length:Nat):Int)<((r.2.2.2.1.length:Nat):Int))=false by simp,cond_false,List.take_length]
   rfl)
  have hL':iterW (qcu r) (((0:Int),()),((r.2.2.2.2.1,(([]:List Int),(([]:List Int),((0:Int),((0:Int),()))))),()))=_:=hL;rw[hL',Option.bind_some];rfl
 ·rw[bne_t c,cond_true,if_neg c]
theorem qmc {r:Rules} {p:Place} (h:Valid r p):(qdW r p).length≤100000:=by
 have h64:=qek h;refine Nat.le_trans (qbr _ 384 _ fun i _=>at1_len h i) ?_;rw[List.length_range];omega

def qac (r:Rules) (p:Place):List Mv:=if qaU r p=0 then qdW r p else []
theorem qob {r:Rules} {p:Place} (h:Valid r p):qg2 r p=some (qac r p):=by
 unfold qg2 qac;rw[ql7 h,Option.bind_some];by_cases c:qaU r p=0
 ·rw[bne_f c,cond_false,if_pos c,qmA h];rfl
 ·rw[bne_t c,cond_true,if_neg c]
theorem qlx {r:Rules} {p:Place} {m:Mv} (hm:m∈qac r p):qQ r p m=true:=by
 unfold qac at hm;split at hm
 ·exact(qny m).1 hm
 ·cases hm
theorem open_len {r:Rules} {p:Place} (h:Valid r p):(qac r p).length≤100000:=by
 unfold qac;split
 ·exact qmc h
 ·simp
def treeN (r:Rules):Nat→Place→Nat
 | 0,_=>1
 | d+1,p=>1+((qac r p).map fun m=>treeN r d (qu r p m)).sum
def qk2 (r:Rules):Nat→Place→Nat
 | 0,_=>1
 | d+1,p=>((qac r p).map fun m=>qk2 r d (qu r p m)).sum
theorem sum_le {A:Type} {f g:A→Nat}:∀ {l:List A},(∀x∈l,f x≤g x)→(l.map f).sum≤(l.map g).sum
 | [],_=>Nat.le_refl _
 | x::l,h=>by
  have:=sum_le (l:=l) fun y hy=>h y (List.mem_cons_of_mem _ hy);have:=h x List.mem_cons_self;simp only[List.map_cons,List.sum_cons];omega
theorem treeN_pos (r:Rules):∀(d:Nat) (p:Place),1≤treeN r d p
 | 0,_=>Nat.le_refl _
 | d+1,p=>by unfold treeN;omega
theorem qrD (r:Rules):∀(d:Nat) (p:Place),qk2 r d p≤treeN r d p
 | 0,_=>Nat.le_refl _
 | d+1,p=>by
  unfold qk2 treeN;have:=sum_le (l:=qac r p) fun m _=>qrD r d (qu r p m);omega
def walkS (r:Rules):Nat→Place→Int×Int→(Int×Int)×Bool
 | 0,p,s=>if s.1+1>50000 then((s.1+1,s.2),false) else((s.1+1,s.2+1),true)
 | d+1,p,s=>if s.1+1>50000 then((s.1+1,s.2),false) else
  scanL (fun acc m=>bif (walkS r d (qu r p m) acc).2 then .inl (walkS r d (qu r p m) acc).1 else .inr ((walkS r d (qu r p m) acc).1,false)) (fun acc=>(acc,true)) (qac r p) (s.1+1,s.2)
theorem qkc (r:Rules):∀(d:Nat) (p:Place) (n l:Int),(n+treeN r d p≤50000→walkS r d p (n,l)=((n+treeN r d p,l+qk2 r d p),true))∧(50000<n+treeN r d p→(walkS r d p (n,l)).2=false)
 | 0,p,n,l=>by
  unfold walkS treeN qk2;constructor
  ·intro h;rw[if_neg (by simp at h ⊢;omega)];rfl
  ·intro h;rw[if_pos (by simp at h ⊢;omega)]
 | d+1,p,n,l=>by
  have ih:=qkc r d;have key:∀(ms:List Mv) (n l:Int),(n+((ms.map fun m=>treeN r d (qu r p m)).sum:Nat)≤50000→scanL (fun acc m=>bif (walkS r d (qu r p m) acc).2 then .inl (walkS r d (qu r p m) acc).1 else .inr ((walkS r d (qu r p m) acc).1,false)) (fun acc=>(acc,true)) ms (n,l)=((n+((ms.map fun m=>treeN r d (qu r p m)).sum:Nat),l+((ms.map fun m=>qk2 r d (qu r p m)).sum:Nat)),true))
    ∧ (50000<n+((ms.map fun m=>treeN r d (qu r p m)).sum:Nat)→n≤50000→(scanL (fun acc m=>bif (walkS r d (qu r p m) acc).2 then .inl (walkS r d (qu r p m) acc).1 else .inr ((walkS r d (qu r p m) acc).1,false)) (fun acc=>(acc,true)) ms (n,l)).2=false):=by
   intro ms
   induction ms with
   | nil=>intro n l;simp[scanL]<;>omega
   | cons m ms ih2 =>
    intro n l;simp only[List.map_cons,List.sum_cons];have hp:=treeN_pos r d (qu r p m);obtain⟨a1,a2⟩:=ih (qu r p m) n l;constructor
    ·intro h;unfold scanL;rw[a1 (by omega)];simp only[cond_true];rw[(ih2 _ _).1 (by omega)];congr 2
     ·push_cast;omega
     ·push_cast;omega
    ·intro h hn;unfold scanL;by_cases c:n+(treeN r d (qu r p m):Int)≤50000
     ·rw[a1 c];simp only[cond_true];exact(ih2 _ _).2 (by omega) c
     ·rw[a2 (by omega)];rfl
  unfold walkS treeN qk2;by_cases c:n+1>50000
  ·rw[if_pos c];exact⟨fun h=>by push_cast at h;omega,fun _=>rfl⟩
  ·rw[if_neg c];obtain⟨k1,k2⟩:=key (qac r p) (n+1) l;constructor
   ·intro h;rw[k1 (by push_cast at h;omega)];congr 2
    push_cast
    omega
   ·intro h;exact k2 (by push_cast at h;omega) (by omega)

theorem qt0 {A:Type} (xs:List A) (i:Nat) (hi:i<xs.length) (d:A):getD' xs ((i:Int)).toNat d=xs[i]:=by
 simp[getD',hi]
theorem lt_dec {A:Type} (xs:List A) (i:Nat) (hi:i<xs.length):decide ((i:Int)<((xs.length:Nat):Int))=true:=by simp;omega
theorem nlt_dec {A:Type} (xs:List A):decide (((xs.length:Nat):Int)<((xs.length:Nat):Int))=false:=by simp
theorem inb_nat {A:Type} (xs:List A) (i:Nat) (hi:i<xs.length):inb (i:Int) xs.length=true:=inb_iff.2 ⟨by omega,by omega⟩
theorem open_0 {r:Rules} {p:Place} (h:qaU r p=0):qac r p=qdW r p:=if_pos h
theorem qqu {r:Rules} {p:Place} {ms:List Mv} (h:Valid r p) (hm:ms=qac r p) {i:Nat} (hi:i<ms.length):qQ r p ms[i]=true∧Valid r (qu r p ms[i]):=by
 have:ms[i]∈qac r p:=hm▸List.getElem_mem hi;exact⟨qlx this,qsW h (qlx this)⟩
abbrev FlR:=ByteArray×Int×Int×(List (Int×Int×Int×(List (Int×Int×Int×Int×Unit))×Unit))×(List Int)×Bool×Bool×(List (Int×Int×Int×Bool×Unit))×Int×Int×Int×Int×Int×Unit
def fl (r:Rules) (s:Int×Int):FlR:=(r.1,(r.2.1,(r.2.2.1,(r.2.2.2.1,(r.2.2.2.2.1,(r.2.2.2.2.2.1,(r.2.2.2.2.2.2.1,(r.2.2.2.2.2.2.2.1,(r.2.2.2.2.2.2.2.2.1,(r.2.2.2.2.2.2.2.2.2.1,(r.2.2.2.2.2.2.2.2.2.2.1,(s.1,(s.2,())))))))))))))
abbrev CtT:=(Rules×Int×Int×Unit)×Place×Int×Unit
abbrev CtR:=(Rules×Int×Int×Unit)×Bool
theorem walk_L1 (ms:List Mv) (p:Place) (φ:CtT→Option CtR) (depth i:Int) (r:Rules) (s:Int×Int):qr ms p φ depth ((i,()),(fl r s,())) =
  bif decide (i<((ms.length:Nat):Int)) then req (inb i ms.length) (Option.bind (qdf r p (getD' ms i.toNat d0)) fun q=>Option.bind (φ ((r,s.1,s.2,()),q,w64 (depth-1),())) fun x =>
   bif (!x.2) then some (Sum.inr (Sum.inr (x.1,false))) else some (Sum.inl ((w64 (i+1),()),(fl x.1.1 (x.1.2.1,x.1.2.2.1),()))))
  else some (Sum.inr (Sum.inl ((),(fl r s,())))):=rfl
theorem walk_F (φ:CtT→Option CtR) (r:Rules) (n l:Int) (p:Place) (depth:Int):qbe φ (r,n,l,()) p depth =
  bif decide (w64 (n+1)>50000) then some ((r,w64 (n+1),l,()),false) else bif depth==0 then some ((r,w64 (n+1),w64 (l+1),()),true) else
  Option.bind (qg2 r p) fun ms=>Option.bind (iterW (qr ms p φ depth) (((0:Int),()),(fl r (w64 (n+1),l),()))) (Sum.elim (fun x=>some ((((x.2.1.1,(x.2.1.2.1,(x.2.1.2.2.1,(x.2.1.2.2.2.1,(x.2.1.2.2.2.2.1,(x.2.1.2.2.2.2.2.1,(x.2.1.2.2.2.2.2.2.1,(x.2.1.2.2.2.2.2.2.2.1,(x.2.1.2.2.2.2.2.2.2.2.1,(x.2.1.2.2.2.2.2.2.2.2.2.1,(x.2.1.2.2.2.2.2.2.2.2.2.2.1,())))))))))))),x.2.1.2.2.2.2.2.2.2.2.2.2.2),true)) some):=rfl
theorem walkS_rng (r:Rules) (d:Nat) (p:Place) (n l:Int) (h:(walkS r d p (n,l)).2=true) (hl:0≤l) (hln:l≤n):0≤(walkS r d p (n,l)).1.2∧(walkS r d p (n,l)).1.2≤(walkS r d p (n,l)).1.1∧(walkS r d p (n,l)).1.1≤50000:=by
 obtain⟨a1,a2⟩:=qkc r d p n l;by_cases c:n+(treeN r d p:Int)≤50000
 ·rw[a1 c];have:=qrD r d p;simp only;omega
 ·rw[a2 (by omega)] at h;cases h
def ctOf (r:Rules) (w:(Int×Int)×Bool):CtR:=((r,w.1.1,w.1.2,()),w.2)
theorem walk_fix:∀x:CtT,(Valid x.1.1 x.2.1∧0≤x.2.2.1∧x.2.2.1≤12∧0≤x.1.2.2.1∧x.1.2.2.1≤x.1.2.1∧x.1.2.1≤50000)→fixW qP x=some (ctOf x.1.1 (walkS x.1.1 x.2.2.1.toNat x.2.1 (x.1.2.1,x.1.2.2.1))):=by
 refine quG qf8 _ (fun x=>x.2.2.1.toNat) _ ?_
 rintro φ ⟨⟨r,n,l,⟨⟩⟩,p,depth,⟨⟩⟩ ⟨hv,hd0,hd1,hl0,hl1,hn⟩ ih
 show qbe φ (r,n,l,()) p depth=_;simp only at hv hd0 hd1 hl0 hl1 hn ih ⊢;rw[walk_F,qi (n:=n+1) (by omega) (by omega),qi (n:=l+1) (by omega) (by omega)];obtain⟨d,rfl⟩:=Int.eq_ofNat_of_zero_le hd0;simp only[Int.toNat_natCast] at ih ⊢;by_cases c:n+1>50000
 ·rw[decide_eq_true c,cond_true]
  cases d with
  | zero=>unfold walkS;rw[if_pos c];rfl
  | succ d=>unfold walkS;rw[if_pos c];rfl
 rw[decide_eq_false c,cond_false]
 cases d with
 | zero=>unfold walkS;rw[if_neg c];rfl
 | succ d =>
  rw[beq_f (show ¬(((d+1:Nat):Int))=0 by omega),cond_false,qob hv,Option.bind_some];have hlen:=open_len hv;unfold walkS;rw[if_neg c];generalize hms:qac r p=ms at hlen ⊢;have hL:=iter_scan ms (qr ms p φ ((d+1:Nat):Int)) (fun i s=>(((i:Int),()),(fl r s,())))
   (fun acc m=>bif (walkS r d (qu r p m) acc).2 then .inl (walkS r d (qu r p m) acc).1 else .inr (.inr (ctOf r ((walkS r d (qu r p m) acc).1,false)))) (fun s => .inl ((),(fl r s,())))
   (fun _ s=>0≤s.2∧s.2≤s.1∧s.1≤50000) (fun i hi s hs=>by
    obtain⟨ha,va⟩:=qqu hv hms.symm hi;obtain⟨sn,sl⟩:=s;show qr ms p φ _ (((i:Int),()),(fl r (sn,sl),()))=_
    rw[walk_L1,lt_dec ms i hi,cond_true,inb_nat ms i hi,qc,qt0 ms i hi,qqX hv ha,Option.bind_some,qi (n:=((d+1:Nat):Int)-1) (by omega) (by omega),
     ih ((r,sn,sl,()),qu r p ms[i],((d+1:Nat):Int)-1,()) ⟨va,by simp only;omega,by simp only;omega,hs.1,hs.2.1,hs.2.2⟩ (by simp only;omega),Option.bind_some]
    simp only[show(((d+1:Nat):Int)-1).toNat=d by omega];generalize walkS r d (qu r p ms[i]) (sn,sl)=w;obtain⟨⟨w1,w2⟩,w3⟩:=w;rw[qi (n:=(i:Int)+1) (by omega) (by omega)];cases w3<;>rfl) (fun i hi s s' hs hg=>by
    obtain⟨sn,sl⟩:=s
    cases hw:(walkS r d (qu r p ms[i]) (sn,sl)).2 with
    | false =>
     rw[hw] at hg;simp only[cond_false] at hg;cases hg
    | true =>
     rw[hw] at hg;simp only[cond_true] at hg;cases hg;exact walkS_rng r d _ sn sl hw hs.1 hs.2.1) (fun s hs=>by
    show qr ms p φ _ ((((ms.length:Nat):Int),()),(fl r s,()))=_
    rw[walk_L1,nlt_dec,cond_false]) (n+1,l) ⟨hl0,by simp only;omega,by simp only;omega⟩
  have hL':iterW (qr ms p φ ((d+1:Nat):Int)) (((0:Int),()),(fl r (n+1,l),()))=_:=hL;rw[hL',Option.bind_some];clear hL hL' hms hlen;generalize (n+1,l)=s0
  induction ms generalizing s0 with
  | nil=>rfl
  | cons m ms ih2 =>
   unfold scanL
   cases hw:(walkS r d (qu r p m) s0).2 with
   | false=>rfl
   | true =>
    simp only[cond_true];exact ih2 _
theorem walk_spec {r:Rules} {p:Place} (h:Valid r p) {d:Nat} (hd:d≤12):qdl (r,0,0,()) p (d:Int)=some (ctOf r (walkS r d p (0,0))):=by
 have:=walk_fix ((r,0,0,()),p,(d:Int),()) ⟨h,by simp only;omega,by simp only;omega,by simp only;omega,by simp only;omega,by simp only;omega⟩;exact this
def qfb (depth:Int):Bool:=decide (0≤depth)&&decide (depth≤12)
def qbM (r:Rules) (p:Place) (depth:Int):Int:=if qbj r p≠0 then qbj r p else bif !qfb depth then 1 else if 50000<treeN r depth.toNat p then 17 else 0
theorem qsh {r:Rules} {p:Place} (depth:Int) (c:¬qbj r p=0):qbM r p depth=qbj r p:=if_pos c
theorem ql5 {r:Rules} {p:Place} (depth:Int) (c:qbj r p=0):qbM r p depth=bif !qfb depth then 1 else if 50000<treeN r depth.toNat p then 17 else 0:=by
 unfold qbM;rw[if_neg (fun h=>h c)]
theorem qrh {r:Rules} {p:Place} {depth:Int} (c:qbj r p=0) (hd:qfb depth=false):qbM r p depth=1:=by rw[ql5 depth c,hd];rfl
theorem qrv {r:Rules} {p:Place} {depth:Int} (c:qbj r p=0) (hd:qfb depth=true) (ht:50000<treeN r depth.toNat p):qbM r p depth=17:=by rw[ql5 depth c,hd,if_pos ht];rfl
theorem treeErr_0 {r:Rules} {p:Place} {depth:Int} (c:qbj r p=0) (hd:qfb depth=true) (ht:¬50000<treeN r depth.toNat p):qbM r p depth=0:=by rw[ql5 depth c,hd,if_neg ht];rfl
theorem okDepth_iff {depth:Int}:qfb depth=true↔0≤depth∧depth≤12:=by simp[qfb]
theorem qsc (r:Rules) (p:Place) (depth:Int) (hr:Rng qfo r) (hn:p.1.length≤9223372036854775807):qg6 r p depth=some (if qbM r p depth=0 then((treeN r depth.toNat p:Int),((qk2 r depth.toNat p:Int),(0,()))) else(0,(0,(qbM r p depth,())))):=by
 unfold qg6;rw[qvr r p hr hn,Option.bind_some];by_cases c:qbj r p=0
 ·have hv:=qul c;rw[bne_f c,cond_false]
  cases e2:qfb depth with
  | true =>
   have hd:=okDepth_iff.1 e2
   have e1:((decide (depth<0))||(decide (depth>12)))=false:=by simp;omega
   obtain⟨d,rfl⟩:=Int.eq_ofNat_of_zero_le hd.1;rw[e1,cond_false,walk_spec hv (by omega),Option.bind_some];obtain⟨a1,a2⟩:=qkc r d p 0 0;by_cases ct:50000<treeN r d p
   ·have:=a2 (by omega);rw[qrv c e2 ct];simp only[ctOf,this,Bool.not_false,cond_true];rfl
   ·rw[a1 (by omega),treeErr_0 c e2 ct];simp only[ctOf,Bool.not_true,cond_false,Int.zero_add,Int.toNat_natCast,if_true]
  | false =>
   have e1:((decide (depth<0))||(decide (depth>12)))=true:=by
    have:¬(0≤depth∧depth≤12):=fun h=>by rw[okDepth_iff.2 h] at e2;cases e2
    simp;omega
   rw[e1,cond_true,qrh c e2];rfl
 ·rw[bne_t c,cond_true,qsh depth c,if_neg c]
abbrev RT:=Rules×Place×Int×Unit

def qk1 (p:Place) (x:Int):Int:=bif x==1+p.turn then 1000 else bif x==2-p.turn then -1000 else 0
def nearer (n:Int):Int:=if n>0 then n-1 else if n<0 then n+1 else 0
def better (b:Mv×Int) (m:Mv) (n:Int):Mv×Int:=bif decide (n>b.2) then(m,n) else b
def qap (r:Rules):Nat→Place→Int
 | 0,p=>if qaU r p=0 then 0 else qk1 p (qaU r p)
 | d+1,p=>if qaU r p=0 then((qdW r p).foldl (fun b m=>better b m (nearer (0-qap r d (qu r p m)))) (d0,-2000)).2 else qk1 p (qaU r p)
def qte (r:Rules) (d:Nat) (p:Place):Mv×Int:=(qdW r p).foldl (fun b m=>better b m (nearer (0-qap r d (qu r p m)))) (d0,-2000)
theorem qsI {r:Rules} {d:Nat} {p:Place} (h:qaU r p=0):qap r (d+1) p=(qte r d p).2:=by
 unfold qap qte;rw[if_pos h]
theorem qvY {r:Rules} {d:Nat} {p:Place} (h:¬qaU r p=0):qap r d p=qk1 p (qaU r p):=by
 cases d<;>(unfold qap;rw[if_neg h])
theorem qvW {n:Int} (h : -2000≤n∧n≤2000) : -2000≤nearer n∧nearer n≤2000:=by
 unfold nearer;split
 ·omega
 ·split<;>omega
theorem qrg {A:Type} (f:A→Int) (B:List A→Prop):∀(l:List A) (g:A→Mv) (b:Mv×Int),(-2000≤b.2∧b.2≤2000)→(∀x∈l,-2000≤f x∧f x≤2000) → -2000≤(l.foldl (fun b x=>better b (g x) (f x)) b).2∧(l.foldl (fun b x=>better b (g x) (f x)) b).2≤2000
 | [],_,b,hb,_=>hb
 | x::l,g,b,hb,h=>by
  refine qrg f B l g _ ?_ fun y hy=>h y (List.mem_cons_of_mem _ hy);show -2000≤(better b (g x) (f x)).2∧(better b (g x) (f x)).2≤2000;unfold better;have:=h x List.mem_cons_self;cases decide (f x>b.2)
  ·exact hb
  ·exact this
theorem quC (p:Place) (x:Int) : -1000≤qk1 p x∧qk1 p x≤1000:=by
 unfold qk1;cases x==1+p.turn
 ·cases x==2-p.turn<;>simp
 ·simp
theorem qqS (r:Rules):∀(d:Nat) (p:Place),-2000≤qap r d p∧qap r d p≤2000
 | 0,p=>by
  unfold qap;have:=quC p (qaU r p)
  split<;>omega
 | d+1,p=>by
  unfold qap;have:=quC p (qaU r p);split
  ·exact qrg (fun m=>nearer (0-qap r d (qu r p m))) (fun _=>True) (qdW r p) id _ (by simp) fun m _=>qvW (by have:=qqS r d (qu r p m);omega)
  ·omega
theorem nearer_w {n:Int} (h : -2000≤n∧n≤2000):qat n=nearer n:=by
 unfold qat nearer;by_cases c:n>0
 ·rw[decide_eq_true c,cond_true,if_pos c,qi (by omega) (by omega)]
 ·rw[decide_eq_false c,cond_false,if_neg c];by_cases c2:n<0
  ·rw[decide_eq_true c2,cond_true,if_pos c2,qi (by omega) (by omega)]
  ·rw[decide_eq_false c2,cond_false,if_neg c2]
theorem over_w {r:Rules} {p:Place} (h:Valid r p) (x:Int):qcC p x=qk1 p x:=by
 have ht:=h.turn;unfold qcC qk1;rw[qi (by show _≤1+p.turn;omega) (by show 1+p.turn≤_;omega),qi (n:=2-p.2.2.1) (by show _≤2-p.turn;omega) (by show 2-p.turn≤_;omega)]
theorem take_fold {A B:Type} (g:B→A→B) (l:List A) (b:B) (i:Nat) (hi:i<l.length):(l.take (i+1)).foldl g b=g ((l.take i).foldl g b) l[i]:=by
 rw[List.take_succ_eq_append_getElem hi,List.foldl_append];rfl
theorem of_L1 (ms:List Mv) (r:Rules) (p:Place) (φ:RT→Option Int) (depth acc i:Int) (b:Mv):qaN ms r p φ depth ((acc,i,()),(b,())) =
  bif decide (i<((ms.length:Nat):Int)) then req (inb i ms.length) (Option.bind (Option.bind (qdf r p (getD' ms i.toNat d0)) fun q=>Option.bind (φ (r,q,w64 (depth-1),())) fun v=>some ((qat (w64 (0-v)),()),())) fun x:(Int×Unit)×Unit =>
   Option.bind (bif decide (x.1.1>acc) then some ((x.1.1,()),(getD' ms i.toNat d0,())) else some ((acc,()),(b,()))) fun z:(Int×Unit)×(Mv×Unit)=>some (Sum.inl ((z.1.1,w64 (i+1),()),(z.2.1,()))))
  else some (Sum.inr ((acc,()),(b,()))):=by
 unfold qaN;rw[agree_self]
theorem of_fix:∀x:RT,(Valid x.1 x.2.1∧0≤x.2.2.1∧x.2.2.1≤12)→fixW qbZ x=some (qap x.1 x.2.2.1.toNat x.2.1):=by
 refine quG qn5 _ (fun x=>x.2.2.1.toNat) _ ?_
 rintro φ ⟨r,p,depth,⟨⟩⟩ ⟨hv,hd0,hd1⟩ ih
 show qfm φ r p depth=_;simp only at hv hd0 hd1 ih ⊢;obtain⟨d,rfl⟩:=Int.eq_ofNat_of_zero_le hd0;simp only[Int.toNat_natCast] at ih ⊢;unfold qfm;rw[ql7 hv,Option.bind_some];by_cases c:qaU r p=0
 ·rw[bne_f c,cond_false]
  cases d with
  | zero=>unfold qap;rw[if_pos c];rfl
  | succ d =>
   rw[beq_f (show ¬(((d+1:Nat):Int))=0 by omega),cond_false,qmA hv,Option.bind_some,qsI c];unfold qte;have hlen:=qmc hv;rw[←open_0 c] at hlen ⊢;generalize hms:qac r p=ms at hlen ⊢
   have hL:=qgn (f:=qaN ms r p φ ((d+1:Nat):Int)) ms.length (fun i=>((((ms.take i).foldl (fun b m=>better b m (nearer (0-qap r d (qu r p m)))) (d0,-2000)).2,(i:Int),()),(((ms.take i).foldl (fun b m=>better b m (nearer (0-qap r d (qu r p m)))) (d0,-2000)).1,()))) (((ms.foldl (fun b m=>better b m (nearer (0-qap r d (qu r p m)))) (d0,-2000)).2,()),((ms.foldl (fun b m=>better b m (nearer (0-qap r d (qu r p m)))) (d0,-2000)).1,())) (fun i hi=>by
     obtain⟨ha,va⟩:=qqu hv hms.symm hi;have hs:=qqS r d (qu r p ms[i])
     rw[of_L1,lt_dec ms i hi,cond_true,inb_nat ms i hi,qc,qt0 ms i hi,qqX hv ha,Option.bind_some,qi (n:=((d+1:Nat):Int)-1) (by omega) (by omega),
      ih (r,qu r p ms[i],((d+1:Nat):Int)-1,()) ⟨va,by simp only;omega,by simp only;omega⟩ (by simp only;omega),Option.bind_some]
     simp only[show(((d+1:Nat):Int)-1).toNat=d by omega];rw[qi (by omega) (by omega),qi (n:=(i:Int)+1) (by omega) (by omega),Option.bind_some,nearer_w (by omega),take_fold _ _ _ i hi];simp only;generalize (ms.take i).foldl (fun b m=>better b m (nearer (0-qap r d (qu r p m)))) (d0,-2000)=w;unfold better
     cases decide (nearer (0-qap r d (qu r p ms[i]))>w.2)<;>rfl) (by
     rw[of_L1,nlt_dec,cond_false,List.take_length])
   have hL':iterW (qaN ms r p φ ((d+1:Nat):Int)) (((-2000:Int),(0:Int),()),(d0,()))=_:=hL;rw[hL',Option.bind_some]
 ·rw[bne_t c,cond_true,qvY c,over_w hv]
theorem qqm {r:Rules} {p:Place} (h:Valid r p) {d:Nat} (hd:d≤12):qmg r p (d:Int)=some (qap r d p):=of_fix (r,p,(d:Int),()) ⟨h,by simp only;omega,by simp only;omega⟩

theorem eta_r (r:Rules):(r.1,(r.2.1,(r.2.2.1,(r.2.2.2.1,(r.2.2.2.2.1,(r.2.2.2.2.2.1,(r.2.2.2.2.2.2.1,(r.2.2.2.2.2.2.2.1,(r.2.2.2.2.2.2.2.2.1,(r.2.2.2.2.2.2.2.2.2.1,(r.2.2.2.2.2.2.2.2.2.2.1,())))))))))))=r:=rfl
theorem tree_spec (r:Rules) (p:Place) (depth:Int) (hr:Rng qfo r) (hn:p.1.length≤9223372036854775807):qiL r p depth=some (if qbM r p depth=0 then((treeN r depth.toNat p:Int),(0,())) else(0,(qbM r p depth,()))):=by
 unfold qiL;rw[qsc r p depth hr hn];by_cases c:qbM r p depth=0
 ·simp only[if_pos c,Option.bind_some]
 ·simp only[if_neg c,Option.bind_some]
theorem tree_ok {r:Rules} {p:Place} {depth:Int} (c:qbM r p depth=0):Valid r p∧0≤depth∧depth≤12∧treeN r depth.toNat p≤50000:=by
 by_cases h1:qbj r p=0
 ·cases h2:qfb depth with
  | false=>rw[qrh h1 h2] at c;omega
  | true =>
   have hd:=okDepth_iff.1 h2;by_cases h3:50000<treeN r depth.toNat p
   ·rw[qrv h1 h2 h3] at c;omega
   ·exact⟨qul h1,hd.1,hd.2,by omega⟩
 ·rw[qsh depth h1] at c;exact absurd c h1
theorem qu2 (r:Rules) (p:Place) (depth:Int) (hr:Rng qfo r) (hn:p.1.length≤9223372036854775807):qb5 r p depth=some (if qbM r p depth=0 then(qap r depth.toNat p,(0,())) else(0,(qbM r p depth,()))):=by
 unfold qb5;rw[tree_spec r p depth hr hn];by_cases c:qbM r p depth=0
 ·obtain⟨hv,hd0,hd1,_⟩:=tree_ok c;obtain⟨d,rfl⟩:=Int.eq_ofNat_of_zero_le hd0;simp only[if_pos c,Option.bind_some];rw[show((0:Int)!=0)=false from rfl,cond_false,qqm hv (by omega)];rfl
 ·simp only[if_neg c,Option.bind_some];rw[bne_t c,cond_true]

theorem ticL_rng:Rng qfo qbc:=qkr _ _ (by decide +kernel)
theorem ticL_ok:qcN qbc=0:=by decide +kernel
def qe5 (r:Rules) (depth:Int):Int:=qbM r (qe7 r) depth
def qd2 (r:Rules) (depth:Int):Int:=qap r depth.toNat (qe7 r)
def winsVL (v:Int):Int:=if v>0 then 1 else if v<0 then 2 else 3
theorem qri {r:Rules} (hr:Rng qfo r) (c:qcN r=0) (depth:Int):qb5 r (qe7 r) depth=some (if qe5 r depth=0 then(qd2 r depth,(0,())) else(0,(qe5 r depth,()))):=by
 have h:=qfr c;have hs:((r.start.length:Nat):Int)=r.width*r.height:=h.start;have ha:=h.area;exact qu2 r (qe7 r) depth hr (by show r.start.length≤_;omega)
theorem qvv {r:Rules} (hr:Rng qfo r) (c:qcN r=0) (depth:Int):qew r depth=some (if qe5 r depth=0 then(winsVL (qd2 r depth),(0,())) else(0,(qe5 r depth,()))):=by
 unfold qew;rw[qvB r hr,if_pos c,Option.bind_some];simp only[bne_self_eq_false,cond_false];rw[show qb5 r ((qe7 r).1,(((qe7 r).2.1.1,((qe7 r).2.1.2.1,())),(qe7 r).2.2)) depth=_ from qri hr c depth,Option.bind_some];by_cases ce:qe5 r depth=0
 ·simp only[if_pos ce,bne_self_eq_false,cond_false];unfold winsVL;by_cases h1:qd2 r depth>0
  ·rw[decide_eq_true h1,cond_true,if_pos h1]
  ·rw[decide_eq_false h1,cond_false,if_neg h1];by_cases h2:qd2 r depth<0
   ·rw[decide_eq_true h2,cond_true,if_pos h2]
   ·rw[decide_eq_false h2,cond_false,if_neg h2]
 ·simp only[if_neg ce];rw[bne_t ce,cond_true]
theorem qmK:qdA=some true:=by
 unfold qdA;rw[eta_r,qvv ticL_rng ticL_ok]
 have e1:qe5 qbc 0=0:=by decide +kernel
 have e2:winsVL (qd2 qbc 0)=3:=by decide +kernel
 rw[if_pos e1,e2];rfl
namespace Lvl
theorem qnj {B:Type} {f:(Int×Unit)×Unit→Option (((Int×Unit)×Unit) ⊕ B)} (n:Nat) (v:B) (h:∀i:Nat,i<n→f (((i:Int),()),())=some (.inl ((((i+1:Nat):Int),()),())))
  (h2:f (((n:Int),()),())=some (.inr v)):iterW f ((0,()),())=some v:=by
 obtain⟨r,h3,h4⟩:=qg (f:=f) (fun s=>∃i:Nat,s=(((i:Int),()),())∧i≤n) (fun s=>n-s.1.1.toNat) (fun r=>r=v) (by
  rintro s ⟨i,rfl,hi⟩
  by_cases hlt:i<n
  ·refine .inl ⟨_,h i hlt,⟨i+1,rfl,hlt⟩,?_⟩;show n-((i+1:Nat):Int).toNat<n-(i:Int).toNat;omega
  ·have:i=n:=by omega
   subst this
   exact .inr ⟨_,h2,rfl⟩) ((0,()),()) ⟨0,rfl,Nat.zero_le _⟩
 rw[h3,h4]
theorem qsy {r8 r10:(List (List ByteArray))×Int×Unit} {r9:ByteArray×Int×Unit} {m g:List (List ByteArray)} {amount a:ByteArray} {x e:Int} {b:Bool}
  (hT:getD' ([(r8.1,(amount,r8.2)),(r10.1,((ByteArray.mk #[]),r10.2))]) x.toNat ([],(ByteArray.empty,((0:Int),())))=(g,(a,(e,()))))
  (hb:(!(a.toList==(ByteArray.mk #[]).toList))=b) (hg:g.length=m.length) (hl:m.length≤12)
  (hrow:∀i (hi:i<m.length) (hi':i<g.length),m[i].length≤12∧g[i].length=m[i].length∧∀k (hk:k<m[i].length) (hk':k<g[i].length),(if b=true then qga m[i][k] amount else qpc m[i][k] r9.1)=some (g[i][k],(0,()))) :
  iterW (qK m r8 amount r10 ((x,()),()) r9) ((0,()),())=some (.inl ((),())):=by
 refine qnj m.length _ (fun i hi=>?_) ?_
 ·have hi':i<g.length:=by omega
  obtain⟨q1,q2,q3⟩:=hrow i hi hi';have hd:decide ((i:Int)<((m.length:Nat):Int))=true:=decide_eq_true (by omega)
  have hw:w64 ((i:Int)+1)=((i+1:Nat):Int):=by rw[qi (by omega) (by omega)];rfl
  have hin:iterW (qaw m[i] r8 amount r10 ((x,()),()) m (((i:Int),()),()) r9) ((0,()),())=some (.inl ((),())):=by
   refine qnj m[i].length _ (fun k hk=>?_) ?_
   ·have hk':k<g[i].length:=by omega
    have q4:=q3 k hk hk';have hd:decide ((k:Int)<((m[i].length:Nat):Int))=true:=decide_eq_true (by omega)
    have hw:w64 ((k:Int)+1)=((k+1:Nat):Int):=by rw[qi (by omega) (by omega)];rfl
    have hn1:(((g.length:Nat):Int)!=((m.length:Nat):Int))=false:=by rw[hg];exact bne_self_eq_false _
    have hn2:(((g[i].length:Nat):Int)!=((m[i].length:Nat):Int))=false:=by rw[q2];exact bne_self_eq_false _
    unfold qaw
    cases b with
    | true =>
     rw[if_pos rfl] at q4;simp only[hd,cond_true,qp m[i] hk,Option.bind_some,hT,hb,hn1,hn2,Bool.not_false,gat,qp g hi',Bool.or_self,cond_false,q4,eq0,qp g[i] hk',beq_self_eq_true,Bool.not_true,hw]
    | false =>
     rw[if_neg (by simp)] at q4;simp only[hd,cond_true,qp m[i] hk,Option.bind_some,hT,hb,hn1,hn2,Bool.not_false,gat,qp g hi',Bool.or_self,cond_false,q4,eq0,qp g[i] hk',beq_self_eq_true,Bool.not_true,hw]
   ·have hd:decide (((m[i].length:Nat):Int)<((m[i].length:Nat):Int))=false:=decide_eq_false (by omega);unfold qaw;simp only[hd,cond_false]
  unfold qK;simp only[hd,cond_true,qp m hi,Option.bind_some,hin,Sum.elim_inl,hw]
 ·have hd:decide (((m.length:Nat):Int)<((m.length:Nat):Int))=false:=decide_eq_false (by omega);unfold qK;simp only[hd,cond_false]
end Lvl
open Lvl
theorem law3HandicapLevels_true (m:List (List ByteArray)) (amount:ByteArray) (hm:Rng (.sl (.sl .str)) m) (ha:Rng .str amount):qcq m amount=some true:=by
 have hms:Sized m:=fun r hr=>⟨(hm.2 r hr).1,fun t ht=>(hm.2 r hr).2 t ht⟩;have has:amount.size≤TL:=ha;obtain⟨o8,e8,g1,g2,g3,g4⟩:=qrJ hms has;obtain⟨s,rs,cs,e,o,f,l1,l2,l3,l4,l5⟩:=qvi hms;obtain⟨c,c1⟩:=qnJ amount has;unfold qcq;rw[qmK,Option.bind_some,Bool.not_true,cond_false,g1,Option.bind_some,l2,Option.bind_some,l3,Option.bind_some,l1,Option.bind_some];by_cases he:e=0
 rotate_left
 ·obtain⟨k1,k2,k3⟩:=l4 he;subst k1;subst k2;subst k3;simp only[ne0 he,cond_true,beq_self_eq_true,Bool.and_self,List.length_nil];rfl
 subst he;obtain⟨mc,s1,k1⟩:=l5 rfl;simp only[eq0,cond_false,beq_self_eq_true,Bool.not_true,Bool.or_self];rw[c1,Option.bind_some];by_cases hc:c=0
 rotate_left
 ·have h8:=g4 mc c c1 hc;subst h8;rw[g2 hc];simp only[ne0 hc,cond_true,beq_self_eq_true,Bool.true_and,List.length_nil];rfl
 subst hc;rw[eq0,cond_false];obtain⟨cc,d1,d2⟩:=qim hms;rw[mc] at d1;obtain⟨n,hf⟩:=d2 (Option.some.inj d1).symm;have m1:=hf.m1;have n1:=hf.n1;have hr12:∀i (hi:i<m.length),m[i].length≤12:=fun i hi=>by
  have:=(hf.row _ (List.getElem_mem hi)).1;omega
 have hgood:(!(amount.toList==(ByteArray.mk #[]).toList))=true:=by
  obtain⟨q,_,_,q3⟩:=qnH c1 has;rw[ByteArray.toList_eq,ByteArray.toList_eq];have:(amount.data.toList==([]:List UInt8))=false:=beq_eq_false_iff_ne.2 q3;show(!(amount.data.toList==([]:List UInt8)))=true;rw[this];rfl
 have hit:iterW (qax (o8,(e8,())) amount (o,(f,())) m (s,(0,()))) ((0,()),())=some (.inl ((),())):=by
  refine qnj 2 _ (fun i hi=>?_) (by rfl)
  obtain rfl | rfl:i=0∨i=1:=by omega
  ·unfold qax;by_cases h8:e8=0
   ·subst h8;obtain⟨v1,v2⟩:=g3 rfl;have hk:=qsy (r8:=(o8,(0,()))) (r10:=(o,(f,()))) (r9:=(s,(0,()))) (m:=m) (amount:=amount) (x:=0) (g:=o8) (a:=amount) (e:=0) (b:=true) rfl hgood v1 m1 (fun i hi hi'=>⟨hr12 i hi,(v2 i hi hi').1,fun k hk hk'=>by rw[if_pos rfl];exact(v2 i hi hi').2 k hk hk'⟩);have hT:getD' ([(o8,(amount,((0:Int),()))),(o,((ByteArray.mk #[]),(f,())))]) ((((0:Nat):Int)).toNat) ([],(ByteArray.empty,((0:Int),())))=(o8,(amount,(0,()))):=rfl;simp only[hT,eq0,cond_false];have hk':iterW (qK m (o8,(0,())) amount (o,(f,())) ((((0:Nat):Int),()),()) (s,(0,()))) ((0,()),())=some (.inl ((),())):=hk;rw[hk'];rfl
   ·have hT:getD' ([(o8,(amount,(e8,()))),(o,((ByteArray.mk #[]),(f,())))]) ((((0:Nat):Int)).toNat) ([],(ByteArray.empty,((0:Int),())))=(o8,(amount,(e8,()))):=rfl;simp only[hT,ne0 h8,cond_true];rfl
  ·unfold qax;have hT:getD' ([(o8,(amount,(e8,()))),(o,((ByteArray.mk #[]),(f,())))]) ((((1:Nat):Int)).toNat) ([],(ByteArray.empty,((0:Int),())))=(o,(ByteArray.mk #[],(f,()))):=rfl;by_cases hf0:f=0
   ·subst hf0;obtain⟨t,t1,t2,v1,v2⟩:=k1 rfl
    have hk:=qsy (r8:=(o8,(e8,()))) (r10:=(o,(0,()))) (r9:=(s,(0,()))) (m:=m) (amount:=amount) (x:=1) (g:=o) (a:=ByteArray.mk #[]) (e:=0) (b:=false) rfl (by rw[beq_self_eq_true];rfl) v1 m1 (fun i hi hi'=>⟨hr12 i hi,(v2 i hi hi').1,fun k hk hk'=>by
     rw[if_neg (by simp)]
     exact add_neg ((hms _ (List.getElem_mem hi)).2 _ (List.getElem_mem hk)) (by show s.size≤_;rw[TL_eq];omega) (by rw[TL_eq];omega) t1 ((v2 i hi hi').2 k hk hk')⟩)
    simp only[hT,eq0,cond_false];have hk':iterW (qK m (o8,(e8,())) amount (o,(0,())) ((((1:Nat):Int),()),()) (s,(0,()))) ((0,()),())=some (.inl ((),())):=hk;rw[hk'];rfl
   ·simp only[hT,ne0 hf0,cond_true];rfl
 rw[hit];rfl
end Go.Proofs.YteahiolockghkaaGreatDoor
