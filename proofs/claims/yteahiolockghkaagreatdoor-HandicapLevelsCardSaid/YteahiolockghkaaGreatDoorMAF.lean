/- Several texts in one: LvlI, LvlJ, LvlK, JoinT, LvlU, LvlV, LvlW, LvlX, LvlA, LvlB, LvlC, LvlM, LvlN, LvlO, LvlP, LvlQ. -/
import Derived.Test.YteahiolockghkaaGreatDoorMAE
import Derived.Test.YteahiolockghkaaGreatDoorMAD
import Derived.Lib.IndexLaws
import Derived.Lib.IndexBytes
import Derived.Lib.CountLaws
import Derived.Test.YteahiolockghkaaGreatDoorMAA
namespace Go.Proofs.YteahiolockghkaaGreatDoor
open Go.Den
namespace Lvl
set_option linter.unusedVariables false
set_option linter.unusedSimpArgs false

theorem qqO (k:Nat):(0:Int)<((2 ^ k:Nat):Int):=Int.natCast_pos.2 (Nat.two_pow_pos k)
theorem p2_succ (k:Nat):((2 ^ (k+1):Nat):Int)=2*((2 ^ k:Nat):Int):=by rw[Nat.pow_succ];omega
theorem p2_mul {k:Nat} (hk:k≤32):((2 ^ k:Nat):Int)*((2 ^ (32-k):Nat):Int)=4294967296:=by
 rw[←Int.natCast_mul,←Nat.pow_add,show k+(32-k)=32 by omega];rfl
theorem shl32 {d:Int} {k:Nat} (hk:k≤32):shK .shl .u32 d (k:Int)=d*((2 ^ k:Nat):Int) % 4294967296:=by
 show IntKind.u32.wrap (d*2 ^ (min ((k:Nat):Int).toNat 32))=_;rw[wr_32,Int.toNat_natCast,Nat.min_eq_left hk,Int.natCast_pow];rfl
theorem shr32 {d:Int} {k:Nat} (hk:k≤32):shK .shr .u32 d (k:Int)=d / ((2 ^ k:Nat):Int):=by
 show d.fdiv (2 ^ (min ((k:Nat):Int).toNat 32))=_;rw[Int.toNat_natCast,Nat.min_eq_left hk,Int.natCast_pow,Int.fdiv_eq_ediv_of_nonneg _ (by exact Int.pow_nonneg (by decide))];rfl
theorem lead_spec {m:List Int} {d:Int} (hl:m.length≤1000000000000) (hm:m.getLast?=some d) (h0:0<d) (h1:d<4294967296) :
  ∃k:Nat,k<32∧iterW (qbu m) ((0,()),())=some (((k:Int),()),())∧2147483648≤d*((2 ^ k:Nat):Int)∧d*((2 ^ k:Nat):Int)<4294967296:=by
 have hne:m≠[]:=fun e=>by rw[e] at hm;cases hm
 have hpos:0<m.length:=List.length_pos_iff.2 hne;have hat:at? m (w64 (((m.length:Nat):Int)-1))=some d:=by
  have e:w64 (((m.length:Nat):Int)-1)=((m.length-1:Nat):Int):=by rw[wi_id (by omega) (by omega)];omega
  rw[e,qp m (by omega),←hm,List.getLast?_eq_getElem?,List.getElem?_eq_getElem (by omega)]
 obtain⟨r,h2,k,rfl,h3⟩:=qg (f:=qbu m) (fun x=>∃k:Nat,x=(((k:Int),()),())∧k<32∧d*((2 ^ k:Nat):Int)<4294967296) (fun x=>32-(x.1.1).toNat)
  (fun r=>∃k:Nat,r=(((k:Int),()),())∧k<32∧2147483648≤d*((2 ^ k:Nat):Int)∧d*((2 ^ k:Nat):Int)<4294967296) (by
  rintro x ⟨k,rfl,h2,h3⟩
  have hk0:0≤d*((2 ^ k:Nat):Int):=Int.mul_nonneg (by omega) (Int.le_of_lt (qqO k));have hs:shK .shr .u32 (shK .shl .u32 d (k:Int)) 31=d*((2 ^ k:Nat):Int) / 2147483648:=by
   rw[shl32 (by omega),Int.emod_eq_of_lt hk0 h3];exact shr32 (k:=31) (by omega)
  have hreq:decide (0≤(k:Int))=true:=by simp
  by_cases hlt:d*((2 ^ k:Nat):Int)<2147483648
  ·have hz:(d*((2 ^ k:Nat):Int) / 2147483648==0)=true:=by
    rw[Int.ediv_eq_zero_of_lt hk0 hlt];rfl
   have step:qbu m (((k:Int),()),())=some (.inl ((((k+1:Nat):Int),()),())):=by
    unfold qbu;simp only[hat,Option.bind_some,hreq,qc,hs,hz,cond_true];rw[wi_id (by omega) (by omega)];rfl
   have h5:d*((2 ^ (k+1):Nat):Int)<4294967296:=by rw[p2_succ,Int.mul_left_comm];omega
   refine .inl ⟨_,step,⟨k+1,rfl,?_,h5⟩,by simp;omega⟩;refine Classical.byContradiction fun hn=>?_
   obtain rfl:k=31:=by omega
   have:1*((2 ^ (31+1):Nat):Int)≤d*((2 ^ (31+1):Nat):Int):=Int.mul_le_mul_of_nonneg_right (by omega) (by decide);have e:((2 ^ (31+1):Nat):Int)=4294967296:=rfl;omega
  ·have hz:(d*((2 ^ k:Nat):Int) / 2147483648==0)=false:=by
    have:1≤d*((2 ^ k:Nat):Int) / 2147483648:=by omega
    exact beq_eq_false_iff_ne.2 (by omega)
   have step:qbu m (((k:Int),()),())=some (.inr (((k:Int),()),())):=by
    unfold qbu;simp only[hat,Option.bind_some,hreq,qc,hs,hz,cond_false]
   exact .inr ⟨_,step,k,rfl,h2,by omega,h3⟩) ((((0:Nat):Int),()),()) ⟨0,rfl,by omega,by simpa using h1⟩
 exact⟨k,h3.1,h2,h3.2⟩
def backD (r:List Int) (k i:Nat):Int:=r.getD i 0 / ((2 ^ k:Nat):Int)+(r.getD (i+1) 0 % ((2 ^ k:Nat):Int))*((2 ^ (32-k):Nat):Int)
theorem qt9 {r out:List Int} {k:Nat} (hk:k≤32) (hl:out.length=r.length) (h:∀i,i<r.length→out.getD i 0=backD r k i):∀t,t≤r.length→val (out.drop (r.length-t))=val (r.drop (r.length-t)) / ((2 ^ k:Nat):Int)
 | 0,_=>by
  rw[Nat.sub_zero,List.drop_of_length_le (by omega),List.drop_of_length_le (Nat.le_refl _)];simp[val]
 | t+1,ht=>by
  have ih:=qt9 hk hl h t (by omega);obtain⟨i,hi⟩:∃i,i=r.length-(t+1):=⟨_,rfl⟩
  have hi1:r.length-t=i+1:=by omega
  have hir:i<r.length:=by omega
  rw[←hi];rw[hi1] at ih;rw[qco (l:=out) (i:=i) (by omega),qco hir,ih]
  have hoi:out[i]'(by omega)=backD r k i:=by rw[←h i hir,qaR (by omega)]
  rw[hoi];unfold backD;rw[qaR hir];have hK:=qqO k;have hm:=p2_mul hk;have hmod:val (r.drop (i+1)) % ((2 ^ k:Nat):Int)=r.getD (i+1) 0 % ((2 ^ k:Nat):Int):=by
   by_cases h2:i+1<r.length
   ·rw[qco h2,qaR h2,←hm,Int.mul_assoc,Int.add_mul_emod_self_left]
   ·rw[List.drop_of_length_le (by omega)]
    have:r.getD (i+1) 0=0:=by simp[show r.length≤i+1 by omega]
    rw[this];rfl
  rw[←hmod];generalize val (r.drop (i+1))=R at *
  have e1:r[i]+4294967296*R=r[i]+((2 ^ k:Nat):Int)*(((2 ^ (32-k):Nat):Int)*R):=by rw[←hm];grind
  rw[e1,Int.add_mul_ediv_left _ _ (Int.ne_of_gt hK)];have e2:=Int.emod_add_mul_ediv R ((2 ^ k:Nat):Int);generalize R / ((2 ^ k:Nat):Int)=Q at *;generalize R % ((2 ^ k:Nat):Int)=S at *;generalize r[i] / ((2 ^ k:Nat):Int)=D;subst e2;generalize ((2 ^ k:Nat):Int)=K at *;generalize ((2 ^ (32-k):Nat):Int)=C at *
  grind
theorem back_spec {r:List Int} {k:Nat} (hr:Dig r) (hl:r.length≤1000000000000) (hk:k<32):∃out,iterW (qcb r (((k:Int),()),())) ((0,()),(List.replicate r.length 0,()))=some ((),(out,()))∧Dig out∧out.length=r.length∧val out=val r / ((2 ^ k:Nat):Int):=by
 have hK:=qqO k;have hC:=qqO (32-k);have hm:=p2_mul (k:=k) (by omega);have hbd:∀i,0≤r.getD i 0∧r.getD i 0<4294967296:=fun i=>by
  by_cases h:i<r.length
  ·rw[qaR h];exact hr.get h
  ·have:r.getD i 0=0:=by simp[show r.length≤i by omega]
   rw[this];omega
 have hb:∀i,0≤backD r k i∧backD r k i<4294967296:=fun i=>by
  have h1:=hbd i;have h2:0≤r.getD i 0 / ((2 ^ k:Nat):Int):=Int.ediv_nonneg h1.1 (Int.le_of_lt hK);have h3:r.getD i 0 / ((2 ^ k:Nat):Int)<((2 ^ (32-k):Nat):Int):=Int.ediv_lt_of_lt_mul hK (by rw[Int.mul_comm,hm];exact h1.2);have h4:=Int.emod_nonneg (r.getD (i+1) 0) (Int.ne_of_gt hK);have h5:=Int.emod_lt_of_pos (r.getD (i+1) 0) hK;have h6:(r.getD (i+1) 0 % ((2 ^ k:Nat):Int)+1)*((2 ^ (32-k):Nat):Int)≤((2 ^ k:Nat):Int)*((2 ^ (32-k):Nat):Int):=Int.mul_le_mul_of_nonneg_right (by omega) (Int.le_of_lt hC);have h7:0≤(r.getD (i+1) 0 % ((2 ^ k:Nat):Int))*((2 ^ (32-k):Nat):Int):=Int.mul_nonneg h4 (Int.le_of_lt hC);rw[hm,Int.add_mul] at h6;unfold backD;omega
 obtain⟨s,h1,out,rfl,h2,h3,h4⟩:=qg (f:=qcb r (((k:Int),()),()))
  (fun x=>∃o,∃i:Nat,x=(((i:Int),()),(o,()))∧Dig o∧o.length=r.length∧i≤r.length∧∀t,t<i→o.getD t 0=backD r k t) (fun x=>r.length-(x.1.1).toNat)
  (fun q=>∃o,q=((),(o,()))∧Dig o∧o.length=r.length∧∀t,t<r.length→o.getD t 0=backD r k t) (by
  rintro x ⟨o,i,rfl,h1,h2,h3,h4⟩
  by_cases hi:i<r.length
  ·have hlt:decide ((i:Int)<((r.length:Nat):Int))=true:=by simp;omega
   have hio:i<o.length:=by omega
   have hk0:decide (0≤(k:Int))=true:=by simp
   have hdi:=hr.get hi;have e1:w64 ((i:Int)+1)=((i+1:Nat):Int):=wi_id (by omega) (by omega);obtain⟨a,ha⟩:∃a,a=r[i] / ((2 ^ k:Nat):Int):=⟨_,rfl⟩
   have ha0:0≤a:=by rw[ha];exact Int.ediv_nonneg hdi.1 (Int.le_of_lt hK)
   have ha1:a<((2 ^ (32-k):Nat):Int):=by rw[ha];exact Int.ediv_lt_of_lt_mul hK (by rw[Int.mul_comm,hm];exact hdi.2)
   have hset:i<(o.set i a).length:=by rw[List.length_set];exact hio
   have hgs:getD' (o.set i a) i 0=a:=by rw[qbt hset];simp
   obtain⟨y,hy,hyv⟩:∃y,(bif ((decide (((i+1:Nat):Int)<((r.length:Nat):Int)))&&(decide ((k:Int)>(0:Int)))) then(req (inb (i:Int) (o.set i a).length) (Option.bind (at? r ((i+1:Nat):Int)) fun d54 =>
     req (decide (0≤(w64 ((32:Int)-(k:Int))))) (req (inb (i:Int) (o.set i a).length) (Option.bind (some a) fun e55 =>
     Option.bind (some ((o.set i a).set i (ior .u32 a (shK .shl .u32 d54 (w64 ((32:Int)-(k:Int))))))) fun y56 =>
     some ((),(y56,()))))))
     else some ((),((o.set i a),())))=some (((),(y,())):Unit×(List Int×Unit))∧y=o.set i (backD r k i):=by
    by_cases h5:i+1<r.length∧0<k
    ·have hd1:=hr.get h5.1
     have c1:(decide (((i+1:Nat):Int)<((r.length:Nat):Int))&&decide ((k:Int)>(0:Int)))=true:=by simp;omega
     have c2:w64 ((32:Int)-(k:Int))=((32-k:Nat):Int):=by rw[wi_id (by omega) (by omega)];omega
     have c3:decide (0≤((32-k:Nat):Int))=true:=by simp
     refine⟨_,?_,rfl⟩;rw[c1,cond_true,qA hset,qc,qp r h5.1,Option.bind_some,c2,c3,qc,qc,Option.bind_some,Option.bind_some,List.set_set];have e3:ior .u32 a (shK .shl .u32 r[i+1] ((32-k:Nat):Int))=backD r k i:=by
      rw[shl32 (by omega)];have e4:r[i+1]*((2 ^ (32-k):Nat):Int) % 4294967296=(r[i+1] % ((2 ^ k:Nat):Int))*((2 ^ (32-k):Nat):Int):=by
       rw[←hm,Int.mul_comm r[i+1],Int.mul_comm ((2 ^ k:Nat):Int),Int.mul_emod_mul_of_pos _ _ hC,Int.mul_comm]
      rw[e4];have b1:=Int.emod_nonneg r[i+1] (Int.ne_of_gt hK);have b2:=Int.emod_lt_of_pos r[i+1] hK;unfold backD;rw[qaR hi,qaR h5.1,←ha];obtain⟨x,hx⟩:=Int.eq_ofNat_of_zero_le b1;obtain⟨z,hz⟩:=Int.eq_ofNat_of_zero_le ha0
      have hzl:z<2 ^ (32-k):=by omega
      have hxl:2 ^ (32-k)*(x+1)≤4294967296:=by
       have:(x+1)*2 ^ (32-k)≤2 ^ k*2 ^ (32-k):=Nat.mul_le_mul_right _ (by omega);rw[←Nat.pow_add,show k+(32-k)=32 by omega] at this;rw[Nat.mul_comm];exact this
      have hzl2:2 ^ (32-k)≤2 ^ 31:=Nat.pow_le_pow_right (by decide) (by omega);rw[Nat.mul_add] at hxl
      have e5:((r[i+1] % ((2 ^ k:Nat):Int))*((2 ^ (32-k):Nat):Int))=((2 ^ (32-k)*x:Nat):Int):=by rw[hx,Int.natCast_mul,Int.mul_comm]
      rw[e5,hz,ior32 (by omega) (by omega),Nat.or_comm,or_add hzl];omega
     rw[e3]
    ·have c1:(decide (((i+1:Nat):Int)<((r.length:Nat):Int))&&decide ((k:Int)>(0:Int)))=false:=by
      rw[Bool.and_eq_false_iff];by_cases h6:i+1<r.length
      ·right;simp;omega
      ·left;simp;omega
     refine⟨_,by rw[c1,cond_false],?_⟩;have e3:backD r k i=a:=by
      unfold backD;rw[qaR hi,←ha];by_cases h6:i+1<r.length
      ·have h7:k=0:=by omega
       subst h7;simp[Int.emod_one]
      ·have:r.getD (i+1) 0=0:=by simp[show r.length≤i+1 by omega]
       rw[this];simp
     rw[e3]
   have step:qcb r (((k:Int),()),()) (((i:Int),()),(o,()))=some (.inl ((((i+1:Nat):Int),()),(y,()))):=by
    unfold qcb;simp only[hlt,cond_true,qp r hi,Option.bind_some,hk0,qc,qA hio,Int.toNat_natCast,shr32 (d:=r[i]) (k:=k) (by omega),←ha,hgs,e1];simp only[Option.bind_some] at hy;simp only[hy,Option.bind_some]
   subst hyv;refine .inl ⟨_,step,⟨_,i+1,rfl,h1.set _ (hb i).1 (hb i).2,by rw[List.length_set];exact h2,hi,fun t ht=>?_⟩,by simp;omega⟩;by_cases e:t=i
   ·subst e;rw[qaR (by rw[List.length_set];exact hio)];simp
   ·rw[getD_set_ne e];exact h4 t (by omega)
  ·have hlt:decide ((i:Int)<((r.length:Nat):Int))=false:=by simp;omega
   exact .inr ⟨_,by unfold qcb;simp only[hlt,cond_false],o,rfl,h1,h2,fun t ht=>h4 t (by omega)⟩) ((((0:Nat):Int),()),(List.replicate r.length 0,())) ⟨_,0,rfl,Dig.zero _,by simp,Nat.zero_le _,fun t ht=>absurd ht (Nat.not_lt_zero _)⟩
 refine⟨out,h1,h2,h3,?_⟩;have:=qt9 (k:=k) (by omega) h3 h4 r.length (Nat.le_refl _);simpa using this
theorem qvu {n:List Int} (hl:n.length≤1000000000000):qbf n=some n:=by
 unfold qbf;have hr:room (([]:List Int).length+n.length) 4=true:=room4 (by simp;omega);rw[hr,qc,List.nil_append]
 cases n with
 | nil=>simp[agree]
 | cons d r=>rfl
theorem qg4 {n m:List Int} {x y:Int} (hn:Rp n x) (hm:Rp m y) (hnl:n.length≤100000000000) (hml:m.length≤100000000000) (hy:y≠0):∃q r,qci n m=some (q,r,())∧Rp q (x / y)∧Rp r (x % y):=by
 have hx0:=hn.nonneg;have hy0:=hm.nonneg;obtain⟨cr,hc,hc1,hc2,hc3⟩:=quz hn hm (by omega) (by omega);unfold qci;rw[hc,Option.bind_some];by_cases hlt:x<y
 ·rw[hc1 hlt];rw[show decide ((-1:Int)<0)=true by rfl,cond_true,qvu (by omega)];refine⟨[],n,rfl,?_,?_⟩
  ·rw[Int.ediv_eq_zero_of_lt hx0 hlt];exact Rp.nil
  ·rw[Int.emod_eq_of_lt hx0 hlt];exact hn
 have hcr:decide (cr<0)=false:=by
  by_cases h:x=y
  ·rw[hc2 h];rfl
  ·rw[hc3 (by omega)];rfl
 rw[hcr,cond_false];have hmne:=hm.ne hy;by_cases hm1:m.length=1
 ·obtain⟨d,rfl⟩:∃d,m=[d]:=by
   cases m with
   | nil=>cases hm1
   | cons d r=>cases r with
    | nil=>exact⟨d,rfl⟩
    | cons _ _=>simp at hm1
  have hd:=hm.dig.head;have hdy:d+4294967296*0=y:=hm.val
  have hdy:d=y:=by omega
  subst hdy;obtain⟨q,r,h1,h2,h3,h4⟩:=qiS hn.dig (by omega) (x:=d) (by omega);have hr0:=Int.emod_nonneg (val n) hy;have hr1:=Int.emod_lt_of_pos (val n) (show 0<d by omega);obtain⟨rl,h5,h6,_⟩:=qg7 (x:=r) (by omega) (by omega);refine⟨q,rl,?_,hn.val▸h2,?_⟩
  ·have e:((([d]:List Int).length:Nat):Int)==1:=rfl;rw[e,cond_true];have e2:at? [d] 0=some d:=rfl;rw[e2,Option.bind_some,h1,Option.bind_some];simp only;rw[wu_id (by omega) (by omega),h5];rfl
  ·rw[h3,hn.val] at h6;exact h6
 have hm2:2≤m.length:=by
  have:0<m.length:=List.length_pos_iff.2 hmne;omega
 have hne1:(((m.length:Nat):Int)==1)=false:=by simp;omega
 rw[hne1,cond_false];obtain⟨s,hs⟩:∃s,s=m.length:=⟨_,rfl⟩
 have hsl:s-1<m.length:=by omega
 obtain⟨d,hd⟩:∃d,d=m[s-1]:=⟨_,rfl⟩;have hlast:m.getLast?=some d:=by
  have h0:m[s-1]?=some d:=by rw[List.getElem?_eq_getElem hsl,hd]
  rw[List.getLast?_eq_getElem?,←hs];exact h0
 have hdr:=hm.dig.get hsl;rw[←hd] at hdr;have hd0:d≠0:=hm.nz d hlast;obtain⟨k,hk,l1,l2,l3⟩:=lead_spec (by omega) hlast (by omega) hdr.2;have hK:=qqO k;obtain⟨K,hKe⟩:∃K,K=((2 ^ k:Nat):Int):=⟨_,rfl⟩;obtain⟨u0,s1,s2,s3,s4⟩:=qpe hn.dig (by omega) hk;obtain⟨v0,t1,t2,t3,t4⟩:=qpe hm.dig (by omega) hk;obtain⟨v,n1,n2,n3⟩:=qbN t2 (by omega);rw[hn.val,←hKe] at s4;rw[t4,hm.val,←hKe] at n2;rw[←hKe] at l2 l3 hK;have hyd:y=val (m.take (s-1))+pw (s-1)*d:=by
  have:=qan hsl;rw[show s-1+1=s by omega,List.take_of_length_le (by omega),hm.val] at this;rw[this,hd]
 have htl:=qb9 (hm.dig.take (s-1));rw[List.length_take,Nat.min_eq_left (by omega)] at htl;have hps:pw s=4294967296*pw (s-1):=by
  have:s=(s-1)+1:=by omega
  rw[this];rfl
 have hpp:=qdL (s-1);have hVlow:2147483648*pw (s-1)≤y*K:=by
  have h1:2147483648*pw (s-1)≤d*K*pw (s-1):=Int.mul_le_mul_of_nonneg_right l2 (by omega);have h2:0≤val (m.take (s-1))*K:=Int.mul_nonneg htl.1 (by omega)
  have e:y*K=val (m.take (s-1))*K+d*K*pw (s-1):=by rw[hyd];grind
  omega
 have hdK:(d+1)*K≤4294967296:=by
  have hm':=p2_mul (k:=k) (by omega);rw[←hKe] at hm';have h1:d<((2 ^ (32-k):Nat):Int):=by
   refine Classical.byContradiction fun hn=>?_;have:((2 ^ (32-k):Nat):Int)*K≤d*K:=Int.mul_le_mul_of_nonneg_right (by omega) (by omega);rw[Int.mul_comm,hm'] at this;omega
  have:(d+1)*K≤((2 ^ (32-k):Nat):Int)*K:=Int.mul_le_mul_of_nonneg_right (by omega) (by omega)
  rwa [Int.mul_comm ((2 ^ (32-k):Nat):Int),hm'] at this
 have hVhigh:y*K<pw s:=by
  have h1:(d+1)*K*pw (s-1)≤4294967296*pw (s-1):=Int.mul_le_mul_of_nonneg_right hdK (by omega);have h2:val (m.take (s-1))*K<pw (s-1)*K:=Int.mul_lt_mul_of_pos_right htl.2 hK
  have e:y*K=val (m.take (s-1))*K+d*K*pw (s-1):=by rw[hyd];grind
  have e2:(d+1)*K*pw (s-1)=d*K*pw (s-1)+pw (s-1)*K:=by grind
  omega
 have hvl:v.length=s:=by
  have h1:=n2.len hVhigh;refine Classical.byContradiction fun hne=>?_;have h2:=n2.lt;have h3:pw v.length≤pw (s-1):=qkB (by omega);omega
 have hvtop:2147483648≤v[s-1]'(by omega):=by
  have h1:=qan (l:=v) (i:=s-1) (by omega);rw[show s-1+1=s by omega,List.take_of_length_le (by omega),n2.val] at h1;have h2:=qb9 (n2.dig.take (s-1));rw[List.length_take,Nat.min_eq_left (by omega)] at h2;refine Classical.byContradiction fun hn=>?_;have h3:pw (s-1)*(v[s-1]'(by omega)+1)≤pw (s-1)*2147483648:=Int.mul_le_mul_of_nonneg_left (by omega) (by omega);rw[Int.mul_add] at h3;omega
 have hnm:s≤n.length:=by
  refine Classical.byContradiction fun hn'=>?_;have h1:=hn.lt;have h2:=hm.low hmne;have h3:pw (n.length+1)≤pw m.length:=qkB (by omega);have h4:4294967296*pw n.length≤pw m.length:=h3;omega
 obtain⟨t,ht⟩:∃t,t+s=u0.length:=⟨u0.length-s,by omega⟩;have hlow:val (u0.drop t)<val v:=by
  have h1:=qeG (l:=u0) (j:=t) (by omega);have h2:=(qb9 (s2.take t)).1;have h3:=hn.lt
  have h4:pw n.length=pw t*pw (s-1):=by rw[←qhJ];congr 1;omega
  have h5:=hm.low hmne;rw[←hs,hps] at h5;rw[n2.val];have h6:x*K<pw t*pw (s-1)*K:=Int.mul_lt_mul_of_pos_right (by rw[←h4];exact h3) hK;have h7:pw (s-1)*K≤y*K:=Int.mul_le_mul_of_nonneg_right (by omega) (by omega);refine Classical.byContradiction fun hn'=>?_;have h8:pw t*(pw (s-1)*K)≤pw t*val (u0.drop t):=Int.mul_le_mul_of_nonneg_left (by omega) (Int.le_of_lt (qdL t));rw[←Int.mul_assoc] at h8;omega
 obtain⟨u,q,d1,d2,d3,d4,d5,d6,d7⟩:=div_loop n2.dig hvl (by omega) hvtop s2 ht (by omega) hlow;rw[s4,n2.val] at d6;rw[n2.val] at d7
 have hul:s≤u.length:=by omega
 have hus:val (u.take s)=val u:=by
  have h1:=qeG (l:=u) (j:=s) hul;have h2:=qb9 (d2.take s);have h3:=qb9 (d2.drop s);rcases Int.lt_or_eq_of_le h3.1 with h4 | h4
  ·have h5:pw s*1≤pw s*val (u.drop s):=Int.mul_le_mul_of_nonneg_left (by omega) (Int.le_of_lt (qdL s));omega
  ·rw[←h4,Int.mul_zero,Int.add_zero] at h1;exact h1.symm
 obtain⟨r9,e1,e2,e3⟩:=qbN (d2.take s) (by rw[List.length_take];omega);rw[hus] at e2
 have hr9:r9.length≤s:=by rw[List.length_take] at e3;omega
 obtain⟨o,f1,f2,f3,f4⟩:=back_spec e2.dig (by omega) hk;rw[e2.val,←hKe] at f4;obtain⟨q9,g1,g2,g3⟩:=qbN d4 (by omega);obtain⟨o9,h1,h2,h3⟩:=qbN f2 (by omega);have hu0:=(qb9 d2).1;have hq0:=(qb9 d4).1;have hval:val u=K*(x-val q*y):=by
  have:val q*(y*K)=K*(val q*y):=by grind
  rw[Int.mul_sub,Int.mul_comm K x];omega
 have hR:val u / K=x-val q*y:=by rw[hval];exact Int.mul_ediv_cancel_left _ (Int.ne_of_gt hK)
 have hR0:0≤x-val q*y:=by rw[←hR];exact Int.ediv_nonneg hu0 (by omega)
 have hR1:x-val q*y<y:=by
  refine Classical.byContradiction fun hn'=>?_;have:K*y≤K*(x-val q*y):=Int.mul_le_mul_of_nonneg_left (by omega) (by omega);rw[Int.mul_comm K y] at this;omega
 have hQ:x / y=val q:=by
  have e:x=(x-val q*y)+val q*y:=by omega
  rw[e,Int.add_mul_ediv_right _ _ hy,Int.ediv_eq_zero_of_lt hR0 hR1,Int.zero_add]
 have hM:x % y=x-val q*y:=by
  rw[Int.emod_def,hQ,Int.mul_comm]
 refine⟨q9,o9,?_,by rw[hQ];exact g2,by rw[hM,←hR,←f4];exact h2⟩;rw[l1,Option.bind_some];simp only;rw[s1,Option.bind_some,t1,Option.bind_some,n1,Option.bind_some]
 have ew:w64 (((u0.length:Nat):Int)-((v.length:Nat):Int))=((t:Nat):Int):=by rw[wi_id (by omega) (by omega)];omega
 have ew2:w64 (((t:Nat):Int)-1)=((t:Nat):Int)-1:=wi_id (by omega) (by omega);have hr1:(decide (0≤((t:Nat):Int))&&(((t:Nat):Int)==((t:Nat):Int)&&room (((t:Nat):Int)).toNat 4))=true:=by
  rw[Int.toNat_natCast,room4 (by omega),beq_self_eq_true,Bool.and_true,Bool.and_true,decide_eq_true_eq];omega
 rw[ew,hr1,qc,ew2,Int.toNat_natCast,d1,Option.bind_some];simp only
 have hb:qh 0 ((v.length:Nat):Int) u.length=true:=by simp[qh];omega
 rw[hb,qc,Int.toNat_natCast,hvl,List.drop_zero,e1,Option.bind_some];have hr2:(decide (0≤((r9.length:Nat):Int))&&(((r9.length:Nat):Int)==((r9.length:Nat):Int)&&room (((r9.length:Nat):Int)).toNat 4))=true:=by
  rw[Int.toNat_natCast,room4 (by omega),beq_self_eq_true,Bool.and_true,Bool.and_true,decide_eq_true_eq];omega
 rw[hr2,qc,Int.toNat_natCast,f1,Option.bind_some];simp only;rw[g1,Option.bind_some,h1,Option.bind_some]
theorem qpy {n m:List Int} {x y:Int} (hn:Rp n x) (hm:Rp m y) (hnl:n.length≤100000000000) (hml:m.length≤100000000000):∃r,qeV n m=some r∧Rp r ((Int.gcd x y:Nat):Int):=by
 obtain⟨s,h1,r,rfl,h2⟩:=qg (f:=qdc)
  (fun s=>∃n' m' x' y',s=((n',m',()),())∧Rp n' x'∧Rp m' y'∧n'.length≤100000000000∧m'.length≤100000000000∧Int.gcd x' y'=Int.gcd x y) (fun s=>(val s.1.2.1).toNat)
  (fun r=>∃l,r=((l,()),())∧Rp l ((Int.gcd x y:Nat):Int)) (by
  rintro s ⟨n',m',x',y',rfl,h1,h2,h3,h4,h5⟩
  have hx0:=h1.nonneg;have hy0:=h2.nonneg;by_cases hm0:m'=[]
  ·subst hm0;have:y'=0:=h2.val.symm;subst this;refine .inr ⟨_,by unfold qdc;rfl,n',rfl,?_⟩;rw[←h5,Int.gcd_zero_right];have:((x'.natAbs:Nat):Int)=x':=Int.natAbs_of_nonneg hx0;rw[this];exact h1
  ·have hpos:=h2.pos hm0;obtain⟨q,r,k1,k2,k3⟩:=qg4 h1 h2 h3 h4 (by omega);have hr1:=Int.emod_lt_of_pos x' hpos;have hgt:decide ((((m'.length:Nat):Int))>0)=true:=by
    have:0<m'.length:=List.length_pos_iff.2 hm0;simp;omega
   have step:qdc ((n',m',()),())=some (.inl ((m',r,()),())):=by
    unfold qdc;simp only[hgt,cond_true,k1,Option.bind_some]
   refine .inl ⟨_,step,⟨m',r,y',x' % y',rfl,h2,k3,h4,?_,?_⟩,?_⟩
   ·exact Nat.le_trans (k3.len (Int.lt_trans hr1 h2.lt)) h4
   ·rw[←h5];obtain⟨a,rfl⟩:=Int.eq_ofNat_of_zero_le hx0;obtain⟨b,rfl⟩:=Int.eq_ofNat_of_zero_le hy0;rw[←Int.natCast_emod];show Nat.gcd b (a % b)=Nat.gcd a b;rw[Nat.gcd_comm,←Nat.gcd_rec,Nat.gcd_comm]
   ·show(val r).toNat<(val m').toNat;rw[k3.val,h2.val]
    omega) ((n,m,()),()) ⟨n,m,x,y,rfl,hn,hm,hnl,hml,rfl⟩
 refine⟨r,?_,h2⟩;unfold qeV;rw[h1];rfl
end Lvl
namespace Lvl
set_option linter.unusedVariables false
set_option linter.unusedSimpArgs false

abbrev BI:Type:=Bool×(List Int)×Unit
abbrev BQ:Type:=BI×(List Int)×Unit
def Sz (x:Int) (L:Nat):Prop:=((x.natAbs:Nat):Int)<pw L
theorem Sz.mono {x:Int} {L M:Nat} (h:Sz x L) (hl:L≤M):Sz x M:=Int.lt_of_lt_of_le h (qkB hl)
theorem Sz.le {x y:Int} {L:Nat} (h:Sz y L) (hl:x.natAbs≤y.natAbs):Sz x L:=by
 unfold Sz at *;omega
theorem Sz.mul {x y:Int} {L M:Nat} (h:Sz x L) (h':Sz y M):Sz (x*y) (L+M):=by
 unfold Sz at *;rw[Int.natAbs_mul,Int.natCast_mul,qhJ];have hp:=qdL M;have e1:(x.natAbs:Int)*(y.natAbs:Int)≤(x.natAbs:Int)*pw M:=Int.mul_le_mul_of_nonneg_left (Int.le_of_lt h') (by omega);have e2:(x.natAbs:Int)*pw M<pw L*pw M:=Int.mul_lt_mul_of_pos_right h hp;omega
theorem Sz.add {x y:Int} {L:Nat} (h:Sz x L) (h':Sz y L):Sz (x+y) (L+1):=by
 unfold Sz at *;show _<4294967296*pw L;omega
theorem Sz.neg {x:Int} {L:Nat} (h:Sz x L):Sz (-x) L:=by
 unfold Sz at *;omega
theorem Sz.sub {x y:Int} {L:Nat} (h:Sz x L) (h':Sz y L):Sz (x-y) (L+1):=by
 rw[Int.sub_eq_add_neg];exact h.add h'.neg
theorem Sz.small {x:Int} (h:x.natAbs<4294967296):Sz x 1:=by
 unfold Sz;show _<4294967296*(1:Int);omega
structure Ri (a:BI) (x:Int):Prop where
 abs:Rp a.2.1 ((x.natAbs:Nat):Int)
 neg:a.1=decide (x<0)
theorem Ri.len {a:BI} {x:Int} (h:Ri a x) {L:Nat} (hs:Sz x L):a.2.1.length≤L:=h.abs.len hs
theorem Ri.inj {a b:BI} {x:Int} (h:Ri a x) (h':Ri b x):a=b:=by
 obtain⟨n,l,⟨⟩⟩:=a;obtain⟨n',l',⟨⟩⟩:=b;have e1:n=decide (x<0):=h.neg;have e2:n'=decide (x<0):=h'.neg;have e3:l=l':=h.abs.inj h'.abs;rw[e1,e2,e3]
theorem qfy {l:List Int} {x:Int} {b:Bool} (h:Rp l ((x.natAbs:Nat):Int)) (hb:x≠0→b=decide (x<0)):Ri (qaa b l) x:=by
 refine⟨h,?_⟩;show(b&&decide (((l.length:Nat):Int)>0))=_;by_cases hx:x=0
 ·subst hx;have:l=[]:=Rp.zero h;rw[this]
  cases b<;>rfl
 ·have hl:l≠[]:=h.ne (by omega);have:0<l.length:=List.length_pos_iff.2 hl;rw[decide_eq_true (by omega:((l.length:Nat):Int)>0),Bool.and_true,hb hx]
theorem qjr {l:List Int} {x:Int} (h:Rp l x):Ri (false,(l,())) x:=by
 have h0:=h.nonneg;refine⟨?_,(decide_eq_false (by omega)).symm⟩;rw[Int.natAbs_of_nonneg h0];exact h
theorem qqC {a:BI} {x:Int} (h:Ri a x):Ri (a.1,(a.2.1,())) x:=h
theorem ri_zero:Ri (false,([],())) 0:=qjr Rp.nil
theorem qgN {a:BI} {x:Int} (h:Ri a x):qS a=x.sign:=by
 unfold qS;by_cases hx:x=0
 ·subst hx;rw[Rp.zero h.abs];rfl
 ·have hl:a.2.1≠[]:=h.abs.ne (by omega);have:0<a.2.1.length:=List.length_pos_iff.2 hl;have e:(((a.2.1.length:Nat):Int)==0)=false:=beq_eq_false_iff_ne.2 (by omega);rw[e,cond_false,h.neg];by_cases h1:x<0
  ·rw[decide_eq_true h1,cond_true,Int.sign_eq_neg_one_of_neg h1]
  ·rw[decide_eq_false h1,cond_false,Int.sign_eq_one_of_pos (by omega)]
theorem opp_ri {a:BI} {x:Int} (h:Ri a x):Ri (qbq a) (-x):=by
 refine qfy (by rw[Int.natAbs_neg];exact h.abs) fun hx=>?_;rw[h.neg];by_cases h1:x<0
 ·rw[decide_eq_true h1,decide_eq_false (by omega)];rfl
 ·rw[decide_eq_false h1,decide_eq_true (by omega)];rfl
theorem qam {a b:BI} {x y:Int} (ha:Ri a x) (hb:Ri b y) {L M:Nat} (hx:Sz x L) (hy:Sz y M) (hL:L≤10000000000) (hM:M≤10000000000):∃c,qo a b=some c∧Ri c (x*y):=by
 have h1:=ha.len hx;have h2:=hb.len hy;obtain⟨r,h3,h4,_⟩:=qlQ ha.abs.dig hb.abs.dig (by omega) (by omega);refine⟨qaa (!(a.1==b.1)) r,?_,qfy ?_ fun hne=>?_⟩
 ·unfold qo;rw[h3];rfl
 ·rw[ha.abs.val,hb.abs.val] at h4;rw[Int.natAbs_mul,Int.natCast_mul];exact h4
 ·rw[ha.neg,hb.neg];have hx0:x≠0:=fun e=>hne (by rw[e,Int.zero_mul]);have hy0:y≠0:=fun e=>hne (by rw[e,Int.mul_zero]);by_cases g1:x<0
  ·by_cases g2:y<0
   ·have:=Int.mul_pos_of_neg_of_neg g1 g2;rw[decide_eq_true g1,decide_eq_true g2,decide_eq_false (by omega)];rfl
   ·have:=Int.mul_neg_of_neg_of_pos g1 (show 0<y by omega);rw[decide_eq_true g1,decide_eq_false g2,decide_eq_true this];rfl
  ·by_cases g2:y<0
   ·have:=Int.mul_neg_of_pos_of_neg (show 0<x by omega) g2;rw[decide_eq_false g1,decide_eq_true g2,decide_eq_true this];rfl
   ·have:=Int.mul_pos (show 0<x by omega) (show 0<y by omega);rw[decide_eq_false g1,decide_eq_false g2,decide_eq_false (by omega)];rfl
theorem qr5 {a b:BI} {x y:Int} (ha:Ri a x) (hb:Ri b y) {L:Nat} (hx:Sz x L) (hy:Sz y L) (hL:L≤10000000000):∃c,qeF a b=some c∧Ri c (x+y):=by
 have h1:=ha.len hx;have h2:=hb.len hy;unfold qeF;by_cases hs:decide (x<0)=decide (y<0)
 ·rw[ha.neg,hb.neg,hs,beq_self_eq_true,cond_true];obtain⟨r,h3,h4,_⟩:=add_spec ha.abs.dig hb.abs.dig (L:=L) (by omega) h1 h2;rw[ha.abs.val,hb.abs.val] at h4
  have hs':x<0↔y<0:=by simpa using hs
  rw[h3,Option.bind_some];refine⟨_,rfl,qfy ?_ fun hne=>?_⟩
  ·have:(((x+y).natAbs:Nat):Int)=(x.natAbs:Int)+(y.natAbs:Int):=by omega
   rw[this];exact h4
  ·by_cases g:y<0
   ·have:=hs'.2 g;rw[decide_eq_true g,decide_eq_true (by omega)]
   ·have:¬x<0:=fun h=>g (hs'.1 h);rw[decide_eq_false g,decide_eq_false (by omega)]
 ·have hne:(a.1==b.1)=false:=by rw[ha.neg,hb.neg];exact beq_eq_false_iff_ne.2 hs
  rw[hne,cond_false]
  have hs':¬(x<0↔y<0):=by simpa using hs
  obtain⟨r,h3,h4,h5,h6⟩:=quz ha.abs hb.abs (by omega) (by omega);rw[h3,Option.bind_some];by_cases hlt:x.natAbs<y.natAbs
  ·have hr:decide (r≥0)=false:=by rw[h4 (by omega)];rfl
   have hlen:a.2.1.length≤b.2.1.length:=ha.abs.len (Int.lt_trans (by omega) hb.abs.lt);obtain⟨z,g1,g2,_⟩:=qtV hb.abs.dig ha.abs.dig (by omega) hlen (by rw[ha.abs.val,hb.abs.val];omega);rw[ha.abs.val,hb.abs.val] at g2;rw[hr,cond_false,g1,Option.bind_some];refine⟨_,rfl,qfy ?_ fun hne=>?_⟩
   ·have:(((x+y).natAbs:Nat):Int)=(y.natAbs:Int)-(x.natAbs:Int):=by
     by_cases g:x<0
     ·have:¬y<0:=fun h=>hs' ⟨fun _=>h,fun _=>g⟩;omega
     ·have:y<0:=Classical.byContradiction fun h=>hs' ⟨fun h'=>absurd h' g,fun h'=>absurd h' h⟩;omega
    rw[this];exact g2
   ·rw[hb.neg];by_cases g:y<0
    ·rw[decide_eq_true g,decide_eq_true (by omega)]
    ·rw[decide_eq_false g,decide_eq_false (by omega)]
  ·have hr:decide (r≥0)=true:=by
    by_cases he:x.natAbs=y.natAbs
    ·rw[h5 (by omega)];rfl
    ·rw[h6 (by omega)];rfl
   have hlen:b.2.1.length≤a.2.1.length:=hb.abs.len (Int.lt_of_le_of_lt (by omega) ha.abs.lt);obtain⟨z,g1,g2,_⟩:=qtV ha.abs.dig hb.abs.dig (by omega) hlen (by rw[ha.abs.val,hb.abs.val];omega);rw[ha.abs.val,hb.abs.val] at g2;rw[hr,cond_true,g1,Option.bind_some];refine⟨_,rfl,qfy ?_ fun hne=>?_⟩
   ·have:(((x+y).natAbs:Nat):Int)=(x.natAbs:Int)-(y.natAbs:Int):=by
     by_cases g:x<0
     ·have:¬y<0:=fun h=>hs' ⟨fun _=>h,fun _=>g⟩;omega
     ·have:y<0:=Classical.byContradiction fun h=>hs' ⟨fun h'=>absurd h' g,fun h'=>absurd h' h⟩;omega
    rw[this];exact g2
   ·rw[ha.neg];by_cases g:x<0
    ·have:¬y<0:=fun h=>hs' ⟨fun _=>h,fun _=>g⟩;rw[decide_eq_true g,decide_eq_true (by omega)]
    ·rw[decide_eq_false g,decide_eq_false (by omega)]
theorem qq5 {a b:BI} {x y:Int} (ha:Ri a x) (hb:Ri b y) {L:Nat} (hx:Sz x L) (hy:Sz y L) (hL:L≤10000000000):∃c,qge a b=some c∧Ri c (x-y):=by
 obtain⟨c,h1,h2⟩:=qr5 ha (opp_ri hb) hx hy.neg hL;refine⟨c,?_,h2⟩;unfold qge;rw[h1];rfl
theorem qrN {a b:BI} {x y:Int} (ha:Ri a x) (hb:Ri b y) {L:Nat} (hx:Sz x L) (hy:Sz y L) (hL:L≤10000000000):qgM a b=some (x-y).sign:=by
 obtain⟨c,h1,h2⟩:=qq5 ha hb hx hy hL;unfold qgM;rw[h1,Option.bind_some,qgN h2]
theorem qtu {x y:Int} (h:y ∣ x) (hy:y≠0):(((x / y).natAbs:Nat):Int)=((x.natAbs:Nat):Int) / ((y.natAbs:Nat):Int):=by
 obtain⟨z,rfl⟩:=h;rw[Int.mul_ediv_cancel_left _ hy,Int.natAbs_mul,Int.natCast_mul,Int.mul_ediv_cancel_left _ (by omega)]
theorem qtz {a b:BI} {x y:Int} (ha:Ri a x) (hb:Ri b y) {L M:Nat} (hx:Sz x L) (hy:Sz y M) (hL:L≤10000000000) (hM:M≤10000000000) (hd:y ∣ x) (hy0:y≠0):∃c,qfF a b=some c∧Ri c (x / y):=by
 have h1:=ha.len hx;have h2:=hb.len hy;obtain⟨q,r,h3,h4,_⟩:=qg4 ha.abs hb.abs (by omega) (by omega) (by omega);refine⟨qaa (!(a.1==b.1)) q,?_,qfy ?_ fun hne=>?_⟩
 ·unfold qfF;rw[h3];rfl
 ·rw[qtu hd hy0];exact h4
 ·rw[ha.neg,hb.neg];obtain⟨z,rfl⟩:=hd;rw[Int.mul_ediv_cancel_left _ hy0] at hne ⊢;by_cases g1:z<0
  ·by_cases g2:y<0
   ·have:=Int.mul_pos_of_neg_of_neg g2 g1;rw[decide_eq_true g1,decide_eq_true g2,decide_eq_false (by omega)];rfl
   ·have:=Int.mul_neg_of_pos_of_neg (show 0<y by omega) g1;rw[decide_eq_true g1,decide_eq_false g2,decide_eq_true this];rfl
  ·by_cases g2:y<0
   ·have:=Int.mul_neg_of_neg_of_pos g2 (show 0<z by omega);rw[decide_eq_false g1,decide_eq_true g2,decide_eq_true this];rfl
   ·have:=Int.mul_pos (show 0<y by omega) (show 0<z by omega);rw[decide_eq_false g1,decide_eq_false g2,decide_eq_false (by omega)];rfl
structure Fq (q:BQ) (a b:Int):Prop where
 num:Ri q.1 a
 den:Rp q.2.1 b
 pos:0<b
theorem Fq.denI' {q:BQ} {a b:Int} (h:Fq q a b):Ri (false,q.2) b:=qjr h.den
theorem qiG {n d:BI} {x y:Int} (hn:Ri n x) (hd:Ri d y) {L M:Nat} (hx:Sz x L) (hy:Sz y M) (hL:L≤10000000000) (hM:M≤10000000000) (hy0:y≠0) :
  ∃q a b,qZ n d=some q∧Fq q a b∧a*y=x*b∧a.natAbs≤x.natAbs∧b.natAbs≤y.natAbs:=by
 have h1:=hn.len hx;have h2:=hd.len hy;obtain⟨g,k1,k2⟩:=qpy hn.abs hd.abs (by omega) (by omega);have hgl:g.length≤M:=by
  refine k2.len (Int.lt_of_le_of_lt ?_ hy)
  have:Int.gcd (x.natAbs:Int) (y.natAbs:Int)≤y.natAbs:=Nat.le_of_dvd (by omega) (by
   show Nat.gcd x.natAbs y.natAbs ∣ y.natAbs
   exact Nat.gcd_dvd_right _ _)
  omega
 obtain⟨G,hG⟩:∃G,G=Nat.gcd x.natAbs y.natAbs:=⟨_,rfl⟩
 have hGe:Int.gcd (x.natAbs:Int) (y.natAbs:Int)=G:=by rw[hG];rfl
 have hG0:0<G:=by rw[hG];exact Nat.gcd_pos_of_pos_right _ (by omega)
 rw[hGe] at k2;obtain⟨q1,r1,k3,k4,_⟩:=qg4 hn.abs k2 (by omega) (by omega) (by omega);obtain⟨q2,r2,k5,k6,_⟩:=qg4 hd.abs k2 (by omega) (by omega) (by omega)
 obtain⟨u,hu⟩:G ∣ x.natAbs:=by rw[hG];exact Nat.gcd_dvd_left _ _
 obtain⟨v,hv⟩:G ∣ y.natAbs:=by rw[hG];exact Nat.gcd_dvd_right _ _
 have eu:((x.natAbs:Nat):Int) / (G:Int)=(u:Int):=by rw[hu,Int.natCast_mul];exact Int.mul_ediv_cancel_left _ (by omega)
 have ev:((y.natAbs:Nat):Int) / (G:Int)=(v:Int):=by rw[hv,Int.natCast_mul];exact Int.mul_ediv_cancel_left _ (by omega)
 rw[eu] at k4;rw[ev] at k6
 have hv0:0<v:=Nat.pos_of_ne_zero fun e=>by rw[e,Nat.mul_zero] at hv;omega
 have hux:u≤x.natAbs:=by rw[hu];exact Nat.le_mul_of_pos_left _ hG0
 have hvy:v≤y.natAbs:=by rw[hv];exact Nat.le_mul_of_pos_left _ hG0
 have hu0:u=0→x=0:=fun e=>by rw[e,Nat.mul_zero] at hu;omega
 obtain⟨A,hA⟩:∃A:Int,A=if decide (x<0)=decide (y<0) then(u:Int) else -(u:Int):=⟨_,rfl⟩
 have hAabs:A.natAbs=u:=by rw[hA];split<;>omega
 refine⟨(qaa (!(n.1==d.1)) q1,(q2,())),A,v,?_,⟨qfy (by rw[hAabs];exact k4) fun hne=>?_,k6,by omega⟩,?_,by omega,by omega⟩
 ·unfold qZ;rw[k1,Option.bind_some,k3,Option.bind_some,k5,Option.bind_some]
 ·rw[hn.neg,hd.neg];rw[hA] at hne ⊢;by_cases hs:decide (x<0)=decide (y<0)
  ·rw[if_pos hs] at hne ⊢;rw[hs,beq_self_eq_true,decide_eq_false (by omega)];rfl
  ·rw[if_neg hs] at hne ⊢;rw[beq_eq_false_iff_ne.2 hs,decide_eq_true (by omega)];rfl
 ·have ex:x=(if x<0 then -1 else 1)*((G:Int)*u):=by
   have:((x.natAbs:Nat):Int)=(G:Int)*u:=by rw[hu,Int.natCast_mul]
   split<;>omega
  have ey:y=(if y<0 then -1 else 1)*((G:Int)*v):=by
   have:((y.natAbs:Nat):Int)=(G:Int)*v:=by rw[hv,Int.natCast_mul]
   split<;>omega
  rw[hA];by_cases g1:x<0
  ·by_cases g2:y<0
   ·rw[if_pos (by simp[g1,g2])];rw[if_pos g1] at ex;rw[if_pos g2] at ey;rw[ex,ey]
    grind
   ·rw[if_neg (by simp[g1,g2])];rw[if_pos g1] at ex;rw[if_neg g2] at ey;rw[ex,ey]
    grind
  ·by_cases g2:y<0
   ·rw[if_neg (by simp[g1,g2])];rw[if_neg g1] at ex;rw[if_pos g2] at ey;rw[ex,ey]
    grind
   ·rw[if_pos (by simp[g1,g2])];rw[if_neg g1] at ex;rw[if_neg g2] at ey;rw[ex,ey]
    grind
end Lvl
namespace Lvl
set_option linter.unusedVariables false
set_option linter.unusedSimpArgs false

theorem qo2 {q:BQ} {a b:Int} (h:Fq q a b):Fq ((q.1.1,(q.1.2.1,())),(q.2.1,())) a b:=⟨h.num,h.den,h.pos⟩
theorem ql9 {q r:BQ} {a b c d:Int} (hq:Fq q a b) (hr:Fq r c d) {L:Nat} (ha:Sz a L) (hb:Sz b L) (hc:Sz c L) (hd:Sz d L) (hL:L≤1000000000) :
  ∃s e f,qie q r=some s∧Fq s e f∧e*(b*d)=(a*d+c*b)*f∧Sz e (L+L+1)∧Sz f (L+L):=by
 obtain⟨x,h1,h2⟩:=qam hq.num hr.denI' ha hd (by omega) (by omega);obtain⟨y,h3,h4⟩:=qam hr.num hq.denI' hc hb (by omega) (by omega);obtain⟨z,h5,h6⟩:=qr5 h2 h4 (ha.mul hd) (hc.mul hb) (by omega);have l1:=hq.den.len (k:=L) (by have:=hb;unfold Sz at this;have:=hq.pos;omega);have l2:=hr.den.len (k:=L) (by have:=hd;unfold Sz at this;have:=hr.pos;omega);obtain⟨w,h7,h8,_⟩:=qlQ hq.den.dig hr.den.dig (by omega) (by omega);rw[hq.den.val,hr.den.val] at h8;have hbd:b*d≠0:=Int.ne_of_gt (Int.mul_pos hq.pos hr.pos);obtain⟨s,e,f,h9,h10,h11,h12,h13⟩:=qiG h6 (qjr h8) ((ha.mul hd).add (hc.mul hb)) (hb.mul hd) (by omega) (by omega) hbd;refine⟨s,e,f,?_,h10,h11,((ha.mul hd).add (hc.mul hb)).le h12,(hb.mul hd).le h13⟩;unfold qie
 rw[h1,Option.bind_some,h3,Option.bind_some,h5,Option.bind_some,h7,Option.bind_some,h9];rfl
theorem qopp_fq {q:BQ} {a b:Int} (h:Fq q a b):Fq (qaW q) (-a) b:=⟨opp_ri h.num,h.den,h.pos⟩
theorem qsC {q r:BQ} {a b c d:Int} (hq:Fq q a b) (hr:Fq r c d) {L:Nat} (ha:Sz a L) (hb:Sz b L) (hc:Sz c L) (hd:Sz d L) (hL:L≤1000000000) :
  ∃s e f,qdJ q r=some s∧Fq s e f∧e*(b*d)=(a*d-c*b)*f∧Sz e (L+L+1)∧Sz f (L+L):=by
 obtain⟨s,e,f,h1,h2,h3,h4⟩:=ql9 hq (qo2 (qopp_fq hr)) ha hb hc.neg hd hL;refine⟨s,e,f,?_,h2,by rw[h3];grind,h4⟩;unfold qdJ;rw[h1];rfl
theorem qmul_spec {q r:BQ} {a b c d:Int} (hq:Fq q a b) (hr:Fq r c d) {L:Nat} (ha:Sz a L) (hb:Sz b L) (hc:Sz c L) (hd:Sz d L) (hL:L≤1000000000) :
  ∃s e f,qpv q r=some s∧Fq s e f∧e*(b*d)=a*c*f∧Sz e (L+L)∧Sz f (L+L):=by
 obtain⟨x,h1,h2⟩:=qam hq.num hr.num ha hc (by omega) (by omega);have l1:=hq.den.len (k:=L) (by have:=hb;unfold Sz at this;have:=hq.pos;omega);have l2:=hr.den.len (k:=L) (by have:=hd;unfold Sz at this;have:=hr.pos;omega);obtain⟨w,h7,h8,_⟩:=qlQ hq.den.dig hr.den.dig (by omega) (by omega);rw[hq.den.val,hr.den.val] at h8;have hbd:b*d≠0:=Int.ne_of_gt (Int.mul_pos hq.pos hr.pos);obtain⟨s,e,f,h9,h10,h11,h12,h13⟩:=qiG h2 (qjr h8) (ha.mul hc) (hb.mul hd) (by omega) (by omega) hbd;refine⟨s,e,f,?_,h10,h11,(ha.mul hc).le h12,(hb.mul hd).le h13⟩;unfold qpv;rw[h1,Option.bind_some,h7,Option.bind_some,h9];rfl
theorem qrt {q r:BQ} {a b c d:Int} (hq:Fq q a b) (hr:Fq r c d) {L:Nat} (ha:Sz a L) (hb:Sz b L) (hc:Sz c L) (hd:Sz d L) (hL:L≤1000000000) (hc0:c≠0) :
  ∃s e f,qh6 q r=some s∧Fq s e f∧e*(c*b)=a*d*f∧Sz e (L+L)∧Sz f (L+L):=by
 obtain⟨x,h1,h2⟩:=qam hq.num hr.denI' ha hd (by omega) (by omega);obtain⟨y,h3,h4⟩:=qam hr.num hq.denI' hc hb (by omega) (by omega);have hcb:c*b≠0:=fun e=>by
  rcases Int.mul_eq_zero.1 e with h | h
  ·exact hc0 h
  ·exact Int.ne_of_gt hq.pos h
 obtain⟨s,e,f,h9,h10,h11,h12,h13⟩:=qiG h2 h4 (ha.mul hd) (hc.mul hb) (by omega) (by omega) hcb;refine⟨s,e,f,?_,h10,h11,(ha.mul hd).le h12,(hc.mul hb).le h13⟩;unfold qh6;rw[h1,Option.bind_some,h3,Option.bind_some,h9];rfl
theorem qcmp_spec {q r:BQ} {a b c d:Int} (hq:Fq q a b) (hr:Fq r c d) {L:Nat} (ha:Sz a L) (hb:Sz b L) (hc:Sz c L) (hd:Sz d L) (hL:L≤1000000000) :
  qnm q r=some (a*d-c*b).sign:=by
 obtain⟨x,h1,h2⟩:=qam hq.num hr.denI' ha hd (by omega) (by omega);obtain⟨y,h3,h4⟩:=qam hr.num hq.denI' hc hb (by omega) (by omega);have h5:=qrN h2 h4 (ha.mul hd) (hc.mul hb) (by omega);unfold qnm;rw[h1,Option.bind_some,h3,Option.bind_some,h5];rfl
theorem qkj {n:Int} (h0:0≤n) (h1:n<18446744073709551616):∃a,qfu n=some a∧Ri a n:=by
 obtain⟨r,h2,h3,_⟩:=qg7 h0 h1;refine⟨(false,(r,())),?_,qjr h3⟩;unfold qfu;rw[decide_eq_false (by omega),cond_false,wu_id h0 h1,h2];rfl
theorem rp_one:Rp [1] 1:=⟨fun d hd=>by rw[List.mem_singleton] at hd;subst hd;omega,fun d hd=>by simp at hd;omega,by simp[Lvl.val]⟩
theorem qqm {n:Int} (h0:0≤n) (h1:n<18446744073709551616):∃q,bigOf n=some q∧Fq q n 1:=by
 obtain⟨a,h2,h3⟩:=qkj h0 h1;refine⟨(a,([1],())),?_,h3,rp_one,by omega⟩;unfold bigOf;rw[h2];rfl
def Qz (q:BQ) (L:Nat):Prop:=∃a b,Fq q a b∧Sz a L∧Sz b L
def Qp (q:BQ) (L:Nat):Prop:=∃a b,Fq q a b∧0<a∧Sz a L∧Sz b L
def Ip (a:BI) (L:Nat):Prop:=∃x,Ri a x∧0<x∧Sz x L
theorem rp_sz {l:List Int} {x:Int} (h:Rp l x) {L:Nat} (hs:Sz x L):l.length≤L:=h.len (by have:=h.nonneg;unfold Sz at hs;omega)
theorem room32 {n:Nat} (h:n≤1000000000):room n 32=true:=qcl (by omega)
theorem qfL {n:Nat} (h:n≤1000000000):room n 56=true:=qcl (by omega)
theorem qoM {n:Nat} (h:n≤1000000000):room n 24=true:=qcl (by omega)
theorem room8 {n:Nat} (h:n≤1000000000):room n 8=true:=qcl (by omega)
theorem room16 {n:Nat} (h:n≤1000000000):room n 16=true:=qcl (by omega)
theorem qqU {row:List BQ} {L:Nat} (hr:∀q∈row,Qp q L) (hl:row.length≤100) (hL:L≤10000000) :
  ∃l f F,qfs row=some (l,(f,()))∧l.length=row.length∧Rp f F∧0<F∧Sz F (1+row.length*L)∧∀a∈l,Ip a (L+(1+row.length*L)):=by
 have hlim:row.length*L≤100*10000000:=Nat.mul_le_mul hl hL;obtain⟨r0,s1,s2,_⟩:=qg7 (x:=1) (by omega) (by omega);obtain⟨x,h1,f,F,rfl,h2,h3,h4,h5⟩:=qg (f:=qa3 row)
  (fun s=>∃f F,∃i:Nat,s=((f,(i:Int),()),())∧i≤row.length∧Rp f F∧0<F∧Sz F (1+i*L)∧∀k,(hk:k<row.length)→k<i→∀a b,Fq row[k] a b→b ∣ F) (fun s=>row.length-(s.1.2.1).toNat)
  (fun r=>∃f F,r=((f,()),())∧Rp f F∧0<F∧Sz F (1+row.length*L)∧∀k,(hk:k<row.length)→∀a b,Fq row[k] a b→b ∣ F) (by
  rintro s ⟨f,F,i,rfl,hi,h2,h3,h4,h5⟩
  by_cases hlt:i<row.length
  ·have hd:decide ((i:Int)<((row.length:Nat):Int))=true:=by simp;omega
   obtain⟨a,b,g1,g2,g3,g4⟩:=hr row[i] (List.getElem_mem hlt);have hiL:i*L≤row.length*L:=Nat.mul_le_mul_right _ (Nat.le_of_lt hlt);have fl:=rp_sz h2 h4;have bl:=rp_sz g1.den g4;have bpos:=g1.pos;obtain⟨g,k1,k2⟩:=qpy h2 g1.den (by omega) (by omega);obtain⟨G,hG⟩:∃G:Nat,G=Int.gcd F b:=⟨_,rfl⟩;rw[←hG] at k2
   have hGb:(G:Int) ∣ b:=by rw[hG];exact Int.gcd_dvd_right ..
   have hGF:(G:Int) ∣ F:=by rw[hG];exact Int.gcd_dvd_left ..
   have hG0:(0:Int)<G:=by
    rcases Nat.eq_zero_or_pos G with e | e
    ·rw[e] at hGb;have:=Int.zero_dvd.1 hGb;omega
    ·omega
   have hGle:(G:Int)≤b:=Int.le_of_dvd bpos hGb;have gl:g.length≤L:=by
    refine k2.len ?_;unfold Sz at g4;omega
   obtain⟨q,r,k3,k4,_⟩:=qg4 g1.den k2 (by omega) (by omega) (by omega);obtain⟨v,hv⟩:=hGb
   have ev:b / (G:Int)=v:=by rw[hv];exact Int.mul_ediv_cancel_left _ (by omega)
   rw[ev] at k4;have v0:0<v:=by
    refine Classical.byContradiction fun hn=>?_;have:=Int.mul_nonpos_of_nonneg_of_nonpos (Int.le_of_lt hG0) (show v≤0 by omega);omega
   have vb:v≤b:=by
    have:1*v≤G*v:=Int.mul_le_mul_of_nonneg_right (by omega) (by omega);omega
   have vz:Sz v L:=g4.le (by omega);have ql:=rp_sz k4 vz;obtain⟨w,k5,k6,_⟩:=qlQ h2.dig k4.dig (by omega) (by omega);rw[h2.val,k4.val] at k6;have step:qa3 row ((f,(i:Int),()),())=some (.inl ((w,((i+1:Nat):Int),()),())):=by
    unfold qa3;simp only[hd,cond_true,qp row hlt,Option.bind_some,k1,k3,k5];rw[wi_id (by omega) (by omega)];rfl
   refine .inl ⟨_,step,⟨w,F*v,i+1,rfl,hlt,k6,Int.mul_pos h3 v0,?_,fun k hk hki a' b' hf=>?_⟩,by simp;omega⟩
   ·have e:1+(i+1)*L=1+i*L+L:=by rw[Nat.add_mul];omega
    rw[e];exact h4.mul vz
   ·by_cases e:k=i
    ·subst e
     have:b'=b:=by rw[←hf.den.val,←g1.den.val]
     rw[this];obtain⟨u,hu⟩:=hGF;exact⟨u,by rw[hv,hu];grind⟩
    ·obtain⟨u,hu⟩:=h5 k hk (by omega) a' b' hf;exact⟨u*v,by rw[hu];grind⟩
  ·have hd:decide ((i:Int)<((row.length:Nat):Int))=false:=by simp;omega
   have e:i=row.length:=by omega
   exact .inr ⟨_,by unfold qa3;simp only[hd,cond_false],f,F,rfl,h2,h3,by rw[←e];exact h4,fun k hk=>h5 k hk (by omega)⟩) ((r0,((0:Nat):Int),()),()) ⟨r0,1,0,rfl,Nat.zero_le _,s2,by omega,Sz.mono (Sz.small (by decide)) (by omega),fun k _ h=>absurd h (Nat.not_lt_zero _)⟩
 obtain⟨y,j1,l,rfl,j2,j3⟩:=qg (f:=qa6 row ((f,()),()))
  (fun s=>∃l,∃i:Nat,s=((l,(i:Int),()),())∧i≤row.length∧l.length=i∧∀a∈l,Ip a (L+(1+row.length*L))) (fun s=>row.length-(s.1.2.1).toNat)
  (fun r=>∃l,r=((l,()),())∧l.length=row.length∧∀a∈l,Ip a (L+(1+row.length*L))) (by
  rintro s ⟨l,i,rfl,hi,hl1,hl2⟩
  by_cases hlt:i<row.length
  ·have hd:decide ((i:Int)<((row.length:Nat):Int))=true:=by simp;omega
   obtain⟨a,b,g1,g2,g3,g4⟩:=hr row[i] (List.getElem_mem hlt);have fl:=rp_sz h2 h4;have bl:=rp_sz g1.den g4;have bpos:=g1.pos;obtain⟨q,r,k3,k4,_⟩:=qg4 h2 g1.den (by omega) (by omega) (by omega);obtain⟨v,hv⟩:=h5 i hlt a b g1
   have ev:F / b=v:=by rw[hv];exact Int.mul_ediv_cancel_left _ (by omega)
   rw[ev] at k4;have v0:0<v:=by
    refine Classical.byContradiction fun hn=>?_;have:=Int.mul_nonpos_of_nonneg_of_nonpos (Int.le_of_lt bpos) (show v≤0 by omega);omega
   have vF:v≤F:=by
    have:1*v≤b*v:=Int.mul_le_mul_of_nonneg_right (by omega) (by omega);omega
   have vz:Sz v (1+row.length*L):=h4.le (by omega);obtain⟨w,k5,k6⟩:=qam g1.num (qjr k4) g3 vz (by omega) (by omega);have step:qa6 row ((f,()),()) ((l,(i:Int),()),())=some (.inl ((l++[w],((i+1:Nat):Int),()),())):=by
    unfold qa6;simp only[hd,cond_true,qp row hlt,Option.bind_some,k3,k5];rw[room32 (by simp;omega),qc,wi_id (by omega) (by omega)];rfl
   refine .inl ⟨_,step,⟨_,i+1,rfl,hlt,by simp[hl1],fun c hc=>?_⟩,by simp;omega⟩;rcases List.mem_append.1 hc with hc | hc
   ·exact hl2 c hc
   ·rw[List.mem_singleton] at hc;subst hc;exact⟨a*v,k6,Int.mul_pos g2 v0,g3.mul vz⟩
  ·have hd:decide ((i:Int)<((row.length:Nat):Int))=false:=by simp;omega
   exact .inr ⟨_,by unfold qa6;simp only[hd,cond_false],l,rfl,by omega,hl2⟩) (([],((0:Nat):Int),()),()) ⟨[],0,rfl,Nat.zero_le _,rfl,fun a h=>by cases h⟩
 refine⟨l,f,F,?_,j2,h2,h3,h4,j3⟩;unfold qfs;rw[s1,Option.bind_some];have h1:iterW (qa3 row) ((r0,(0:Int),()),())=_:=h1;have j1:iterW (qa6 row ((f,()),())) (([],(0:Int),()),())=_:=j1;rw[h1,Option.bind_some,j1];rfl
end Lvl
set_option maxRecDepth 100000

theorem qqY {a b:ByteArray} (h:a.data.toList=b.data.toList):a=b:=by
 obtain⟨⟨l⟩⟩:=a;obtain⟨⟨k⟩⟩:=b;simp only at h;rw[h]
theorem qui (a b:ByteArray):(a++b).data.toList=a.data.toList++b.data.toList:=by simp[ByteArray.data_append]
theorem qY (a:ByteArray):a.size=a.data.toList.length:=by
 rw[Array.length_toList];rfl
theorem qqx (s:ByteArray) (a b:Nat):(s.extract a b).data.toList=(s.data.toList.take b).drop a:=by
 rw[ByteArray.data_extract,Array.toList_extract];rw[List.extract_eq_take_drop,List.drop_take]
theorem ib_none (c:UInt8):∀l:List UInt8,c∉l→Go.Lib.indexByte l c = -1
 | [],_=>rfl
 | b::l,h=>by
  have hb:(b==c)=false:=by rw[beq_eq_false_iff_ne];exact fun e=>h (by simp[e])
  unfold Go.Lib.indexByte;rw[hb,ib_none c l (fun e=>h (List.mem_cons_of_mem _ e))];rfl
theorem quV (c:UInt8) (r:List UInt8):∀l:List UInt8,c∉l→Go.Lib.indexByte (l++c::r) c=l.length
 | [],_=>by simp[Go.Lib.indexByte]
 | b::l,h=>by
  have hb:(b==c)=false:=by rw[beq_eq_false_iff_ne];exact fun e=>h (by simp[e])
  rw[List.cons_append];unfold Go.Lib.indexByte;rw[hb,quV c r l (fun e=>h (List.mem_cons_of_mem _ e))]
  have:((l.length:Int) == -1)=false:=by rw[beq_eq_false_iff_ne];omega
  rw[this,if_neg (by decide),if_neg (by decide),List.length_cons];omega
namespace Lvl
set_option linter.unusedVariables false
set_option linter.unusedSimpArgs false
def dg (b:UInt8):Bool:=decide (48≤b.toNat)&&decide (b.toNat≤57)
theorem dg_iff {b:UInt8}:dg b=true↔48≤b.toNat∧b.toNat≤57:=by simp[dg]
abbrev bs (s:ByteArray):List UInt8:=s.data.toList
theorem bs_cut (s:ByteArray) (a b:Nat):bs (s.extract a b)=((bs s).take b).drop a:=qqx s a b
abbrev digitsT:ByteArray:=ByteArray.mk #[48,49,50,51,52,53,54,55,56,57]
theorem set_dg (b:UInt8):digitsT.data.toList.contains b=dg b:=by
 have:∀n:Fin 256,digitsT.data.toList.contains (UInt8.ofNat n.val)=dg (UInt8.ofNat n.val):=by decide +kernel
 have h:=this ⟨b.toNat,b.toNat_lt⟩
 have e:UInt8.ofNat b.toNat=b:=by simp
 simp only[e] at h;exact h
theorem qjI (p:UInt8→Bool):∀l:List UInt8,l.dropWhile p=[]↔∀c∈l,p c=true
 | []=>by simp
 | c::r=>by
  rw[List.dropWhile_cons];by_cases h:p c=true
  ·rw[if_pos h,qjI p r];simp[h]
  ·rw[if_neg h];simp[h]
theorem trim_nilD (p:UInt8→Bool) (l:List UInt8):((l.reverse.dropWhile p).reverse).dropWhile p=[]↔∀c∈l,p c=true:=by
 constructor
 ·intro h;have h1:=(qjI p _).1 h;by_cases e:l.reverse.dropWhile p=[]
  ·intro c hc;exact(qjI p _).1 e c (List.mem_reverse.2 hc)
  ·exfalso
   cases hq:l.reverse.dropWhile p with
   | nil=>exact e hq
   | cons c r =>
    have h2:=h1 c (by rw[hq];simp);have h3:=List.head_dropWhile_not (p:=p) (l:=l.reverse) (by rw[hq];simp);simp only[hq,List.head_cons] at h3;rw[h2] at h3;cases h3
 ·intro h;have:l.reverse.dropWhile p=[]:=(qjI p _).2 fun c hc=>h c (List.mem_reverse.1 hc);rw[this];rfl
theorem nil_iff (t:ByteArray):(t.toList==(ByteArray.mk #[]).toList)=decide (bs t=[]):=by
 rw[Bool.eq_iff_iff,beq_iff_eq,decide_eq_true_eq,ByteArray.toList_eq,ByteArray.toList_eq]
theorem trim_dg (s:ByteArray) (hs:s.size≤9223372036854775807):∃t,trimS s digitsT=some t∧(t.toList==(ByteArray.mk #[]).toList)=(bs s).all dg:=by
 refine⟨⟨(((bs s).reverse.dropWhile fun b=>digitsT.data.toList.contains b).reverse.dropWhile fun b=>digitsT.data.toList.contains b).toArray⟩,?_,?_⟩
 ·unfold trimS;rw[show Nat.ble s.size 9223372036854775807=true from Nat.ble_eq_true_of_le hs,show(Nat.ble digitsT.size 4294967280&&(digitsT.data.toList.all fun b=>decide (b.toNat<128)))=true by decide];rfl
 ·rw[nil_iff,Bool.eq_iff_iff,decide_eq_true_eq,List.all_eq_true];show((((bs s).reverse.dropWhile fun b=>digitsT.data.toList.contains b).reverse.dropWhile fun b=>digitsT.data.toList.contains b).toArray.toList=[])↔_;rw[List.toList_toArray,trim_nilD];exact⟨fun h c hc=>(set_dg c).symm.trans (h c hc),fun h c hc=>(set_dg c).trans (h c hc)⟩
structure Num (s:ByteArray):Prop where
 ne:bs s≠[]
 all:∀c∈bs s,dg c=true
 lead:(bs s).length=1∨(bs s).head?≠some 48
theorem qnd (s:ByteArray) (hs:s.size≤9223372036854775807):∃b,qeU s=some b∧(b=true→Num s):=by
 obtain⟨t,t1,t2⟩:=trim_dg s hs;unfold qeU;rw[nil_iff];by_cases hn:bs s=[]
 ·rw[decide_eq_true hn];exact⟨false,rfl,fun h=>by cases h⟩
 ·rw[decide_eq_false hn];simp only[Bool.not_false,gopt,cond_true,t1,Option.bind_some,Bool.true_and,t2];by_cases ha:(bs s).all dg=true
  ·have hpos:0<s.size:=by rw[qY];exact List.length_pos_iff.2 hn
   have hat:strAt s 0=some s[0]:=by
    show(bif decide ((0:Int)≥0) then s[(0:Int).toNat]? else none)=_;rw[show decide ((0:Int)≥0)=true by rfl,cond_true];exact getElem?_pos s 0 hpos
   rw[ha,cond_true,hat,Option.bind_some,Bool.true_and];refine⟨_,rfl,fun h=>⟨hn,List.all_eq_true.1 ha,?_⟩⟩;rw[Bool.or_eq_true] at h;rcases h with h | h
   ·right;intro he;have e:s[0]=48:=by
     have:(bs s)[0]?=some s[0]:=by
      rw[List.getElem?_eq_getElem (by rw[←qY];exact hpos)];rfl
     rw[List.head?_eq_getElem?] at he;rw[this] at he;exact Option.some.inj he
    rw[e] at h;exact absurd h (by decide)
   ·left
    have:((s.size:Nat):Int)=1:=by simpa using h
    rw[←qY];omega
  ·rw[Bool.not_eq_true] at ha;rw[ha,cond_false,Option.bind_some,Bool.false_and];exact⟨false,rfl,fun h=>by cases h⟩
theorem qhu (s:ByteArray) (hs:s.size≤9223372036854775807):∃t b,qaZ s (ByteArray.mk #[45])=some (t,(b,()))∧(b=true→bs s=45::bs t)∧(b=false→t=s∧(bs s).head?≠some 45):=by
 have z1:(ByteArray.mk #[45]).size=1:=rfl
 have ht:(ByteArray.mk #[45]).toList=[45]:=by rw[ByteArray.toList_eq]
 unfold qaZ qag qad;rw[z1];by_cases hz:1≤s.size
 ·have d1:decide (((s.size:Nat):Int)≥((1:Nat):Int))=true:=by simp;omega
  have b1:qh 0 ((1:Nat):Int) s.size=true:=by simp only[qh,Bool.and_eq_true,decide_eq_true_eq];omega
  have b2:qh ((1:Nat):Int) ((s.size:Nat):Int) s.size=true:=by simp only[qh,Bool.and_eq_true,decide_eq_true_eq];omega
  simp only[d1,imp,cond_true,b1,b2,qc,Bool.true_and,Option.bind_some,Int.toNat_natCast];obtain⟨c,r,hcr⟩:∃c r,bs s=c::r:=by
   cases h:bs s with
   | nil=>rw[qY] at hz;simp only[bs] at h;rw[h] at hz;simp at hz
   | cons c r=>exact⟨c,r,rfl⟩
  have e1:(s.extract 0 1).toList=[c]:=by
   rw[ByteArray.toList_eq];show bs (s.extract 0 1)=_;rw[bs_cut,hcr];rfl
  rw[e1,ht];by_cases hc:c=45
  ·subst hc;rw[show(([45]:List UInt8)==[45])=true by rfl,Bool.not_true,cond_false];refine⟨_,_,rfl,fun _=>?_,fun h=>by cases h⟩;rw[hcr];congr 1;show r=bs (s.extract 1 s.size);rw[bs_cut,List.take_of_length_le (by rw[←qY];exact Nat.le_refl _),hcr];rfl
  ·have:(([c]:List UInt8)==[45])=false:=by simp[hc]
   rw[this,Bool.not_false,cond_true];refine⟨_,_,rfl,(fun h=>by cases h),fun _=>⟨rfl,?_⟩⟩;rw[hcr];simp[hc]
 ·have d1:decide (((s.size:Nat):Int)≥((1:Nat):Int))=false:=by simp;omega
  simp only[d1,imp,cond_false,qc,Bool.false_and,Option.bind_some,Bool.not_false,cond_true];refine⟨_,_,rfl,(fun h=>by cases h),fun _=>⟨rfl,?_⟩⟩;have:bs s=[]:=List.eq_nil_of_length_eq_zero (by rw[←qY];omega);rw[this];simp
theorem cut_no (s:ByteArray) (h:(47:UInt8)∉bs s):qb4 s (ByteArray.mk #[47])=some (s,(ByteArray.mk #[],(false,()))):=by
 unfold qb4 qao;have:idx1S s (ByteArray.mk #[47])=some (-1):=by
  show some (Go.Lib.indexByte s.data.toList 47)=_;rw[ib_none 47 _ h]
 rw[this,Option.bind_some];rfl
theorem cut_at (s:ByteArray) (a b:List UInt8) (hs:bs s=a++47::b) (ha:(47:UInt8)∉a) (hz:s.size≤9223372036854775807):qb4 s (ByteArray.mk #[47])=some (⟨a.toArray⟩,(⟨b.toArray⟩,(true,()))):=by
 unfold qb4 qao
 have hl:s.size=a.length+1+b.length:=by rw[qY];show(bs s).length=_;rw[hs];simp;omega
 have:idx1S s (ByteArray.mk #[47])=some ((a.length:Nat):Int):=by
  show some (Go.Lib.indexByte (bs s) 47)=_;rw[hs,quV 47 b a ha]
 have z1:(ByteArray.mk #[47]).size=1:=rfl;rw[this,Option.bind_some,decide_eq_true (show((a.length:Nat):Int)≥0 by omega),cond_true,z1];rw[show qh 0 ((a.length:Nat):Int) s.size=true by simp only[qh,Bool.and_eq_true,decide_eq_true_eq];omega,qc];rw[qi (by omega) (by omega)];rw[show qh (((a.length:Nat):Int)+((1:Nat):Int)) ((s.size:Nat):Int) s.size=true by simp only[qh,Bool.and_eq_true,decide_eq_true_eq];omega,qc];have e1:s.extract 0 (((a.length:Nat):Int)).toNat=⟨a.toArray⟩:=qqY (by rw[qqx];show List.drop 0 ((bs s).take _)=_;rw[hs];simp)
 have e2:s.extract ((((a.length:Nat):Int)+((1:Nat):Int)).toNat) (((s.size:Nat):Int)).toNat=⟨b.toArray⟩:=qqY (by
  rw[qqx,Int.toNat_natCast,List.take_of_length_le (by rw[←qY];exact Nat.le_refl _)];show List.drop _ (bs s)=_;rw[hs,show(((a.length:Nat):Int)+((1:Nat):Int)).toNat=a.length+1 by omega,List.drop_append,List.drop_of_length_le (by omega),show a.length+1-a.length=1 by omega]
  simp)
 rw[e1,e2];rfl
theorem quB (c:UInt8):∀l:List UInt8,c∈l→∃a b,l=a++c::b∧c∉a
 | [],h=>by cases h
 | x::r,h=>by
  by_cases e:x=c
  ·subst e;exact⟨[],r,rfl,by simp⟩
  ·obtain⟨a,b,h1,h2⟩:=quB c r (by
    rcases List.mem_cons.1 h with h | h
    ·exact absurd h.symm e
    ·exact h)
   exact⟨x::a,b,by rw[h1];rfl,by simp[h2];exact fun h=>e h.symm⟩
theorem cut_spec (s:ByteArray) (hz:s.size≤9223372036854775807):∃a d ok,qb4 s (ByteArray.mk #[47])=some (a,(d,(ok,())))∧a.size≤s.size∧d.size≤s.size:=by
 by_cases h:(47:UInt8)∈bs s
 ·obtain⟨a,b,h1,h2⟩:=quB 47 _ h
  have hl:s.size=a.length+1+b.length:=by rw[qY];show(bs s).length=_;rw[h1];simp;omega
  exact⟨_,_,_,cut_at s a b h1 h2 hz,by show a.toArray.size≤_;simp;omega,by show b.toArray.size≤_;simp;omega⟩
 ·exact⟨_,_,_,cut_no s h,Nat.le_refl _,Nat.zero_le _⟩
def nv:Nat→List UInt8→Nat
 | acc,[]=>acc
 | acc,c::r=>nv (acc*10+(c.toNat-48)) r
theorem qj3:∀(acc:Nat) (a b:List UInt8),nv acc (a++b)=nv (nv acc a) b
 | _,[],_=>rfl
 | acc,c::r,b=>qj3 _ r b
theorem qmG:∀(l:List UInt8) (acc:Nat),nv acc l=acc*10 ^ l.length+nv 0 l
 | [],acc=>by
  show acc=acc*1+0;omega
 | c::r,acc=>by
  show nv (acc*10+(c.toNat-48)) r=_+nv (0*10+(c.toNat-48)) r;rw[qmG r (acc*10+(c.toNat-48)),qmG r (0*10+(c.toNat-48)),List.length_cons,Nat.pow_succ]
  grind
theorem nv_lt:∀ {l:List UInt8},(∀c∈l,dg c=true)→nv 0 l<10 ^ l.length
 | [],_=>by
  show 0<1;omega
 | c::r,h=>by
  have h1:=nv_lt (l:=r) fun x hx=>h x (List.mem_cons_of_mem _ hx);have h2:=dg_iff.1 (h c List.mem_cons_self);show nv (0*10+(c.toNat-48)) r<_;rw[qmG,List.length_cons,Nat.pow_succ];have h3:(0*10+(c.toNat-48)+1)*10 ^ r.length≤10*10 ^ r.length:=Nat.mul_le_mul_right _ (by omega);rw[Nat.add_mul] at h3;omega
theorem qt2:∀(l:List UInt8) (acc:Nat),(∀c∈l,dg c=true)→nv acc l≤4294967295→Go.Lib.parseUintM 4294967295 acc l = .ok (nv acc l)
 | [],acc,_,_=>rfl
 | c::r,acc,h,hb=>by
  have h2:=dg_iff.1 (h c List.mem_cons_self);have hb:nv (acc*10+(c.toNat-48)) r≤4294967295:=hb;have h3:acc*10+(c.toNat-48)≤4294967295:=by
   rw[qmG] at hb;have:acc*10+(c.toNat-48)≤(acc*10+(c.toNat-48))*10 ^ r.length:=Nat.le_mul_of_pos_right _ (Nat.pow_pos (by decide));omega
  unfold Go.Lib.parseUintM;rw[if_pos h2,if_neg (by omega),if_neg (by omega)];exact qt2 r _ (fun x hx=>h x (List.mem_cons_of_mem _ hx)) hb
theorem pow_loop (x1:(ByteArray×(List Int)×Unit)×Unit) (k:Nat) (hk:k≤9) (hx:(if (9:Int)<((x1.1.1.size:Nat):Int) then(9:Int) else((x1.1.1.size:Nat):Int))=(k:Int)):iterW (qdH x1) ((1,0,()),())=some (((((10 ^ k:Nat)):Int),()),()):=by
 obtain⟨r,h1,rfl⟩:=qg (f:=qdH x1) (fun s=>∃i:Nat,s=(((((10 ^ i:Nat)):Int),(i:Int),()),())∧i≤k) (fun s=>k-(s.1.2.1).toNat) (fun r=>r=(((((10 ^ k:Nat)):Int),()),())) (by
  rintro s ⟨i,rfl,hi⟩
  by_cases hlt:i<k
  ·have hd:decide ((i:Int)<(k:Int))=true:=by simp;omega
   have hp:10 ^ (i+1)≤10 ^ 9:=Nat.pow_le_pow_right (by decide) (by omega);have e:IntKind.wrap .u32 (((10 ^ i:Nat):Int)*10)=((10 ^ (i+1):Nat):Int):=by
    rw[wr_32,Nat.pow_succ];rw[Nat.pow_succ] at hp;omega
   have step:qdH x1 (((((10 ^ i:Nat)):Int),(i:Int),()),())=some (.inl (((((10 ^ (i+1):Nat)):Int),((i+1:Nat):Int),()),())):=by
    unfold qdH;simp only[hx,hd,cond_true,e];rw[wi_id (by omega) (by omega)];rfl
   exact .inl ⟨_,step,⟨i+1,rfl,hlt⟩,by simp;omega⟩
  ·have hd:decide ((i:Int)<(k:Int))=false:=by simp;omega
   have e:i=k:=by omega
   subst e
   exact .inr ⟨_,by unfold qdH;simp only[hx,hd,cond_false],rfl⟩) ((((((10 ^ 0:Nat)):Int),((0:Nat):Int),()),())) ⟨0,rfl,Nat.zero_le _⟩
 exact h1
theorem qji {s:ByteArray} (hd:∀c∈bs s,dg c=true) (hs:s.size≤1000000):∃r,qic s=some r∧Rp r ((nv 0 (bs s):Nat):Int)∧r.length≤s.size:=by
 obtain⟨x,h1,r,rfl,h2,h3⟩:=qg (f:=qeD)
  (fun x=>∃(t:ByteArray) (o:List Int) (X:Nat),x=((t,o,()),())∧(∀c∈bs t,dg c=true)∧Rp o (X:Int)∧o.length+t.size≤s.size∧nv X (bs t)=nv 0 (bs s)) (fun x=>x.1.1.size)
  (fun r=>∃o,r=((o,()),())∧Rp o ((nv 0 (bs s):Nat):Int)∧o.length≤s.size) (by
  rintro x ⟨t,o,X,rfl,g1,g2,g3,g4⟩
  by_cases hpos:0<t.size
  ·have hgt:decide (((t.size:Nat):Int)>0)=true:=decide_eq_true (by omega);obtain⟨k,hk⟩:∃k,k=min t.size 9:=⟨_,rfl⟩
   have hkle:k≤9∧k≤t.size∧0<k:=by omega
   have hx:(if (9:Int)<((t.size:Nat):Int) then(9:Int) else((t.size:Nat):Int))=(k:Int):=by split<;>omega
   have b1:qh 0 (k:Int) t.size=true:=by simp only[qh,Bool.and_eq_true,decide_eq_true_eq];omega
   have b2:qh (k:Int) ((t.size:Nat):Int) t.size=true:=by simp only[qh,Bool.and_eq_true,decide_eq_true_eq];omega
   have e1:bs (t.extract 0 k)=(bs t).take k:=by
    show(t.extract 0 k).data.toList=_;rw[qqx,List.drop_zero]
   have e2:bs (t.extract k t.size)=(bs t).drop k:=by
    show(t.extract k t.size).data.toList=_;rw[qqx,List.take_of_length_le (by rw[←qY];exact Nat.le_refl _)]
   have hlt:((bs t).take k).length=k:=by rw[List.length_take,←qY];omega
   have hdt:∀c∈(bs t).take k,dg c=true:=fun c hc=>g1 c (List.mem_of_mem_take hc);have hv:=nv_lt hdt;rw[hlt] at hv;have hp:10 ^ k≤10 ^ 9:=Nat.pow_le_pow_right (by decide) (by omega);have hpu:qmY (t.extract 0 k) 10 32=some (((nv 0 ((bs t).take k):Nat):Int),(false,())):=by
    have hsz:(t.extract 0 k).size=k:=by rw[qY];show(bs (t.extract 0 k)).length=_;rw[e1,hlt]
    unfold qmY;rw[hsz,show Nat.blt 0 k=true by rw[Nat.blt_eq];omega,show Nat.ble k 9223372036854775806=true from Nat.ble_eq_true_of_le (by omega)];show(match Go.Lib.parseUintM 4294967295 0 (bs (t.extract 0 k)) with | .ok v=>_ | _=>_)=_;rw[e1,qt2 _ _ hdt (by omega)]
   have hpw:=pow_loop ((t,o,()),()) k hkle.1 hx
   have hol:o.length≤1000000:=by omega
   obtain⟨r,m1,m2,m3⟩:=qtn (n:=o) (x:=((10 ^ k:Nat):Int)) (y:=((nv 0 ((bs t).take k):Nat):Int)) g2.dig (by omega) (by omega) (by omega);rw[g2.val] at m2;have hw:IntKind.wrap .u32 (((nv 0 ((bs t).take k):Nat):Int))=((nv 0 ((bs t).take k):Nat):Int):=by
    rw[wr_32];omega
   have step:qeD ((t,o,()),())=some (.inl ((t.extract k t.size,r,()),())):=by
    unfold qeD;simp only[hgt,cond_true,hx,b1,b2,qc,Int.toNat_natCast,hpu,Option.bind_some,hpw,hw,m1]
   have hv2:nv X ((bs t).take k)=X*10 ^ k+nv 0 ((bs t).take k):=by rw[qmG,hlt]
   have hsz2:(t.extract k t.size).size=t.size-k:=by rw[qY];show(bs (t.extract k t.size)).length=_;rw[e2,List.length_drop,←qY]
   refine .inl ⟨_,step,⟨_,r,X*10 ^ k+nv 0 ((bs t).take k),rfl,fun c hc=>?_,?_,by omega,?_⟩,by show(t.extract k t.size).size<t.size;omega⟩
   ·rw[e2] at hc;exact g1 c (List.mem_of_mem_drop hc)
   ·rw[Int.natCast_add,Int.natCast_mul];exact m2
   ·rw[e2,←hv2,←qj3,List.take_append_drop,g4]
  ·have hgt:decide (((t.size:Nat):Int)>0)=false:=decide_eq_false (by omega);have:bs t=[]:=List.eq_nil_of_length_eq_zero (by rw[←qY];omega);rw[this] at g4;have g4:X=nv 0 (bs s):=g4
   refine .inr ⟨_,by unfold qeD;simp only[hgt,cond_false],o,rfl,by rw[←g4];exact g2,by omega⟩) ((s,[],()),()) ⟨s,[],0,rfl,hd,Rp.nil,by simp,rfl⟩
 refine⟨r,?_,h2,h3⟩;unfold qic;rw[h1];rfl
end Lvl
namespace Lvl
set_option linter.unusedVariables false
set_option linter.unusedSimpArgs false
theorem dd_spec:∀(k n:Nat),n<10 ^ (k+1)→(∀c∈Go.Lib.decDigits n,dg c=true)∧nv 0 (Go.Lib.decDigits n)=n∧1≤(Go.Lib.decDigits n).length∧(Go.Lib.decDigits n).length≤k+1:=by
 have small:∀n,n<10→∀k,(∀c∈Go.Lib.decDigits n,dg c=true)∧nv 0 (Go.Lib.decDigits n)=n∧1≤(Go.Lib.decDigits n).length∧(Go.Lib.decDigits n).length≤k+1:=fun n hn k=>by
  rw[Go.Lib.decDigits,dif_pos hn]
  have:∀m:Fin 10,∀c∈[(48+m.val).toUInt8],dg c=true:=by decide
  have h2:∀m:Fin 10,nv 0 [(48+m.val).toUInt8]=m.val:=by decide
  exact⟨this ⟨n,hn⟩,h2 ⟨n,hn⟩,Nat.le_refl _,by simp⟩
 intro k
 induction k with
 | zero=>exact fun n hn=>small n (by simpa using hn) 0
 | succ k ih =>
  intro n hn;by_cases h:n<10
  ·exact small n h _
  ·have h1:n / 10<10 ^ (k+1):=by
    rw[Nat.pow_succ] at hn;exact Nat.div_lt_of_lt_mul (by omega)
   obtain⟨i1,i2,i3,i4⟩:=ih (n / 10) h1;have e:Go.Lib.decDigits n=Go.Lib.decDigits (n / 10)++[(48+n % 10).toUInt8]:=by
    rw[Go.Lib.decDigits,dif_neg h]
   have h2:∀m:Fin 10,dg (48+m.val).toUInt8=true∧((48+m.val).toUInt8).toNat-48=m.val:=by decide
   obtain⟨d1,d2⟩:=h2 ⟨n % 10,by omega⟩;rw[e];refine⟨fun c hc=>?_,?_,by simp,by simp;omega⟩
   ·rcases List.mem_append.1 hc with hc | hc
    ·exact i1 c hc
    ·rw[List.mem_singleton] at hc;subst hc;exact d1
   ·rw[qj3,i2];show n / 10*10+((48+n % 10).toUInt8.toNat-48)=n;simp only at d2;rw[d2];omega
theorem itoa_dg {r:Int} (h0:0≤r) (h1:r<1000000000):∃t,itoaS (w64 r)=some t∧(∀c∈bs t,dg c=true)∧nv 0 (bs t)=r.toNat∧1≤t.size∧t.size≤9:=by
 obtain⟨n,rfl⟩:=Int.eq_ofNat_of_zero_le h0;obtain⟨d1,d2,d3,d4⟩:=dd_spec 8 n (by omega);refine⟨⟨(Go.Lib.itoa (n:Int)).toArray⟩,?_,?_⟩
 ·rw[wi_id (by omega) (by omega)];unfold itoaS;rw[show(decide (-9223372036854775808≤(n:Int))&&decide ((n:Int)≤9223372036854775807))=true by simp;omega];rfl
 ·have e:Go.Lib.itoa (n:Int)=Go.Lib.decDigits n:=by
   rw[Go.Lib.itoa,if_neg (by omega)];rfl
  have e2:bs ⟨(Go.Lib.itoa (n:Int)).toArray⟩=Go.Lib.decDigits n:=by
   show(Go.Lib.itoa (n:Int)).toArray.toList=_;rw[List.toList_toArray,e]
  have e3:(ByteArray.mk (Go.Lib.itoa (n:Int)).toArray).size=(Go.Lib.decDigits n).length:=by rw[qY];show(bs _).length=_;rw[e2]
  rw[e2,e3];exact⟨d1,d2,d3,d4⟩
theorem zeros_rep (k:Nat) (hk:k≤16):∃s,qkl (ByteArray.mk #[48]) ((k:Nat):Int)=some s∧bs s=List.replicate k 48∧s.size=k:=by
 refine⟨⟨(Go.Lib.repeatL (ByteArray.mk #[48]).data.toList k).toArray⟩,?_,?_,?_⟩
 ·unfold qkl
  rw[Int.toNat_natCast,decide_eq_true (show(0:Int)≤(k:Int) by omega),decide_eq_true (show(k:Int)≤9223372036854775807 by omega),show Nat.ble ((ByteArray.mk #[48]).size*k) 140737488355328=true from Nat.ble_eq_true_of_le (by
   have:(ByteArray.mk #[48]).size=1:=rfl
   rw[this];omega)]
  rfl
 ·have:∀k,Go.Lib.repeatL [48] k=List.replicate k (48:UInt8):=fun k=>by
   induction k with
   | zero=>rfl
   | succ k ih=>show [48]++Go.Lib.repeatL [48] k=_;rw[ih];rfl
  exact this k
 ·show((Go.Lib.repeatL [48] k).toArray).size=k;rw[List.size_toArray,Go.Lib.repeatL_length];simp
theorem quw:∀(k:Nat) (l:List UInt8),nv 0 (List.replicate k 48++l)=nv 0 l
 | 0,l=>rfl
 | k+1,l=>by
  show nv (0*10+((48:UInt8).toNat-48)) (List.replicate k 48++l)=_;exact quw k l
def catP (l:List ByteArray):List UInt8:=(l.reverse.map bs).flatten
theorem qlW (l:List ByteArray) (x:ByteArray):catP (l++[x])=bs x++catP l:=by simp[catP]
theorem text_loop {n:List Int} {X h:Nat} (hn:Rp n (X:Int)) (hX:X<65536 ^ h) (hX0:0<X) (hh:h≤1000) (hl:n.length≤1000):∃parts,iterW (qbE) ((n,[],()),())=some ((parts,()),())∧(∀c∈catP parts,dg c=true)∧nv 0 (catP parts)=X∧(catP parts)≠[]∧parts.length≤1000∧(catP parts).length≤9*parts.length:=by
 obtain⟨x,g1,parts,rfl,g2,g3,g4,g5,g6⟩:=qg (f:=qbE)
  (fun s=>∃(n:List Int) (parts:List ByteArray) (Y k:Nat),s=((n,parts,()),())∧Rp n (Y:Int)∧n.length≤1000∧Y<65536 ^ k∧k+parts.length≤h∧(∀c∈catP parts,dg c=true)∧Y*10 ^ (catP parts).length+nv 0 (catP parts)=X∧(Y=0→catP parts≠[])∧(catP parts).length≤9*parts.length) (fun s=>(val s.1.1).toNat)
  (fun r=>∃parts,r=((parts,()),())∧(∀c∈catP parts,dg c=true)∧nv 0 (catP parts)=X∧(catP parts)≠[]∧parts.length≤1000∧(catP parts).length≤9*parts.length) (by
  rintro s ⟨n,parts,Y,k,rfl,f1,f2,f3,f4,f5,f6,f7,f8⟩
  by_cases hY:Y=0
  ·subst hY;have hnil:n=[]:=Rp.zero f1;subst hnil;exact .inr ⟨_,by unfold qbE;rfl,parts,rfl,f5,by omega,f7 rfl,by omega,f8⟩
  ·have hne:n≠[]:=f1.ne (by omega);have hgt:decide (((n.length:Nat):Int)>0)=true:=decide_eq_true (by have:=List.length_pos_iff.2 hne;omega);obtain⟨q,r,d1,d2,d3,d4⟩:=qiS f1.dig (by omega) (x:=1000000000) (by omega);rw[f1.val] at d2 d3
   have hr:r=((Y % 1000000000:Nat):Int):=by rw[d3];omega
   have hq:((Y:Int)) / 1000000000=((Y / 1000000000:Nat):Int):=by omega
   rw[hq] at d2;obtain⟨t,t1,t2,t3,t4,t5⟩:=itoa_dg (r:=r) (by omega) (by omega)
   have t3':nv 0 (bs t)=Y % 1000000000:=by omega
   obtain⟨p,hp1,hp2,hp3,hp4,hp5⟩:∃p:ByteArray,(bif decide (((q.length:Nat):Int)>0) then Option.bind (qkl (ByteArray.mk #[48]) (w64 ((9:Int)-((t.size:Nat):Int)))) fun r5=>req (qcF r5 t) (some (((r5++t),()),())) else some ((t,()),()))=some ((p,()),()) ∧
     (∀c∈bs p,dg c=true)∧nv 0 (bs p)=Y % 1000000000∧(1≤(bs p).length∧(bs p).length≤9)∧(Y / 1000000000≠0→(bs p).length=9):=by
    have tl:(bs t).length=t.size:=(qY t).symm;by_cases hq0:q=[]
    ·subst hq0;refine⟨t,rfl,t2,t3',by omega,fun hne'=>?_⟩;have:((Y / 1000000000:Nat):Int)=0:=d2.val.symm;omega
    ·have hgt2:decide (((q.length:Nat):Int)>0)=true:=decide_eq_true (by have:=List.length_pos_iff.2 hq0;omega);obtain⟨z,z1,z2,z3⟩:=zeros_rep (9-t.size) (by omega)
     have ew:w64 ((9:Int)-((t.size:Nat):Int))=((9-t.size:Nat):Int):=by rw[wi_id (by omega) (by omega)];omega
     have hsr:qcF z t=true:=Nat.ble_eq_true_of_le (by omega);have ebs:bs (z++t)=List.replicate (9-t.size) 48++bs t:=by
      show(z++t).data.toList=_;rw[qui];show bs z++_=_;rw[z2]
     refine⟨z++t,?_,?_,?_,?_,?_⟩
     ·rw[hgt2,cond_true,ew,z1,Option.bind_some,hsr,qc]
     ·rw[ebs];intro c hc;rcases List.mem_append.1 hc with hc | hc
      ·rw[List.eq_of_mem_replicate hc];rfl
      ·exact t2 c hc
     ·rw[ebs,quw,t3']
     ·rw[ebs,List.length_append,List.length_replicate];omega
     ·intro _;rw[ebs,List.length_append,List.length_replicate];omega
   have hk1:0<k:=by
    rcases Nat.eq_zero_or_pos k with e | e
    ·rw[e] at f3;have:Y<1:=f3;omega
    ·exact e
   have hlim:parts.length≤1000:=by omega
   have hroom:room (parts.length+[p].length) 16=true:=room16 (by simp;omega);have step:qbE ((n,parts,()),())=some (.inl ((q,parts++[p],()),())):=by
    unfold qbE;simp only[hgt,cond_true,d1,Option.bind_some,t1,hp1,hroom,qc]
   have hYk:Y / 1000000000<65536 ^ (k-1):=by
    have e:k=(k-1)+1:=by omega
    rw[e,Nat.pow_succ] at f3;refine Nat.div_lt_of_lt_mul ?_;generalize 65536 ^ (k-1)=P at f3;omega
   refine .inl ⟨_,step,⟨q,parts++[p],Y / 1000000000,k-1,rfl,d2,by omega,hYk,by simp;omega,fun c hc=>?_,?_,fun _=>?_,?_⟩,?_⟩
   ·rw[qlW] at hc;rcases List.mem_append.1 hc with hc | hc
    ·exact hp2 c hc
    ·exact f5 c hc
   ·rw[qlW,List.length_append,qj3,qmG,hp3];have hpw:Y / 1000000000*10 ^ ((bs p).length+(catP parts).length)=Y / 1000000000*1000000000*10 ^ (catP parts).length:=by
     by_cases h0:Y / 1000000000=0
     ·rw[h0];simp
     ·rw[hp5 h0,Nat.pow_add,Nat.mul_assoc]
    rw[hpw,←Nat.add_assoc,←Nat.add_mul]
    have:Y / 1000000000*1000000000+Y % 1000000000=Y:=by omega
    rw[this];exact f6
   ·rw[qlW];intro h
    have h':(bs p).length+(catP parts).length=0:=by rw[←List.length_append,h];rfl
    omega
   ·rw[qlW,List.length_append,List.length_append,List.length_singleton];omega
   ·show(val q).toNat<(val n).toNat;rw[d2.val,f1.val]
    omega) ((n,[],()),()) ⟨n,[],X,h,rfl,hn,hl,hX,by simp,(fun c hc=>by cases hc),(by
  show X*1+0=X
  omega),fun h=>by omega,Nat.zero_le _⟩
 exact⟨parts,g1,g2,g3,g4,g5,g6⟩
theorem rev_loop (l:List ByteArray) (hl:l.length≤100000):iterW (qby) ((0,((l.length:Int)-1),()),(l,()))=some ((),(l.reverse,())):=by
 obtain⟨x,g1,rfl⟩:=qg (f:=qby)
  (fun s=>∃(o:List ByteArray) (i:Nat),s=(((i:Int),((l.length:Int)-1-i),()),(o,()))∧o.length=l.length∧i≤l.length∧∀k,(hk:k<l.length)→getD' o k ByteArray.empty=if k<i∨l.length-1-i<k then getD' l (l.length-1-k) ByteArray.empty else getD' l k ByteArray.empty) (fun s=>(s.1.2.1-s.1.1+1).toNat)
  (fun r=>r=((),(l.reverse,()))) (by
  rintro s ⟨o,i,rfl,f1,f2,f3⟩
  by_cases hlt:(i:Int)<(l.length:Int)-1-i
  ·have hd:decide ((i:Int)<(l.length:Int)-1-(i:Int))=true:=decide_eq_true hlt;obtain⟨j,hj⟩:∃j:Nat,j=l.length-1-i:=⟨_,rfl⟩
   have ej:(l.length:Int)-1-(i:Int)=(j:Int):=by omega
   have hio:i<o.length:=by omega
   have hjo:j<o.length:=by omega
   have hjo2:j<(o.set i (getD' o j ByteArray.empty)).length:=by rw[List.length_set];exact hjo
   have step:qby (((i:Int),((l.length:Int)-1-(i:Int)),()),(o,()))=some (.inl ((((i+1:Nat):Int),((l.length:Int)-1-((i+1:Nat):Int)),()),((o.set i (getD' o j ByteArray.empty)).set j (getD' o i ByteArray.empty),()))):=by
    unfold qby;simp only[hd,cond_true];simp only[ej,qA hjo,qA hio,qc,Int.toNat_natCast,Option.bind_some,qA hjo2];rw[wi_id (by omega) (by omega),wi_id (by omega) (by omega)]
    have e2:(j:Int)-1=(l.length:Int)-1-((i+1:Nat):Int):=by omega
    rw[e2];rfl
   refine .inl ⟨_,step,⟨_,i+1,rfl,by rw[List.length_set,List.length_set];exact f1,by omega,fun k hk=>?_⟩,by
    show((l.length:Int)-1-((i+1:Nat):Int)-((i+1:Nat):Int)+1).toNat<((l.length:Int)-1-(i:Int)-(i:Int)+1).toNat
    omega⟩
   have sg:∀(x:List ByteArray) (a k:Nat) (v:ByteArray),a<x.length→getD' (x.set a v) k ByteArray.empty=if k=a then v else getD' x k ByteArray.empty:=fun x a k v ha=>by
    by_cases e:k=a
    ·subst e;rw[if_pos rfl,qbt (by rw[List.length_set];exact ha)];simp
    ·rw[if_neg e];have e':a≠k:=fun h=>e h.symm;simp[getD',List.getElem?_set,e']
   rw[sg _ _ _ _ hjo2,sg _ _ _ _ hio];by_cases e1:k=j
   ·subst e1;rw[if_pos rfl,if_pos (by omega),f3 i (by omega),if_neg (by omega)];congr 1;omega
   ·rw[if_neg e1];by_cases e2:k=i
    ·subst e2;rw[if_pos rfl,if_pos (by omega),f3 j (by omega),if_neg (by omega)];congr 1
    ·rw[if_neg e2,f3 k hk];by_cases e3:k<i∨l.length-1-i<k
     ·rw[if_pos e3,if_pos (by omega)]
     ·rw[if_neg e3,if_neg (by omega)]
  ·have hd:decide ((i:Int)<(l.length:Int)-1-(i:Int))=false:=decide_eq_false hlt;refine .inr ⟨((),(o,())),by unfold qby;simp only[hd,cond_false],?_⟩;congr 2;refine List.ext_getElem (by rw[List.length_reverse];exact f1) fun k h1 h2=>?_;have:=f3 k (by omega);rw[qbt h1] at this;rw[this,List.getElem_reverse];by_cases e3:k<i∨l.length-1-i<k
   ·rw[if_pos e3,qbt (by omega)]
   ·rw[if_neg e3,qbt (by omega)];congr 1
    omega) ((((0:Nat):Int),((l.length:Int)-1-((0:Nat):Int)),()),(l,())) ⟨l,0,rfl,rfl,Nat.zero_le _,fun k hk=>by rw[if_neg (by omega)]⟩
 simpa using g1
theorem qsl:∀l:List (List UInt8),([]:List UInt8).intercalate l=l.flatten
 | []=>rfl
 | [x]=>by simp[List.intercalate]
 | x::y::r=>by
  have ih:=qsl (y::r);simp only[List.intercalate] at ih ⊢;rw[List.intersperse_cons_cons,List.flatten_cons,List.flatten_cons,ih];simp
theorem qrm {n:List Int} {X:Nat} (hn:Rp n (X:Int)) (hl:n.length≤400):∃t,qbG n=some t∧(∀c∈bs t,dg c=true)∧nv 0 (bs t)=X∧bs t≠[]∧t.size≤10000:=by
 unfold qbG;by_cases hX:X=0
 ·subst hX;have hnil:n=[]:=Rp.zero hn;subst hnil;refine⟨ByteArray.mk #[48],rfl,?_,rfl,by simp[bs],by decide⟩;intro c hc
  have:c=48:=by simpa[bs] using hc
  rw[this];rfl
 ·have hne:n≠[]:=hn.ne (by omega);have hl0:(((n.length:Nat):Int)==0)=false:=beq_eq_false_iff_ne.2 (by have:=List.length_pos_iff.2 hne;omega);have hb:X<65536 ^ (2*n.length):=by
   have h1:=hn.lt;have h2:∀k,pw k=((65536 ^ (2*k):Nat):Int):=fun k=>by
    induction k with
    | zero=>rfl
    | succ k ih =>
     show 4294967296*pw k=_;rw[ih,Nat.mul_succ,Nat.pow_add];omega
   rw[h2] at h1;omega
  obtain⟨parts,p1,p2,p3,p4,p5,p6⟩:=text_loop hn hb (by omega) (by omega) (by omega);rw[hl0,cond_false,p1,Option.bind_some];simp only;rw[wi_id (by omega) (by omega),rev_loop parts (by omega),Option.bind_some];simp only;have hj:joinS parts.reverse (ByteArray.mk #[])=some ⟨(catP parts).toArray⟩:=by
   have e:Go.Lib.join (parts.reverse.map (·.data.toList)) (ByteArray.mk #[]).data.toList=catP parts:=qsl _;unfold joinS;rw[e,show Nat.ble parts.reverse.length 140737488355328=true from Nat.ble_eq_true_of_le (by rw[List.length_reverse];omega),show Nat.ble (catP parts).length 140737488355328=true from Nat.ble_eq_true_of_le (by omega)];rfl
  rw[hj];refine⟨_,rfl,p2,p3,p4,?_⟩;show(catP parts).toArray.size≤_;rw[List.size_toArray];omega
end Lvl
namespace Lvl
set_option linter.unusedVariables false
set_option linter.unusedSimpArgs false
def E0:Nat:=208
theorem E0_eq:E0=208:=rfl
theorem pow_sz {x k:Nat} (hk:k≤2000) (h:x<10 ^ k):((x:Nat):Int)<pw E0:=by
 have h3:=Nat.pow_le_pow_right (n:=10) (by decide) hk
 have h1:(10:Nat) ^ 2000<4294967296 ^ 208:=by decide +kernel
 have h2:∀k:Nat,pw k=((4294967296 ^ k:Nat):Int):=fun k=>by
  induction k with
  | zero=>rfl
  | succ k ih =>
   show 4294967296*pw k=_;rw[ih,Nat.pow_succ];omega
 rw[h2,E0_eq];generalize (4294967296:Nat) ^ 208=P at h1 ⊢;generalize (10:Nat) ^ 2000=Q at h1 h3;omega
theorem num_sz {s:ByteArray} (h:∀c∈bs s,dg c=true) (hs:s.size≤2000):Sz ((nv 0 (bs s):Nat):Int) E0:=by
 unfold Sz;rw[Int.natAbs_natCast];refine pow_sz (k:=(bs s).length) ?_ (nv_lt h);rw[←qY];exact hs
theorem qud (n:List Int):qgD n=some (decide (n=[1])):=by
 unfold qgD
 cases n with
 | nil=>rfl
 | cons d r =>
  cases r with
  | nil =>
   have e:(((([d]:List Int).length:Nat):Int)==1)=true:=rfl;rw[e];have e2:at? [d] 0=some d:=rfl;simp only[gat,cond_true,e2,Option.bind_some,Bool.true_and];congr 1;by_cases h:d=1
   ·subst h;rfl
   ·rw[beq_eq_false_iff_ne.2 h,decide_eq_false (by simp[h])]
  | cons e r =>
   have e1:((((d::e::r:List Int).length:Nat):Int)==1)=false:=beq_eq_false_iff_ne.2 (by simp;omega);rw[e1];simp only[gat,cond_false,Option.bind_some,Bool.false_and];rw[decide_eq_false (by simp)]
theorem num_pos {s:ByteArray} (h:Num s) (hz:(s.toList==(ByteArray.mk #[48]).toList)=false):0<nv 0 (bs s):=by
 obtain⟨c,r,hcr⟩:∃c r,bs s=c::r:=by
  cases h':bs s with
  | nil=>exact absurd h' h.ne
  | cons c r=>exact⟨c,r,rfl⟩
 have hd:=dg_iff.1 (h.all c (by rw[hcr];exact List.mem_cons_self));have hc:c≠48:=fun e=>by
  subst e;rcases h.lead with h1 | h1
  ·rw[hcr] at h1;have:r=[]:=List.eq_nil_of_length_eq_zero (by simpa using h1);subst this;rw[ByteArray.toList_eq,ByteArray.toList_eq] at hz;have hcr:s.data.toList=[48]:=hcr;rw[hcr] at hz;exact absurd hz (by decide)
  ·rw[hcr] at h1;exact h1 rfl
 have hc2:c.toNat≠48:=fun e=>hc (by
  have:UInt8.ofNat c.toNat=c:=by simp
  rw[←this,e];rfl)
 rw[hcr];show 0<nv (0*10+(c.toNat-48)) r;rw[qmG];have:0<(0*10+(c.toNat-48))*10 ^ r.length:=Nat.mul_pos (by omega) (Nat.pow_pos (by decide));omega
def Good (r:ByteArray) (q:BQ):Prop:=qau r=some q∧Qz q E0∧bs r≠[]
theorem qdF (r:ByteArray) (hr:r.size≤9223372036854775807):∃c,qO r=some c∧(c=0→∃q,Good r q):=by
 obtain⟨t,neg,k1,k2,k3⟩:=qhu r hr;have ht:t.size≤r.size:=by
  cases neg with
  | true =>
   have:=congrArg List.length (k2 rfl);rw[←qY,List.length_cons,←qY] at this;omega
  | false=>rw[(k3 rfl).1];exact Nat.le_refl _
 obtain⟨a,d,ok,c1,c2,c3⟩:=cut_spec t (by omega);obtain⟨b1,n1,n2⟩:=qnd a (by omega);obtain⟨b2,m1,m2⟩:=qnd d (by omega);unfold qO;rw[k1,Option.bind_some];simp only[c1,Option.bind_some,n1];obtain⟨g,hg,hgt⟩:∃g,gopt (ok&&(!(!b1))) false (qeU d)=some g∧(ok=true→b1=true→g=b2):=by
  rw[m1]
  cases ok<;>cases b1<;>exact⟨_,rfl,by simp⟩
 rw[hg,Option.bind_some];cases hcond:((!b1)||(ok&&(!g))||(neg&&(a.toList==(ByteArray.mk #[48]).toList)))
 rotate_left
 ·exact⟨5,rfl,fun h=>by cases h⟩
 rw[cond_false];simp only[Bool.or_eq_false_iff,Bool.not_eq_false'] at hcond;obtain⟨⟨hb1,hokg⟩,_⟩:=hcond;have hA:=n2 hb1;have hD:ok=true→Num d:=fun h=>by
  subst h;have hg':=hgt rfl hb1;simp only[Bool.true_and,Bool.not_eq_false'] at hokg;exact m2 (by rw[←hg'];exact hokg)
 cases hsz:(decide (((a.size:Nat):Int)>2000)||decide (((d.size:Nat):Int)>2000))
 rotate_left
 ·exact⟨2,rfl,fun h=>by cases h⟩
 rw[cond_false];simp only[Bool.or_eq_false_iff,decide_eq_false_iff_not] at hsz;obtain⟨ra,ra1,ra2,ra3⟩:=qji hA.all (by omega);have hza:=num_sz hA.all (by omega);have hne:bs r≠[]:=fun e=>by
  cases neg with
  | true=>rw[k2 rfl] at e;cases e
  | false =>
   have e3:=(k3 rfl).1;subst e3
   have h0:t.size=0:=by rw[qY];show(bs t).length=0;rw[e];rfl
   have h1:a.size=0:=by omega
   rw[qY] at h1;exact hA.ne (List.eq_nil_of_length_eq_zero h1)
 have made:∃x:Int,Ri (qaa neg ra) x∧Sz x E0:=by
  refine⟨if neg=true then -((nv 0 (bs a):Nat):Int) else((nv 0 (bs a):Nat):Int),qfy ?_ fun hx=>?_,?_⟩
  ·have:((if neg=true then -((nv 0 (bs a):Nat):Int) else((nv 0 (bs a):Nat):Int)).natAbs:Nat)=nv 0 (bs a):=by split<;>omega
   rw[this];exact ra2
  ·cases neg with
   | true=>simp only[if_true] at hx ⊢;rw[decide_eq_true (by omega)]
   | false=>simp only[Bool.false_eq_true,if_false] at hx ⊢;rw[decide_eq_false (by omega)]
  ·split
   ·exact hza.neg
   ·exact hza
 obtain⟨x,x1,x2⟩:=made
 cases hok:ok with
 | false =>
  subst hok;refine⟨0,rfl,fun _=>⟨(((qaa neg ra).1,((qaa neg ra).2.1,())),([1],())),?_,⟨x,1,⟨x1,rp_one,by omega⟩,x2,(Sz.small (by decide)).mono (by rw[E0_eq];omega)⟩,hne⟩⟩;unfold qau;rw[k1,Option.bind_some];simp only[c1,Option.bind_some,ra1];rfl
 | true =>
  subst hok;have hDn:=hD rfl;obtain⟨rd,rd1,rd2,rd3⟩:=qji hDn.all (by omega);have hzd:=num_sz hDn.all (by omega);rw[cond_true];cases h01:((d.toList==(ByteArray.mk #[48]).toList)||(d.toList==(ByteArray.mk #[49]).toList))
  rotate_left
  ·exact⟨3,rfl,fun h=>by cases h⟩
  rw[cond_false];simp only[Bool.or_eq_false_iff] at h01;obtain⟨gg,g1,g2⟩:=qpy ra2 rd2 (by omega) (by omega);rw[ra1,Option.bind_some,rd1,Option.bind_some,g1,Option.bind_some,qud,Option.bind_some,Option.bind_some];simp only;cases hone:(!(decide (gg=[1])))
  rotate_left
  ·exact⟨3,rfl,fun h=>by cases h⟩
  rw[cond_false];have hdp:=num_pos hDn h01.1;refine⟨0,rfl,fun _=>⟨(((qaa neg ra).1,((qaa neg ra).2.1,())),(rd,())),?_,⟨x,((nv 0 (bs d):Nat):Int),⟨x1,rd2,by omega⟩,x2,hzd⟩,hne⟩⟩;unfold qau;rw[k1,Option.bind_some];simp only[c1,Option.bind_some,ra1,rd1];rfl
theorem qsa {c:UInt8} (hc:dg c=false) {l:List UInt8} (h:∀x∈l,dg x=true):c∉l:=fun hm=>by
 have:=h c hm;rw[hc] at this;cases this
theorem qve {q:BQ} {a b:Int} (hq:Fq q a b) {t1 t2 t:ByteArray} (h1:∀c∈bs t1,dg c=true) (h1n:nv 0 (bs t1)=a.natAbs) (h1e:bs t1≠[]) (h1s:t1.size≤10000) (h2:∀c∈bs t2,dg c=true) (h2n:((nv 0 (bs t2):Nat):Int)=b) (h2s:t2.size≤10000)
  (ht:bs t=(if q.1.1=true then [45] else [])++(bs t1++if q.2.1=[1] then [] else 47::bs t2)) (hs:t.size≤100000):qau t=some q:=by
 obtain⟨u,neg,k1,k2,k3⟩:=qhu t (by omega);obtain⟨c0,r0,hc0⟩:∃c r,bs t1=c::r:=by
  cases h':bs t1 with
  | nil=>exact absurd h' h1e
  | cons c r=>exact⟨c,r,rfl⟩
 have hc45:c0≠45:=fun e=>by
  have:=h1 c0 (by rw[hc0];exact List.mem_cons_self);rw[e] at this;exact absurd this (by decide)
 have hu:neg=q.1.1∧bs u=bs t1++if q.2.1=[1] then [] else 47::bs t2:=by
  cases hn:q.1.1 with
  | true =>
   rw[hn,if_pos rfl] at ht
   cases neg with
   | true =>
    have:=k2 rfl;rw[ht] at this;exact⟨rfl,(List.cons.inj this).2.symm⟩
   | false =>
    have:=(k3 rfl).2;rw[ht] at this;exact absurd rfl this
  | false =>
   rw[hn,if_neg (by simp),List.nil_append] at ht
   cases neg with
   | true =>
    have:=k2 rfl;rw[ht,hc0] at this;exact absurd (List.cons.inj this).1 hc45
   | false=>exact⟨rfl,by rw[(k3 rfl).1];exact ht⟩
 obtain⟨hneg,hu⟩:=hu
 have h47:dg 47=false:=by decide
 have hus:u.size≤20001:=by
  rw[qY];show(bs u).length≤_;rw[hu];have e1:(bs t1).length=t1.size:=(qY t1).symm;have e2:(bs t2).length=t2.size:=(qY t2).symm;split
  ·rw[List.length_append];simp;omega
  ·rw[List.length_append,List.length_cons];omega
 have e1:(⟨(bs t1).toArray⟩:ByteArray)=t1:=qqY rfl;have e2:(⟨(bs t2).toArray⟩:ByteArray)=t2:=qqY rfl;obtain⟨ra,ra1,ra2,_⟩:=qji h1 (by omega);obtain⟨rd,rd1,rd2,_⟩:=qji h2 (by omega);rw[h1n] at ra2;rw[h2n] at rd2;have hma:qaa neg ra=q.1:=(qfy ra2 (fun _=>by rw[hneg];exact hq.num.neg)).inj hq.num;unfold qau;rw[k1,Option.bind_some];by_cases hone:q.2.1=[1]
 ·rw[if_pos hone,List.append_nil] at hu;have hut:u=t1:=qqY hu;have hc:=cut_no u (by rw[hu];exact qsa h47 h1);rw[hut] at hc;simp only[hut,hc,Option.bind_some,ra1,cond_false,hma];rw[←hone]
 ·rw[if_neg hone] at hu;have hc:=cut_at u (bs t1) (bs t2) hu (qsa h47 h1) (by omega);rw[e1,e2] at hc;have hden:rd=q.2.1:=rd2.inj hq.den;simp only[hc,Option.bind_some,ra1,cond_true,rd1,hma,hden]
theorem qp9 {q:BQ} {S:Nat} (hq:Qz q S):∃t e,qjc q=some (t,(e,()))∧(e=0→qau t=some q∧t.size≤100000):=by
 obtain⟨a,b,hf,_,_⟩:=hq;unfold qjc qqe
 have ew:w64 (w64 ((2000:Int).tdiv 9)+2)=224:=by decide
 rw[ew];cases hfit:decide ((if ((q.2.1.length:Nat):Int)>((q.1.2.1.length:Nat):Int) then((q.2.1.length:Nat):Int) else((q.1.2.1.length:Nat):Int))>224)
 rotate_left
 ·exact⟨_,_,rfl,fun h=>by cases h⟩
 rw[cond_false];have hfit:=of_decide_eq_false hfit
 have hl1:q.1.2.1.length≤400∧q.2.1.length≤400:=by split at hfit<;>omega
 obtain⟨B,rfl⟩:=Int.eq_ofNat_of_zero_le (Int.le_of_lt hf.pos);obtain⟨t1,a1,a2,a3,a4,a5⟩:=qrm hf.num.abs hl1.1;obtain⟨t2,b1,b2,b3,b4,b5⟩:=qrm hf.den hl1.2;obtain⟨t3,ht3⟩:∃t3,gopt (decide (((t1.size:Nat):Int)≤2000)) ByteArray.empty (qbG q.2.1)=some t3:=by
  rw[b1]
  cases decide (((t1.size:Nat):Int)≤2000)<;>exact⟨_,rfl⟩
 rw[a1,Option.bind_some,ht3,Option.bind_some,Option.bind_some];cases hb:(!(decide (((t1.size:Nat):Int)≤2000)&&decide (((t3.size:Nat):Int)≤2000)))
 rotate_left
 ·exact⟨_,_,rfl,fun h=>by cases h⟩
 rw[cond_false];obtain⟨t4,ht4,h4b,h4s⟩:∃t4:ByteArray,(bif q.1.1 then req (qcF (ByteArray.mk #[45]) t1) (some ((((ByteArray.mk #[45])++t1),()),())) else some ((t1,()),()))=some ((t4,()),())∧bs t4=(if q.1.1=true then [45] else [])++bs t1∧t4.size≤10001:=by
  have z1:(ByteArray.mk #[45]).size=1:=rfl
  cases q.1.1 with
  | true =>
   refine⟨(ByteArray.mk #[45])++t1,?_,?_,?_⟩
   ·rw[cond_true,show qcF (ByteArray.mk #[45]) t1=true from Nat.ble_eq_true_of_le (by rw[z1];omega),qc]
   ·show((ByteArray.mk #[45])++t1).data.toList=_;rw[qui];rfl
   ·rw[ByteArray.size_append,z1];omega
  | false=>exact⟨t1,rfl,rfl,by omega⟩
 obtain⟨t5,ht5,h5b,h5s⟩:∃t5:ByteArray,(bif (!(decide (q.2.1=[1]))) then(Option.bind (qbG q.2.1) fun r6=>req (qcF (ByteArray.mk #[47]) r6) (req (qcF t4 ((ByteArray.mk #[47])++r6)) (some (((t4++((ByteArray.mk #[47])++r6)),()),())))) else some ((t4,()),()))=some ((t5,()),()) ∧
   bs t5=bs t4++(if q.2.1=[1] then [] else 47::bs t2)∧t5.size≤100000:=by
  have z1:(ByteArray.mk #[47]).size=1:=rfl;by_cases h:q.2.1=[1]
  ·rw[decide_eq_true h,if_pos h,List.append_nil];exact⟨t4,rfl,rfl,by omega⟩
  ·rw[decide_eq_false h,if_neg h];refine⟨t4++((ByteArray.mk #[47])++t2),?_,?_,?_⟩
   ·rw[Bool.not_false,cond_true,b1,Option.bind_some,show qcF (ByteArray.mk #[47]) t2=true from Nat.ble_eq_true_of_le (by rw[z1];omega),qc,show qcF t4 ((ByteArray.mk #[47])++t2)=true from Nat.ble_eq_true_of_le (by rw[ByteArray.size_append,z1];omega),qc]
   ·show(t4++((ByteArray.mk #[47])++t2)).data.toList=_;rw[qui,qui];rfl
   ·rw[ByteArray.size_append,ByteArray.size_append,z1];omega
 have hx:qlZ q=some t5:=by
  unfold qlZ;rw[a1,Option.bind_some,ht4,Option.bind_some,qud,Option.bind_some];simp only[ht5,Option.bind_some]
 rw[hx,Option.bind_some];refine⟨t5,0,rfl,fun _=>⟨qve hf a2 a3 a4 a5 b2 (by rw[b3]) b5 ?_ h5s,h5s⟩⟩;rw[h5b,h4b,List.append_assoc]
end Lvl
namespace Lvl
set_option linter.unusedVariables false
set_option linter.unusedSimpArgs false
def TL:Nat:=9223372036854775807
theorem TL_eq:TL=9223372036854775807:=rfl
theorem ne0 {e:Int} (h:e≠0):(e !=0)=true:=bne_iff_ne.2 h
theorem eq0:((0:Int)!=0)=false:=rfl
theorem qsF {f:(Int×Unit)×Unit→Option (((Int×Unit)×Unit) ⊕ ((Unit×Unit) ⊕ Int))} (n:Nat) (P:Nat→Prop)
  (h:∀i:Nat,i<n→(f (((i:Int),()),())=some (.inl ((((i+1:Nat):Int),()),()))∧P i)∨∃e,f (((i:Int),()),())=some (.inr (.inr e))∧e≠0∧¬P i)
  (h2:f (((n:Int),()),())=some (.inr (.inl ((),())))) :
  ∃c:Int,Option.bind (iterW f ((0,()),())) (Sum.elim (fun _=>some (0:Int)) some)=some c∧(c=0↔∀i,i<n→P i):=by
 obtain⟨r,h3,h4⟩:=qg (f:=f) (fun s=>∃i:Nat,s=(((i:Int),()),())∧i≤n∧∀k,k<i→P k) (fun s=>n-s.1.1.toNat)
  (fun r=>(r = .inl ((),())∧∀i,i<n→P i)∨∃e,r = .inr e∧e≠0∧∃i,i<n∧¬P i) (by
  rintro s ⟨i,rfl,hi,hp⟩
  by_cases hlt:i<n
  ·rcases h i hlt with ⟨h3,h4⟩ | ⟨e,h3,h4,h5⟩
   ·refine .inl ⟨_,h3,⟨i+1,rfl,hlt,fun k hk=>?_⟩,?_⟩
    ·by_cases hki:k=i
     ·rw[hki];exact h4
     ·exact hp k (by omega)
    ·show n-((i+1:Nat):Int).toNat<n-(i:Int).toNat;omega
   ·exact .inr ⟨_,h3,.inr ⟨e,rfl,h4,i,hlt,h5⟩⟩
  ·have:i=n:=by omega
   subst this
   exact .inr ⟨_,h2,.inl ⟨rfl,hp⟩⟩) ((0,()),()) ⟨0,rfl,Nat.zero_le _,fun k hk=>absurd hk (Nat.not_lt_zero _)⟩
 rw[h3,Option.bind_some];rcases h4 with ⟨rfl,h5⟩ | ⟨e,rfl,h5,i,h6,h7⟩
 ·exact⟨0,rfl,fun _=>h5,fun _=>rfl⟩
 ·exact⟨e,rfl,fun h=>absurd h h5,fun h=>absurd (h i h6) h7⟩
theorem qeP {A B:Type} {f:(List A×Int×Unit)×Unit→Option (((List A×Int×Unit)×Unit) ⊕ B)} (n:Nat) (P:Nat→A→Prop) (Bad:B→Prop) (fin:List A→B)
  (h:∀(o:List A) (i:Nat),i<n→o.length=i→(∃a,f ((o,((i:Int),())),())=some (.inl ((o++[a],(((i+1:Nat):Int),())),()))∧P i a)∨∃r,f ((o,((i:Int),())),())=some (.inr r)∧Bad r)
  (h2:∀o:List A,o.length=n→f ((o,((n:Int),())),())=some (.inr (fin o))) :
  ∃r,iterW f (([],(0,())),())=some r∧(Bad r∨∃o,r=fin o∧o.length=n∧∀i (hi:i<o.length),P i o[i]):=by
 refine qg (f:=f) (fun s=>∃(o:List A) (i:Nat),s=((o,((i:Int),())),())∧i≤n∧o.length=i∧∀k (hk:k<o.length),P k o[k]) (fun s=>n-s.1.2.1.toNat)
  (fun r=>Bad r∨∃o,r=fin o∧o.length=n∧∀i (hi:i<o.length),P i o[i]) ?_ _ ⟨[],0,rfl,Nat.zero_le _,rfl,fun k hk=>absurd hk (Nat.not_lt_zero _)⟩
 rintro s ⟨o,i,rfl,hi,hl,hp⟩
 by_cases hlt:i<n
 ·rcases h o i hlt hl with ⟨a,h3,h4⟩ | ⟨r,h3,h4⟩
  ·refine .inl ⟨_,h3,⟨o++[a],i+1,rfl,hlt,by simp;omega,fun k hk=>?_⟩,?_⟩
   ·rw[List.getElem_append];split
    ·exact hp k _
    ·have:k=i:=by simp at hk;omega
     subst this;simp only[hl,Nat.sub_self,List.getElem_cons_zero];exact h4
   ·show n-((i+1:Nat):Int).toNat<n-(i:Int).toNat;omega
  ·exact .inr ⟨_,h3,.inl h4⟩
 ·have:i=n:=by omega
  subst this;exact .inr ⟨_,h2 o hl,.inr ⟨o,rfl,hl,hp⟩⟩
theorem qmU (l:List ByteArray) (hl:l.length≤1000) (hr:∀r∈l,r.size≤TL):∃c,qcK l=some c∧(c=0↔∀r∈l,qO r=some 0):=by
 obtain⟨c,h1,h2⟩:=qsF (f:=qbO l) l.length (fun i=>∀hi:i<l.length,qO l[i]=some 0) (fun i hi=>by
  obtain⟨c,k1,_⟩:=qdF l[i] (hr _ (List.getElem_mem hi));have hd:decide ((i:Int)<((l.length:Nat):Int))=true:=decide_eq_true (by omega)
  have hw:w64 ((i:Int)+1)=((i+1:Nat):Int):=by rw[qi (by omega) (by omega)];rfl
  by_cases hc:c=0
  ·subst hc;refine .inl ⟨?_,fun _=>k1⟩;unfold qbO;simp only[hd,cond_true,qp l hi,Option.bind_some,k1,eq0,cond_false,hw]
  ·refine .inr ⟨c,?_,hc,fun h=>?_⟩
   ·unfold qbO;simp only[hd,cond_true,qp l hi,Option.bind_some,k1,ne0 hc]
   ·have:=h hi;rw[k1] at this
    exact hc (Option.some.inj this)) (by
  have hd:decide (((l.length:Nat):Int)<((l.length:Nat):Int))=false:=decide_eq_false (by omega);unfold qbO
  simp only[hd,cond_false])
 refine⟨c,h1,h2.trans ⟨fun h r hr'=>?_,fun h i _ hi=>h _ (List.getElem_mem hi)⟩⟩;obtain⟨i,hi,rfl⟩:=List.getElem_of_mem hr';exact h i hi hi
theorem qo9 {a b:ByteArray} (ha:a.size≤TL) (hb:b.size≤TL):∃c,qcK [a,b]=some c∧(c=0↔qO a=some 0∧qO b=some 0):=by
 obtain⟨c,h1,h2⟩:=qmU [a,b] (by simp) (fun r hr=>by
  rcases List.mem_cons.1 hr with rfl | h
  ·exact ha
  ·rw[List.mem_singleton.1 h];exact hb)
 exact⟨c,h1,h2.trans ⟨fun h=>⟨h a (by simp),h b (by simp)⟩,fun h r hr=>by
  rcases List.mem_cons.1 hr with rfl | h'
  ·exact h.1
  ·rw[List.mem_singleton.1 h'];exact h.2⟩⟩
theorem qnH {r:ByteArray} (h:qO r=some 0) (hr:r.size≤TL):∃q,Good r q:=by
 obtain⟨c,k1,k2⟩:=qdF r hr;rw[h] at k1;exact k2 (Option.some.inj k1).symm
theorem qnJ (r:ByteArray) (hr:r.size≤TL):∃c,qO r=some c:=(qdF r hr).imp fun _ h=>h.1
theorem qt8 {a b:ByteArray} (ha:a.size≤TL) (hb:b.size≤TL):∃t e,qga a b=some (t,(e,())) ∧
  (e=0→qO a=some 0∧qO b=some 0∧∃p q w,Good a p∧Good b q∧qie p q=some w∧qjc w=some (t,(0,()))):=by
 obtain⟨c,h1,h2⟩:=qo9 ha hb;unfold qga;rw[h1,Option.bind_some];by_cases hc:c=0
 ·obtain⟨ca,cb⟩:=h2.1 hc;obtain⟨p,hp⟩:=qnH ca ha;obtain⟨q,hq⟩:=qnH cb hb;obtain⟨p1,p2,p3⟩:=id hp;obtain⟨q1,q2,q3⟩:=id hq;obtain⟨x,y,f1,f2,f3⟩:=id p2;obtain⟨z,u,g1,g2,g3⟩:=id q2;obtain⟨w,v,s,w1,w2,_,w4,w5⟩:=ql9 f1 g1 f2 f3 g2 g3 (by rw[E0_eq];omega);obtain⟨t,e,o1,o2⟩:=qp9 (S:=E0+E0+1) ⟨v,s,w2,w4,w5.mono (Nat.le_succ _)⟩;subst hc;simp only[eq0,cond_false,p1,q1,w1,o1,Option.bind_some];refine⟨t,e,rfl,fun he=>⟨ca,cb,p,q,w,hp,hq,w1,?_⟩⟩;rw[o1,he]
 ·simp only[ne0 hc,cond_true,Option.bind_some];exact⟨_,_,rfl,fun he=>absurd he hc⟩
theorem sub_text {a b t:ByteArray} {p q w:BQ} (ha:a.size≤TL) (hb:b.size≤TL) (ca:qO a=some 0) (cb:qO b=some 0) (hp:qau a=some p) (hq:qau b=some q)
  (hw:qdJ p q=some w) (ho:qjc w=some (t,(0,()))):qpc a b=some (t,(0,())):=by
 obtain⟨c,h1,h2⟩:=qo9 ha hb;have hc:=h2.2 ⟨ca,cb⟩;subst hc;unfold qpc;rw[h1,Option.bind_some];simp only[eq0,cond_false,hp,hq,hw,ho,Option.bind_some]
theorem qtZ {a:ByteArray} (ha:a.size≤TL):∃t e,qoA a=some (t,(e,())) ∧
  (e=0→t.size≤100000∧qO a=some 0∧∃q,qau a=some q∧qau t=some ((((qaW q).1).1,((((qaW q).1).2).1,())),(((qaW q).2).1,()))):=by
 obtain⟨c,h1⟩:=qnJ a ha;unfold qoA;rw[h1,Option.bind_some];by_cases hc:c=0
 ·subst hc;obtain⟨q,q1,q2,q3⟩:=qnH h1 ha;obtain⟨x,y,f1,f2,f3⟩:=id q2;obtain⟨t,e,o1,o2⟩:=qp9 (q:=((((qaW q).1).1,((((qaW q).1).2).1,())),(((qaW q).2).1,()))) ⟨-x,y,qo2 (qopp_fq f1),f2.neg,f3⟩;simp only[eq0,cond_false,q1,Option.bind_some,o1];exact⟨t,e,rfl,fun he=>⟨(o2 he).2,trivial,q,rfl,(o2 he).1⟩⟩
 ·simp only[ne0 hc,cond_true,Option.bind_some];exact⟨_,_,rfl,fun he=>absurd he hc⟩
theorem add_neg {d s n t:ByteArray} (hd:d.size≤TL) (hs:s.size≤TL) (hn:n.size≤TL) (hneg:qoA s=some (n,(0,()))) (hadd:qga d n=some (t,(0,()))):qpc d s=some (t,(0,())):=by
 obtain⟨n',e',k1,k2⟩:=qtZ hs;rw[hneg] at k1;cases k1;obtain⟨_,cs,q,q1,q2⟩:=k2 rfl;obtain⟨t',e',k3,k4⟩:=qt8 hd hn;rw[hadd] at k3;cases k3;obtain⟨cd,_,p,q',w,hp,hq',hw,ho⟩:=k4 rfl;have:q'=((((qaW q).1).1,((((qaW q).1).2).1,())),(((qaW q).2).1,())):=by
  have:=hq'.1;rw[q2] at this;exact(Option.some.inj this).symm
 subst this;refine sub_text hd hs cd cs hp.1 q1 ?_ ho;unfold qdJ;rw[hw];rfl
structure Fine (m:List (List ByteArray)) (n:Nat):Prop where
 m0:0<m.length
 m1:m.length≤12
 n0:0<n
 n1:n≤12
 row:∀r∈m,r.length=n∧∀t∈r,qO t=some 0
def Sized (m:List (List ByteArray)):Prop:=∀r∈m,r.length≤TL∧∀t∈r,t.size≤TL
theorem qun {v:List ByteArray} (hl:v.length≤TL) (hv:∀t∈v,t.size≤TL):∃c,qbP v=some c∧(c=0→∀t∈v,qO t=some 0):=by
 unfold qbP;by_cases h:v.length≤40
 ·rw[decide_eq_false (by omega),cond_false];obtain⟨c,h1,h2⟩:=qmU v (by omega) hv;rw[h1,Option.bind_some];exact⟨c,rfl,h2.1⟩
 ·rw[decide_eq_true (by omega),cond_true];exact⟨2,rfl,fun h=>by cases h⟩
theorem qs2 {m:List (List ByteArray)} (hm:Sized m) (hl:m.length≤12):∃c,qfe m=some c∧(c=0→∀h0:0<m.length,∀r∈m,r.length=m[0].length∧∀t∈r,qO t=some 0):=by
 unfold qfe;rw[decide_eq_false (by omega),cond_false]
 obtain⟨c,h1,h2⟩:=qsF (f:=qa8 m) m.length (fun i=>∀(hi:i<m.length) (h0:0<m.length),m[i].length=m[0].length∧qbP m[i]=some 0) (fun i hi=>by
  have h0:0<m.length:=by omega
  have hd:decide ((i:Int)<((m.length:Nat):Int))=true:=decide_eq_true (by omega)
  have hw:w64 ((i:Int)+1)=((i+1:Nat):Int):=by rw[qi (by omega) (by omega)];rfl
  have a0:at? m (0:Int)=some m[0]:=qp m (i:=0) h0;by_cases hlen:m[i].length=m[0].length
  ·have hb:(((m[i].length:Nat):Int)!=((m[0].length:Nat):Int))=false:=by rw[hlen];exact bne_self_eq_false _
   have hmm:=hm _ (List.getElem_mem hi);obtain⟨c,k1,k2⟩:=qun hmm.1 hmm.2;by_cases hc:c=0
   ·subst hc;refine .inl ⟨?_,fun _ _=>⟨hlen,k1⟩⟩;unfold qa8;simp only[hd,cond_true,qp m hi,a0,Option.bind_some,hb,k1,eq0,cond_false,hw]
   ·refine .inr ⟨c,?_,hc,fun h=>?_⟩
    ·unfold qa8;simp only[hd,cond_true,qp m hi,a0,Option.bind_some,hb,k1,ne0 hc,cond_false]
    ·have:=(h hi h0).2;rw[k1] at this;exact hc (Option.some.inj this)
  ·have hb:(((m[i].length:Nat):Int)!=((m[0].length:Nat):Int))=true:=bne_iff_ne.2 (by omega);refine .inr ⟨3,?_,by decide,fun h=>hlen (h hi h0).1⟩;unfold qa8
   simp only[hd,cond_true,qp m hi,a0,Option.bind_some,hb]) (by
  have hd:decide (((m.length:Nat):Int)<((m.length:Nat):Int))=false:=decide_eq_false (by omega);unfold qa8
  simp only[hd,cond_false])
 refine⟨c,h1,fun hc h0 r hr=>?_⟩;obtain⟨i,hi,rfl⟩:=List.getElem_of_mem hr;obtain⟨k1,k2⟩:=h2.1 hc i hi hi h0;have hmm:=hm _ hr;obtain⟨c',k3,k4⟩:=qun hmm.1 hmm.2;rw[k2] at k3;exact⟨k1,k4 (Option.some.inj k3).symm⟩
theorem qu0 (m:List (List ByteArray)):qd4 m=some (if h:0<m.length then((m[0].length:Nat):Int) else 0):=by
 unfold qd4;by_cases h:0<m.length
 ·rw[dif_pos h,show(((m.length:Nat):Int)==0)=false from beq_eq_false_iff_ne.2 (by omega),cond_false,show at? m (0:Int)=some m[0] from qp m (i:=0) h];rfl
 ·rw[dif_neg h,show(((m.length:Nat):Int)==0)=true from beq_iff_eq.2 (by omega),cond_true]
theorem qim {m:List (List ByteArray)} (hm:Sized m):∃c,qaO m=some c∧(c=0→∃n,Fine m n):=by
 unfold qaO;by_cases hl:m.length≤12
 ·rw[decide_eq_false (by omega),cond_false];obtain⟨c,h1,h2⟩:=qs2 hm hl;rw[h1,Option.bind_some];by_cases hc:c=0
  ·subst hc;rw[eq0,cond_false];simp only[qu0,Option.bind_some];by_cases h0:0<m.length
   ·simp only[dif_pos h0];by_cases hw:m[0].length=0
    ·rw[show(((m[0].length:Nat):Int)==0)=true from beq_iff_eq.2 (by omega),cond_true];exact⟨8,rfl,fun h=>by cases h⟩
    ·rw[show(((m[0].length:Nat):Int)==0)=false from beq_eq_false_iff_ne.2 (by omega),cond_false];by_cases hw2:m[0].length≤12
     ·rw[decide_eq_false (by omega),cond_false];exact⟨0,rfl,fun _=>⟨m[0].length,h0,hl,by omega,hw2,h2 rfl h0⟩⟩
     ·rw[decide_eq_true (by omega),cond_true];exact⟨2,rfl,fun h=>by cases h⟩
   ·simp only[dif_neg h0];exact⟨8,rfl,fun h=>by cases h⟩
  ·rw[ne0 hc,cond_true];exact⟨c,rfl,fun h=>absurd h hc⟩
 ·rw[decide_eq_true (by omega),cond_true];exact⟨2,rfl,fun h=>by cases h⟩
end Lvl
end Go.Proofs.YteahiolockghkaaGreatDoor
namespace Go.Proofs.YteahiolockghkaaGreatDoor
namespace Lvl
set_option linter.unusedVariables false
set_option linter.unusedSimpArgs false

def sumTo:Nat→(Nat→Int)→Int
 | 0,_=>0
 | n+1,f=>sumTo n f+f n
theorem qN {f g:Nat→Int}:∀ {n:Nat},(∀j,j<n→f j=g j)→sumTo n f=sumTo n g
 | 0,_=>rfl
 | n+1,h=>by
  show sumTo n f+f n=sumTo n g+g n;rw[qN fun j hj=>h j (by omega),h n (by omega)]
theorem qcG {f:Nat→Int}:∀ {n:Nat},(∀j,j<n→f j=0)→sumTo n f=0
 | 0,_=>rfl
 | n+1,h=>by
  show sumTo n f+f n=0;rw[qcG fun j hj=>h j (by omega),h n (by omega)];rfl
theorem qe4 (f g:Nat→Int):∀n:Nat,sumTo n (fun j=>f j+g j)=sumTo n f+sumTo n g
 | 0=>rfl
 | n+1=>by
  show sumTo n (fun j=>f j+g j)+(f n+g n)=(sumTo n f+f n)+(sumTo n g+g n);rw[qe4 f g n];omega
theorem qav (a:Int) (f:Nat→Int):∀n:Nat,sumTo n (fun j=>a*f j)=a*sumTo n f
 | 0=>by simp[sumTo]
 | n+1=>by
  show sumTo n (fun j=>a*f j)+a*f n=a*(sumTo n f+f n);rw[qav a f n,Int.mul_add]
theorem qr2 (f g:Nat→Int) (n:Nat):sumTo n (fun j=>f j-g j)=sumTo n f-sumTo n g:=by
 have h:=qe4 f (fun j=>(-1)*g j) n;rw[qav (-1) g n] at h;rw[qN (g:=fun j=>f j+(-1)*g j) fun j _=>by omega,h];omega
theorem qpb (f:Nat→Nat→Int) (m:Nat):∀n:Nat,sumTo n (fun i=>sumTo m fun j=>f i j)=sumTo m fun j=>sumTo n fun i=>f i j
 | 0=>(qcG fun _ _=>rfl).symm
 | n+1=>by
  show sumTo n (fun i=>sumTo m fun j=>f i j)+sumTo m (fun j=>f n j)=sumTo m fun j=>sumTo n (fun i=>f i j)+f n j;rw[qpb f m n,qe4]
theorem qde {f:Nat→Int} {k:Nat}:∀ {n:Nat},k<n→(∀j,j<n→j≠k→f j=0)→sumTo n f=f k
 | n+1,hk,h=>by
  show sumTo n f+f n=f k;rcases Nat.lt_or_ge k n with h1 | h1
  ·rw[qde h1 fun j hj hn=>h j (by omega) hn,h n (by omega) (by omega)];omega
  ·obtain rfl:k=n:=by omega
   rw[qcG fun j hj=>h j (by omega) (by omega)];omega
theorem qst {f:Nat→Int} {k:Nat}:∀ {n:Nat},k+1<n→(∀j,j<n→j≠k→j≠k+1→f j=0)→sumTo n f=f k+f (k+1)
 | n+1,hk,h=>by
  show sumTo n f+f n=f k+f (k+1);rcases Nat.lt_or_ge (k+1) n with h1 | h1
  ·rw[qst h1 fun j hj hn hn'=>h j (by omega) hn hn',h n (by omega) (by omega) (by omega)];omega
  ·obtain rfl:n=k+1:=by omega
   rw[qde (k:=k) (by omega) fun j hj hn=>h j (by omega) hn (by omega)]
theorem qlT {f g:Nat→Int}:∀ {n:Nat},(∀j,j<n→f j≤g j)→sumTo n f≤sumTo n g
 | 0,_=>Int.le_refl _
 | n+1,h=>by
  have h1:=qlT (f:=f) (g:=g) (n:=n) fun j hj=>h j (by omega);have h2:=h n (by omega);show sumTo n f+f n≤sumTo n g+g n;omega
theorem qqW {f:Nat→Int} {n:Nat} (h:∀j,j<n→0≤f j):0≤sumTo n f:=by
 have:=qlT (f:=fun _=>0) h
 rwa [qcG fun _ _=>rfl] at this
theorem qqy {f:Nat→Int} {n:Nat} (h:∀j,j<n→f j≤0):sumTo n f≤0:=by
 have:=qlT (g:=fun _=>0) h
 rwa [qcG (f:=fun _=>0) fun _ _=>rfl] at this
theorem qru {f:Nat→Int} {n:Nat} (h:0<sumTo n f):∃j,j<n∧0<f j:=by
 refine Classical.byContradiction fun hn=>?_;have:=qqy (f:=f) (n:=n) fun j hj=>by
  by_cases h1:0<f j
  ·exact absurd ⟨j,hj,h1⟩ hn
  ·omega
 omega
def sgn (j:Nat):Int:=if j % 2=0 then 1 else -1
theorem sgn_succ (j:Nat):sgn (j+1) = - sgn j:=by
 unfold sgn;by_cases h:j % 2=0
 ·have h2:¬(j+1) % 2=0:=by omega
  rw[if_pos h,if_neg h2]
 ·have h2:(j+1) % 2=0:=by omega
  rw[if_neg h,if_pos h2];rfl
theorem sgn_abs (j:Nat):(sgn j).natAbs=1:=by
 unfold sgn
 split<;>rfl
def skip (j k:Nat):Nat:=if k<j then k else k+1
def setc (M:Nat→Nat→Int) (k:Nat) (v:Nat→Int):Nat→Nat→Int:=fun c=>if c=k then v else M c
def det:Nat→(Nat→Nat→Int)→Int
 | 0,_=>1
 | n+1,M=>sumTo (n+1) fun j=>sgn j*M j 0*det n fun k i=>M (skip j k) (i+1)
theorem qi0:∀ {n:Nat} {M N:Nat→Nat→Int},(∀k,k<n→∀i,i<n→M k i=N k i)→det n M=det n N
 | 0,_,_,_=>rfl
 | n+1,M,N,h=>qN fun j hj=>by
  rw[h j hj 0 (by omega),qi0 (n:=n) (N:=fun k i=>N (skip j k) (i+1)) fun k hk i hi=>h _ (by unfold skip;split<;>omega) _ (by omega)]
theorem qnM {M:Nat→Nat→Int} {j k:Nat} {w:Nat→Int} (hjk:j≠k):(fun c i=>setc M k w (skip j c) (i+1))=setc (fun c i=>M (skip j c) (i+1)) (if k<j then k else k-1) (fun i=>w (i+1)):=by
 funext c i;unfold setc skip;by_cases h1:k<j
 ·simp only[h1,if_true];by_cases h2:c=k
  ·subst h2;simp[h1]
  ·rw[if_neg (c:=c=k) h2,if_neg (by split<;>omega)]
 ·simp only[h1,if_false];by_cases h2:c=k-1
  ·subst h2
   rw[if_pos (c:=k-1=k-1) rfl,if_pos (by split<;>omega)]
  ·rw[if_neg (c:=c=k-1) h2,if_neg (by split<;>omega)]
theorem qkK {M:Nat→Nat→Int} {k:Nat} {w:Nat→Int}:(fun c i=>setc M k w (skip k c) (i+1))=(fun c i=>M (skip k c) (i+1)):=by
 funext c i;unfold setc skip
 rw[if_neg (by split<;>omega)]
theorem qkF:∀ {n:Nat} (M:Nat→Nat→Int) {k:Nat} (a b:Int) (u v:Nat→Int),k<n→det n (setc M k fun i=>a*u i+b*v i)=a*det n (setc M k u)+b*det n (setc M k v)
 | n+1,M,k,a,b,u,v,hk=>by
  show sumTo (n+1) _=a*sumTo (n+1) _+b*sumTo (n+1) _;rw[←qav,←qav,←qe4];refine qN fun j hj=>?_;by_cases hjk:j=k
  ·subst hjk;rw[qkK,qkK,qkK];simp only[setc,if_true]
   grind
  ·rw[qnM hjk,qnM hjk,qnM hjk,qkF (n:=n) _ a b (fun i=>u (i+1)) (fun i=>v (i+1)) (by split<;>omega)]
   simp only[setc,hjk,if_false]
   grind
theorem qtC:∀ {n:Nat} {M:Nat→Nat→Int} {k:Nat},k+1<n→M k=M (k+1)→det n M=0
 | n+1,M,k,hk,h=>by
  show sumTo (n+1) _=0;rw[qst (k:=k) hk fun j hj h1 h2=>?_]
  ·have e:(fun c i=>M (skip k c) (i+1))=(fun c i=>M (skip (k+1) c) (i+1)):=by
    funext c i;unfold skip;rcases Nat.lt_trichotomy c k with h1 | h1 | h1
    ·rw[if_pos h1,if_pos (by omega)]
    ·subst h1;rw[if_neg (by omega),if_pos (by omega),h]
    ·rw[if_neg (by omega),if_neg (by omega)]
   rw[e,h,sgn_succ]
   grind
  ·have:det n (fun c i=>M (skip j c) (i+1))=0:=by
    refine qtC (n:=n) (k:=if k<j then k else k-1) (by split<;>omega) ?_
    funext i;unfold skip;by_cases hkj:k<j
    ·simp only[hkj,if_true];rw[if_pos (by omega),h]
    ·simp only[hkj,if_false];rw[if_neg (by omega),if_neg (by omega),show k-1+1=k by omega,h]
   rw[this,Int.mul_zero]
theorem qmw (M:Nat→Nat→Int) (k:Nat):setc M k (M k)=M:=by
 funext c;unfold setc;split
 ·rename_i h;rw[h]
 ·rfl
theorem qe8 (M:Nat→Nat→Int) (k:Nat) (v:Nat→Int):setc M k v k=v:=if_pos rfl
theorem qgq (M:Nat→Nat→Int) {k c:Nat} (v:Nat→Int) (h:c≠k):setc M k v c=M c:=if_neg h
theorem det_swap {n:Nat} (M:Nat→Nat→Int) {k:Nat} (hk:k+1<n):det n (setc (setc M k (M (k+1))) (k+1) (M k)) = - det n M:=by
 have key:∀u v:Nat→Int,det n (setc (setc M k u) (k+1) v) = - det n (setc (setc M k v) (k+1) u):=fun u v=>by
  have comm:∀x y:Nat→Int,setc (setc M k x) (k+1) y=setc (setc M (k+1) y) k x:=fun x y=>by
   funext c;unfold setc;by_cases h1:c=k+1
   ·subst h1;simp
   ·simp[h1]
  have same:∀x:Nat→Int,det n (setc (setc M k x) (k+1) x)=0:=fun x=>qtC hk (by rw[qe8,qgq _ _ (by omega),qe8]);have h1:=same fun i=>1*u i+1*v i;rw[qkF _ 1 1 u v hk,comm,comm,qkF _ 1 1 u v (by omega),qkF _ 1 1 u v (by omega),←comm,←comm,←comm,←comm,same,same] at h1;omega
 rw[key]
 have:setc (setc M k (M k)) (k+1) (M (k+1))=M:=by rw[qmw,qmw]
 rw[this]
theorem qty {n:Nat}:∀(t:Nat) {M:Nat→Nat→Int} {i j:Nat},j=i+1+t→j<n→M i=M j→det n M=0
 | 0,M,i,j,hj,hn,h=>by subst hj;exact qtC hn h
 | t+1,M,i,j,hj,hn,h=>by
  have hj1:j-1+1=j:=by omega
  have hs:=det_swap (n:=n) M (k:=j-1) (by omega);rw[hj1] at hs;have:det n (setc (setc M (j-1) (M j)) j (M (j-1)))=0:=by
   refine qty t (i:=i) (j:=j-1) (by omega) (by omega) ?_;rw[qgq _ _ (by omega),qgq _ _ (by omega),qgq _ _ (by omega),qe8,h]
  omega
theorem det_eq {n:Nat} {M:Nat→Nat→Int} {i j:Nat} (hi:i<n) (hj:j<n) (hne:i≠j) (h:M i=M j):det n M=0:=by
 rcases Nat.lt_or_ge i j with h1 | h1
 ·exact qty (j-i-1) (by omega) hj h
 ·exact qty (i-j-1) (by omega) hi h.symm
theorem qqn {n:Nat} (M:Nat→Nat→Int) {k:Nat} (a:Int) (u:Nat→Int) (hk:k<n):det n (setc M k fun i=>a*u i)=a*det n (setc M k u):=by
 have h:=qkF M a 0 u u hk;rw[show(fun i=>a*u i+0*u i)=fun i=>a*u i by funext i;omega] at h;rw[h];omega
theorem det_sum {n:Nat} (M:Nat→Nat→Int) {k:Nat} (hk:k<n) (a:Nat→Int) (v:Nat→Nat→Int):∀L:Nat,det n (setc M k fun i=>sumTo L fun l=>a l*v l i)=sumTo L fun l=>a l*det n (setc M k (v l))
 | 0=>by
  have h:=qqn M 0 (fun _=>0) hk
  have e:(fun i=>(0:Int)*(fun _:Nat=>(0:Int)) i)=fun i=>sumTo 0 fun l=>a l*v l i:=by funext i;simp[sumTo]
  rw[e] at h;rw[h];simp[sumTo]
 | L+1=>by
  show _=sumTo L (fun l=>a l*det n (setc M k (v l)))+a L*det n (setc M k (v L));rw[←det_sum M hk a v L];have h:=qkF M 1 (a L) (fun i=>sumTo L fun l=>a l*v l i) (v L) hk;have e:(fun i=>1*(fun i=>sumTo L fun l=>a l*v l i) i+a L*v L i)=fun i=>sumTo (L+1) fun l=>a l*v l i:=by
   funext i;show 1*sumTo L _+_=sumTo L _+_;rw[Int.one_mul]
  rw[e] at h;rw[h,Int.one_mul]
theorem qum {n:Nat} (M:Nat→Nat→Int) {k:Nat} (hk:k<n) (a:Nat→Int):det n (setc M k fun i=>sumTo n fun l=>a l*M l i)=a k*det n M:=by
 rw[det_sum M hk a M n,qde hk fun l hl hne=>?_,qmw];rw[det_eq hl hk hne (by rw[qe8,qgq _ _ hne]),Int.mul_zero]
theorem det_one:∀n:Nat,det n (fun k i=>if k=i then 1 else 0)=1
 | 0=>rfl
 | n+1=>by
  show sumTo (n+1) _=1;rw[qde (k:=0) (by omega) fun j hj hne=>?_]
  ·have e:(fun k i=>(fun k i=>if k=i then(1:Int) else 0) (skip 0 k) (i+1))=fun k i=>if k=i then(1:Int) else 0:=by
    funext k i;show(if k+1=i+1 then(1:Int) else 0)=_;by_cases h:k=i
    ·subst h;simp
    ·rw[if_neg (by omega),if_neg h]
   rw[e,det_one n];rfl
  ·have:(if j=0 then(1:Int) else 0)=0:=if_neg hne;simp only[this];simp
def fac:Nat→Nat
 | 0=>1
 | n+1=>(n+1)*fac n
theorem qrS {f:Nat→Int} {B:Nat}:∀ {n:Nat},(∀j,j<n→(f j).natAbs≤B)→(sumTo n f).natAbs≤n*B
 | 0,_=>Nat.zero_le _
 | n+1,h=>by
  have h1:=qrS (f:=f) (B:=B) (n:=n) fun j hj=>h j (by omega);have h2:=h n (by omega);show(sumTo n f+f n).natAbs≤_;rw[Nat.add_mul];omega
theorem qnf:∀ {n:Nat} {M:Nat→Nat→Int} {B:Nat},(∀k,k<n→∀i,i<n→(M k i).natAbs≤B)→(det n M).natAbs≤fac n*B ^ n
 | 0,_,_,_=>Nat.le_refl _
 | n+1,M,B,h=>by
  have h1:∀j,j<n+1→(sgn j*M j 0*det n fun k i=>M (skip j k) (i+1)).natAbs≤B*(fac n*B ^ n):=fun j hj=>by
   rw[Int.natAbs_mul,Int.natAbs_mul,sgn_abs,Nat.one_mul]
   exact Nat.mul_le_mul (h j hj 0 (by omega)) (qnf fun k hk i hi=>h _ (by unfold skip;split<;>omega) _ (by omega))
  refine Nat.le_trans (qrS h1) (Nat.le_of_eq ?_);show(n+1)*(B*(fac n*B ^ n))=(n+1)*fac n*B ^ (n+1);rw[Nat.pow_succ];simp only[Nat.mul_assoc,Nat.mul_comm,Nat.mul_left_comm]
end Lvl
namespace Lvl
set_option linter.unusedVariables false
set_option linter.unusedSimpArgs false

structure Tab where
 T:Nat→Nat→Int
 d:Int
 b:Nat→Nat
def basM (m:Nat) (T0:Nat→Nat→Int) (b:Nat→Nat):Nat→Nat→Int:=fun k i=>if k<m then T0 i (b k) else(if k=i then 1 else 0)
structure Inv (m n:Nat) (T0:Nat→Nat→Int) (s:Tab):Prop where
 pos:0<s.d
 dt:det (m+1) (basM m T0 s.b)=s.d
 i1:∀i j,i<m+1→j<n+m+1→s.d*T0 i j=sumTo (m+1) fun k=>s.T k j*basM m T0 s.b k i
 i2:∀i j,i<m+1→j<n+m+1→s.T i j=sumTo m (fun k=>s.T i (n+k)*T0 k j)+(if i=m then s.d*T0 m j else 0)
 i3:∀k l,k<m+1→l<m→s.T k (s.b l)=if k=l then s.d else 0
 bl:∀l,l<m→s.b l<n+m
 fe:∀k,k<m→0≤s.T k (n+m)
def pv (s:Tab) (r c:Nat):Tab:=⟨fun i j=>if i=r then s.T r j else(s.T i j*s.T r c-s.T i c*s.T r j) / s.d,s.T r c,fun k=>if k=r then c else s.b k⟩
section
variable {m n : Nat} {T0 : Nat → Nat → Int} {s : Tab}
theorem basM_set {b:Nat→Nat} {r c:Nat} (hr:r<m):basM m T0 (fun k=>if k=r then c else b k)=setc (basM m T0 b) r (fun i=>T0 i c):=by
 funext k i;unfold basM setc;by_cases h:k=r
 ·subst h;simp[hr]
 ·simp[h]
theorem cramer (h:Inv m n T0 s) {k j:Nat} (hk:k<m+1) (hj:j<n+m+1):s.T k j=det (m+1) (setc (basM m T0 s.b) k fun i=>T0 i j):=by
 have h1:=qum (basM m T0 s.b) hk (fun l=>s.T l j)
 have h2:det (m+1) (setc (basM m T0 s.b) k fun i=>sumTo (m+1) fun l=>s.T l j*basM m T0 s.b l i)=det (m+1) (setc (basM m T0 s.b) k fun i=>s.d*T0 i j) :=
  qi0 fun q hq i hi=>by
   unfold setc;split
   ·exact(h.i1 i j hi hj).symm
   ·rfl
 rw[h2,qqn _ _ _ hk,h.dt,Int.mul_comm (s.T k j)] at h1;exact(Int.eq_of_mul_eq_mul_left (Int.ne_of_gt h.pos) h1).symm
theorem qvK {s':Tab} (h:Inv m n T0 s) (h':Inv m n T0 s') (hb:∀l,l<m→s.b l=s'.b l):s.d=s'.d∧∀k j,k<m+1→j<n+m+1→s.T k j=s'.T k j:=by
 have e:basM m T0 s.b=basM m T0 s'.b:=by
  funext k i;unfold basM;split
  ·rename_i hk;rw[hb k hk]
  ·rfl
 refine⟨by rw[←h.dt,←h'.dt,e],fun k j hk hj=>?_⟩;rw[cramer h hk hj,cramer h' hk hj,e]
theorem qua (h:Inv m n T0 s) {r c i j:Nat} (hr:r<m) (hc:c<n+m+1) (hi:i<m+1) (hj:j<n+m+1) :
  sumTo (m+1) (fun k=>(if k=r then s.d*s.T r j else s.T k j*s.T r c-s.T k c*s.T r j)*setc (basM m T0 s.b) r (fun i=>T0 i c) k i)=s.T r c*s.d*T0 i j:=by
 have e:∀k,k<m+1→(if k=r then s.d*s.T r j else s.T k j*s.T r c-s.T k c*s.T r j)*setc (basM m T0 s.b) r (fun i=>T0 i c) k i
   = (s.T r c*(s.T k j*basM m T0 s.b k i)-s.T r j*(s.T k c*basM m T0 s.b k i))+(if k=r then s.d*s.T r j*T0 i c else 0):=fun k hk=>by
  by_cases h1:k=r
  ·subst h1;rw[qe8,if_pos rfl,if_pos rfl]
   grind
  ·rw[qgq _ _ h1,if_neg h1,if_neg h1]
   grind
 rw[qN e,qe4,qr2,qav,qav,←h.i1 i j hi hj,←h.i1 i c hi hc,qde (k:=r) (by omega) (fun k hk hne=>if_neg hne),if_pos rfl]
 grind
theorem det_new (h:Inv m n T0 s) {r c:Nat} (hr:r<m) (hc:c<n+m+1):det (m+1) (setc (basM m T0 s.b) r fun i=>T0 i c)=s.T r c:=(cramer h (by omega) hc).symm
theorem exact(h:Inv m n T0 s) {r c k j:Nat} (hr:r<m) (hc:c<n+m+1) (hp:s.T r c≠0) (hk:k<m+1) (hkr:k≠r) (hj:j<n+m+1):s.d ∣ s.T k j*s.T r c-s.T k c*s.T r j:=by
 have h1:=qum (setc (basM m T0 s.b) r fun i=>T0 i c) hk (fun k=>if k=r then s.d*s.T r j else s.T k j*s.T r c-s.T k c*s.T r j);have h2:det (m+1) (setc (setc (basM m T0 s.b) r fun i=>T0 i c) k fun i=>sumTo (m+1) fun l=>(if l=r then s.d*s.T r j else s.T l j*s.T r c-s.T l c*s.T r j)*setc (basM m T0 s.b) r (fun i=>T0 i c) l i)
   = det (m+1) (setc (setc (basM m T0 s.b) r fun i=>T0 i c) k fun i=>s.T r c*s.d*T0 i j):=qi0 fun q hq i hi=>by
  by_cases hqk:q=k
  ·subst hqk;rw[qe8,qe8];exact qua h hr hc hi hj
  ·rw[qgq _ _ hqk,qgq _ _ hqk]
 rw[h2,qqn _ _ _ hk,det_new h hr hc,if_neg hkr] at h1;refine⟨det (m+1) (setc (setc (basM m T0 s.b) r fun i=>T0 i c) k fun i=>T0 i j),?_⟩;refine Int.eq_of_mul_eq_mul_left hp ?_;rw[Int.mul_comm _ (s.T k j*_-_),←h1]
 grind
theorem qq6 (h:Inv m n T0 s) {r c k j:Nat} (hr:r<m) (hc:c<n+m+1) (hp:s.T r c≠0) (hk:k<m+1) (hkr:k≠r) (hj:j<n+m+1):s.d*(pv s r c).T k j=s.T k j*s.T r c-s.T k c*s.T r j:=by
 show s.d*(if k=r then _ else _)=_;rw[if_neg hkr];exact Int.mul_ediv_cancel' (exact h hr hc hp hk hkr hj)
theorem qm3 {r c j:Nat}:(pv s r c).T r j=s.T r j:=if_pos rfl
theorem pv_inv (h:Inv m n T0 s) {r c:Nat} (hr:r<m) (hc:c<n+m) (hp:0<s.T r c) (hq:∀i,i<m→0<s.T i c→s.T r (n+m)*s.T i c≤s.T i (n+m)*s.T r c):Inv m n T0 (pv s r c):=by
 have hp0:s.T r c≠0:=Int.ne_of_gt hp;have hd0:s.d≠0:=Int.ne_of_gt h.pos;have eb:basM m T0 (pv s r c).b=setc (basM m T0 s.b) r (fun i=>T0 i c):=basM_set hr;have hdT:∀k j,k<m+1→j<n+m+1→s.d*(pv s r c).T k j=if k=r then s.d*s.T r j else s.T k j*s.T r c-s.T k c*s.T r j:=fun k j hk hj=>by
  by_cases hkr:k=r
  ·subst hkr;rw[if_pos rfl,qm3]
  ·rw[if_neg hkr];exact qq6 h hr (by omega) hp0 hk hkr hj
 refine⟨hp,?_,fun i j hi hj=>?_,fun i j hi hj=>?_,fun k l hk hl=>?_,fun l hl=>?_,fun k hk=>?_⟩
 ·rw[eb];exact det_new h hr (by omega)
 ·have h1:=qua h hr (c:=c) (by omega) hi hj;refine Int.eq_of_mul_eq_mul_left hd0 ?_;show s.d*(s.T r c*T0 i j)=_;rw[←qav];rw[qN (g:=fun k=>(if k=r then s.d*s.T r j else s.T k j*s.T r c-s.T k c*s.T r j)*setc (basM m T0 s.b) r (fun i=>T0 i c) k i) fun k hk=>by
   rw[←Int.mul_assoc,hdT k j hk hj,eb],h1]
  grind
 ·by_cases hir:i=r
  ·subst hir;rw[if_neg (by omega),qm3];have:=h.i2 i j hi hj;rw[if_neg (by omega)] at this;rw[this];congr 1
   exact qN fun k hk=>by rw[qm3]
  ·refine Int.eq_of_mul_eq_mul_left hd0 ?_;rw[hdT i j hi hj,if_neg hir,Int.mul_add,←qav];rw[qN (g:=fun k=>s.T r c*(s.T i (n+k)*T0 k j)-s.T i c*(s.T r (n+k)*T0 k j)) fun k hk=>by
    rw[←Int.mul_assoc,hdT i (n+k) hi (by omega),if_neg hir];grind]
   rw[qr2,qav,qav];have e1:=h.i2 i j hi hj;have e2:=h.i2 r j (by omega) hj;rw[if_neg (by omega)] at e2;by_cases him:i=m
   ·rw[if_pos him] at e1 ⊢;show _=_+s.d*(s.T r c*T0 m j);generalize sumTo m (fun k=>s.T i (n+k)*T0 k j)=A at *;generalize sumTo m (fun k=>s.T r (n+k)*T0 k j)=B at *;rw[e1,e2]
    grind
   ·rw[if_neg him] at e1 ⊢;generalize sumTo m (fun k=>s.T i (n+k)*T0 k j)=A at *;generalize sumTo m (fun k=>s.T r (n+k)*T0 k j)=B at *;rw[e1,e2]
    grind
 ·have hrl:=h.i3 r l (by omega) hl;show(pv s r c).T k (if l=r then c else s.b l)=if k=l then s.T r c else 0;by_cases hlr:l=r
  ·subst hlr;rw[if_pos rfl];by_cases hkl:k=l
   ·subst hkl;rw[if_pos rfl,qm3]
   ·rw[if_neg hkl];show(if k=l then _ else _)=_;rw[if_neg hkl,Int.sub_self,Int.zero_ediv]
  ·rw[if_neg hlr];rw[if_neg (fun e=>hlr e.symm)] at hrl;by_cases hkr:k=r
   ·subst hkr;rw[qm3,hrl,if_neg (fun e=>hlr e.symm)]
   ·refine Int.eq_of_mul_eq_mul_left hd0 ?_;rw[qq6 h hr (by omega) hp0 hk hkr (by have:=h.bl l hl;omega),hrl,h.i3 k l hk hl];by_cases hkl:k=l
    ·simp[hkl]
    ·simp[hkl]
 ·show(if l=r then c else s.b l)<n+m;split
  ·exact hc
  ·exact h.bl l hl
 ·by_cases hkr:k=r
  ·subst hkr;rw[qm3];exact h.fe k hk
  ·have h1:=qq6 h hr (c:=c) (by omega) hp0 (k:=k) (by omega) hkr (j:=n+m) (by omega);have h2:0≤s.T k (n+m)*s.T r c-s.T k c*s.T r (n+m):=by
    have hf:=h.fe k hk;have hfr:=h.fe r hr;by_cases hkc:0<s.T k c
    ·have:=hq k hk hkc;rw[Int.mul_comm (s.T k c)];omega
    ·have g1:0≤s.T k (n+m)*s.T r c:=Int.mul_nonneg hf (Int.le_of_lt hp);have g2:s.T k c*s.T r (n+m)≤0:=Int.mul_nonpos_of_nonpos_of_nonneg (by omega) hfr;omega
   refine Classical.byContradiction fun hneg=>?_;have:s.d*(pv s r c).T k (n+m)<0:=Int.mul_neg_of_pos_of_neg h.pos (by omega);omega

structure Stp (m n:Nat) (s s':Tab) (r c:Nat):Prop where
 hr:r<m
 hc:c<n+m
 neg:s.T m c<0
 least:∀j,j<c→0≤s.T m j
 pos:0<s.T r c
 ratio:∀i,i<m→0<s.T i c→s.T r (n+m)*s.T i c≤s.T i (n+m)*s.T r c
 tie:∀i,i<m→0<s.T i c→s.T r (n+m)*s.T i c=s.T i (n+m)*s.T r c→s.b r≤s.b i
 eq:s'=pv s r c
theorem Stp.inv {s':Tab} {r c:Nat} (h:Inv m n T0 s) (st:Stp m n s s' r c):Inv m n T0 s':=by
 rw[st.eq];exact pv_inv h st.hr st.hc st.pos st.ratio
def fle (p q:Int×Int):Prop:=p.1*q.2≤q.1*p.2
theorem qdZ {p q r:Int×Int} (hp:0<p.2) (hq:0<q.2) (hr:0<r.2) (h1:fle p q) (h2:fle q r):fle p r:=by
 unfold fle at *;have g1:p.1*q.2*r.2≤q.1*p.2*r.2:=Int.mul_le_mul_of_nonneg_right h1 (Int.le_of_lt hr);have g2:q.1*r.2*p.2≤r.1*q.2*p.2:=Int.mul_le_mul_of_nonneg_right h2 (Int.le_of_lt hp);refine Int.le_of_mul_le_mul_right (a:=q.2) ?_ hq
 grind
theorem qjt (p:Int×Int):fle p p:=Int.le_refl _
theorem change {P:Nat→Prop}:∀(t a:Nat),P a→¬P (a+t)→∃u,a≤u∧u<a+t∧P u∧¬P (u+1)
 | 0,a,h,hn=>absurd h hn
 | t+1,a,h,hn=>by
  by_cases h1:P (a+1)
  ·obtain⟨u,h2,h3,h4⟩:=change t (a+1) h1 (by rw[show a+1+t=a+(t+1) by omega];exact hn);exact⟨u,by omega,by omega,h4⟩
  ·exact⟨a,Nat.le_refl _,by omega,h,h1⟩
theorem change' {P:Nat→Prop} {a b:Nat} (hab:a≤b) (h:P a) (hn:¬P b):∃u,a≤u∧u<b∧P u∧¬P (u+1):=by
 obtain⟨u,h1,h2,h3⟩:=change (b-a) a h (by rw[show a+(b-a)=b by omega];exact hn);exact⟨u,h1,by omega,h3⟩
theorem greatest (f:Nat→Nat) (a:Nat):∀t:Nat,∃v,a≤v∧v≤a+t∧∀u,a≤u→u≤a+t→f u≤f v
 | 0=>⟨a,Nat.le_refl _,Nat.le_refl _,fun u h1 h2=>by rw[show u=a by omega];exact Nat.le_refl _⟩
 | t+1=>by
  obtain⟨v,h1,h2,h3⟩:=greatest f a t;by_cases h:f (a+t+1)≤f v
  ·refine⟨v,h1,by omega,fun u h4 h5=>?_⟩;by_cases h6:u=a+t+1
   ·rw[h6];exact h
   ·exact h3 u h4 (by omega)
  ·refine⟨a+t+1,by omega,by omega,fun u h4 h5=>?_⟩;by_cases h6:u=a+t+1
   ·rw[h6];exact Nat.le_refl _
   ·exact Nat.le_trans (h3 u h4 (by omega)) (by omega)
theorem costs_eq {v:Tab} (h:Inv m n T0 s) (hv:Inv m n T0 v) {c:Nat} (hc:c<n+m):v.T m c*s.d-sumTo m (fun k=>s.T k c*v.T m (s.b k))=v.d*s.T m c:=by
 have hrow:∀i,i<m→s.d*T0 i c=sumTo m fun k=>s.T k c*T0 i (s.b k):=fun i hi=>by
  rw[h.i1 i c (by omega) (by omega)];show sumTo m (fun k=>s.T k c*basM m T0 s.b k i)+s.T m c*basM m T0 s.b m i=_;have e:basM m T0 s.b m i=0:=by
   unfold basM;rw[if_neg (by omega),if_neg (by omega)]
  rw[e,Int.mul_zero,Int.add_zero]
  exact qN fun k hk=>by unfold basM;rw[if_pos hk]
 have hlast:s.d*T0 m c=sumTo m (fun k=>s.T k c*T0 m (s.b k))+s.T m c:=by
  rw[h.i1 m c (by omega) (by omega)];show sumTo m (fun k=>s.T k c*basM m T0 s.b k m)+s.T m c*basM m T0 s.b m m=_;have e:basM m T0 s.b m m=1:=by
   unfold basM;rw[if_neg (by omega),if_pos rfl]
  rw[e,Int.mul_one];congr 1
  exact qN fun k hk=>by unfold basM;rw[if_pos hk]
 have hvc:=hv.i2 m c (by omega) (by omega);rw[if_pos rfl] at hvc;have hsum:sumTo m (fun k=>s.T k c*v.T m (s.b k))=sumTo m (fun l=>v.T m (n+l)*sumTo m fun k=>s.T k c*T0 l (s.b k))+v.d*sumTo m fun k=>s.T k c*T0 m (s.b k):=by
  rw[qN (g:=fun k=>sumTo m (fun l=>v.T m (n+l)*(s.T k c*T0 l (s.b k)))+v.d*(s.T k c*T0 m (s.b k))) fun k hk=>?_]
  ·rw[qe4,qpb,qav];congr 1;exact qN fun l hl=>qav _ _ _
  ·have:=hv.i2 m (s.b k) (by omega) (by have:=h.bl k hk;omega);rw[if_pos rfl] at this;rw[this,Int.mul_add,←qav];congr 1
   ·exact qN fun l hl=>by grind
   ·grind
 rw[hsum,qN (f:=fun l=>v.T m (n+l)*sumTo m fun k=>s.T k c*T0 l (s.b k)) (g:=fun l=>s.d*(v.T m (n+l)*T0 l c)) (fun l hl=>by rw[←hrow l hl];grind),qav,hvc];generalize sumTo m (fun k=>v.T m (n+k)*T0 k c)=A;generalize sumTo m (fun k=>s.T k c*T0 m (s.b k))=B at *;rw[show(A+v.d*T0 m c)*s.d-(s.d*A+v.d*B)=v.d*(s.d*T0 m c)-v.d*B by grind,hlast]
 grind
def basic (m:Nat) (s:Tab) (j:Nat):Prop:=∃k,k<m∧s.b k=j
def zer (m n:Nat) (s:Tab) (j:Nat):Prop:=∀k,k<m→s.b k=j→s.T k (n+m)=0
theorem bland {st:Nat→Tab} {r c:Nat→Nat} {a e:Nat} (hae:a<e) (hI:∀t,a≤t→t≤e→Inv m n T0 (st t)) (hS:∀t,a≤t→t<e→Stp m n (st t) (st (t+1)) (r t) (c t)) (hb:∀l,l<m→(st a).b l=(st e).b l):False:=by
 obtain⟨hd,hT⟩:=qvK (hI a (Nat.le_refl _) (Nat.le_of_lt hae)) (hI e (Nat.le_of_lt hae) (Nat.le_refl _)) hb
 let val:Nat→Int×Int:=fun t=>((st t).T m (n+m),(st t).d)
 have hstep:∀t,a≤t→t<e→(st t).d*(st (t+1)).T m (n+m)=(st t).T m (n+m)*(st (t+1)).d-(st t).T m (c t)*(st t).T (r t) (n+m):=fun t h1 h2=>by
  have hs:=hS t h1 h2;have hi:=hI t h1 (by omega);have:=qq6 hi hs.hr (c:=c t) (by have:=hs.hc;omega) (Int.ne_of_gt hs.pos) (k:=m) (by omega) (by have:=hs.hr;omega) (j:=n+m) (by omega);rw[hs.eq];exact this
 have hup:∀t,a≤t→t<e→fle (val t) (val (t+1)):=fun t h1 h2=>by
  have hs:=hS t h1 h2;have hi:=hI t h1 (by omega);have:=hstep t h1 h2;have g:(st t).T m (c t)*(st t).T (r t) (n+m)≤0:=Int.mul_nonpos_of_nonpos_of_nonneg (Int.le_of_lt hs.neg) (hi.fe _ hs.hr);show(st t).T m (n+m)*(st (t+1)).d≤(st (t+1)).T m (n+m)*(st t).d;rw[Int.mul_comm ((st (t+1)).T m (n+m))];omega
 have hvp:∀t,a≤t→t≤e→0<(val t).2:=fun t h1 h2=>(hI t h1 h2).pos;have hmono:∀q t,a≤t→t+q≤e→fle (val t) (val (t+q)):=fun q=>by
  induction q with
  | zero=>exact fun t _ _=>qjt _
  | succ q ih=>exact fun t h1 h2=>qdZ (hvp t h1 (by omega)) (hvp (t+q) (by omega) (by omega)) (hvp (t+(q+1)) (by omega) h2) (ih t h1 (by omega)) (hup (t+q) (by omega) (by omega))
 have hmono':∀t u,a≤t→t≤u→u≤e→fle (val t) (val u):=fun t u h1 h2 h3=>by
  have:=hmono (u-t) t h1 (by omega)
  rwa [show t+(u-t)=u by omega] at this
 have hends:val a=val e:=by
  show((st a).T m (n+m),(st a).d)=((st e).T m (n+m),(st e).d);rw[hd,hT m (n+m) (by omega) (by omega)]
 have hR:∀t,a≤t→t<e→(st t).T (r t) (n+m)=0:=fun t h1 h2=>by
  have hs:=hS t h1 h2;have hi:=hI t h1 (by omega);have g1:fle (val (t+1)) (val t):=qdZ (hvp _ (by omega) (by omega)) (hvp e (by omega) (by omega)) (hvp t h1 (by omega)) (hmono' (t+1) e (by omega) (by omega) (Nat.le_refl _)) (by rw[←hends];exact hmono' a t (Nat.le_refl _) h1 (by omega));have g1:(st (t+1)).T m (n+m)*(st t).d≤(st t).T m (n+m)*(st (t+1)).d:=g1;have:=hstep t h1 h2;rw[Int.mul_comm ((st (t+1)).T m (n+m))] at g1
  have g2:0≤(st t).T m (c t)*(st t).T (r t) (n+m):=by omega
  have g3:=hi.fe _ hs.hr;refine Classical.byContradiction fun hne=>?_;have:(st t).T m (c t)*(st t).T (r t) (n+m)<0:=Int.mul_neg_of_neg_of_pos hs.neg (by omega);omega
 have hz:∀t,a≤t→t<e→∀j,zer m n (st t) j↔zer m n (st (t+1)) j:=fun t h1 h2 j=>by
  have hs:=hS t h1 h2;have hi:=hI t h1 (by omega);have hr0:=hR t h1 h2;have hT':∀k,k<m→k≠r t→(st t).d*(st (t+1)).T k (n+m)=(st t).T k (n+m)*(st t).T (r t) (c t):=fun k hk hkr=>by
   have:=qq6 hi hs.hr (c:=c t) (by have:=hs.hc;omega) (Int.ne_of_gt hs.pos) (k:=k) (by omega) hkr (j:=n+m) (by omega);rw[hr0,Int.mul_zero,Int.sub_zero] at this;rw[hs.eq];exact this
  have hrow:(st (t+1)).T (r t) (n+m)=0:=by rw[hs.eq,qm3];exact hr0
  have hbk:∀k,k≠r t→(st (t+1)).b k=(st t).b k:=fun k hk=>by rw[hs.eq];exact if_neg hk
  constructor
  ·intro h k hk hj;by_cases hkr:k=r t
   ·rw[hkr];exact hrow
   ·rw[hbk k hkr] at hj;have:=hT' k hk hkr;rw[h k hk hj,Int.zero_mul] at this;rcases Int.mul_eq_zero.1 this with g | g
    ·exact absurd g (Int.ne_of_gt hi.pos)
    ·exact g
  ·intro h k hk hj;by_cases hkr:k=r t
   ·rw[hkr];exact hr0
   ·rw[←hbk k hkr] at hj;have:=hT' k hk hkr;rw[h k hk hj,Int.mul_zero] at this;rcases Int.mul_eq_zero.1 this.symm with g | g
    ·exact g
    ·exact absurd g (Int.ne_of_gt hs.pos)
 have hz1:∀q t,a≤t→t+q≤e→∀j,zer m n (st t) j↔zer m n (st (t+q)) j:=fun q=>by
  induction q with
  | zero=>exact fun t _ _ _=>Iff.rfl
  | succ q ih=>exact fun t h1 h2 j=>(ih t h1 (by omega) j).trans (hz (t+q) (by omega) (by omega) j)
 have hz2:∀t u,a≤t→t≤e→a≤u→u≤e→∀j,zer m n (st t) j→zer m n (st u) j:=fun t u h1 h2 h3 h4 j h=>by
  have g1:=(hz1 (t-a) a (Nat.le_refl _) (by omega) j);have g2:=(hz1 (u-a) a (Nat.le_refl _) (by omega) j);rw[show a+(t-a)=t by omega] at g1;rw[show a+(u-a)=u by omega] at g2;exact g2.1 (g1.2 h)
 have henter:∀t,a≤t→t<e→∀j,¬basic m (st t) j→basic m (st (t+1)) j→j=c t:=fun t h1 h2 j hn hy=>by
  have hs:=hS t h1 h2;obtain⟨k,hk,hj⟩:=hy;rw[hs.eq] at hj;have hj:(if k=r t then c t else(st t).b k)=j:=hj;by_cases hkr:k=r t
  ·rw[if_pos hkr] at hj;exact hj.symm
  ·rw[if_neg hkr] at hj;exact absurd ⟨k,hk,hj⟩ hn
 have hleave:∀t,a≤t→t<e→∀j,basic m (st t) j→¬basic m (st (t+1)) j→j=(st t).b (r t):=fun t h1 h2 j hy hn=>by
  have hs:=hS t h1 h2;obtain⟨k,hk,hj⟩:=hy;by_cases hkr:k=r t
  ·rw[←hkr];exact hj.symm
  ·exact absurd ⟨k,hk,by rw[hs.eq];exact(if_neg hkr).trans hj⟩ hn
 have hab:∀j,basic m (st a) j↔basic m (st e) j:=fun j=>⟨fun ⟨k,hk,hj⟩=>⟨k,hk,by rw[←hb k hk];exact hj⟩,fun ⟨k,hk,hj⟩=>⟨k,hk,by rw[hb k hk];exact hj⟩⟩;obtain⟨v,hv1,hv2,hv3⟩:=greatest c a (e-a-1)
 have hve:v<e:=by omega
 have hmax:∀u,a≤u→u<e→c u≤c v:=fun u h1 h2=>hv3 u h1 (by omega);have hfick:∀j u w,a≤u→u≤e→a≤w→w≤e→basic m (st u) j→¬basic m (st w) j→j≤c v:=fun j u w h1 h2 h3 h4 hy hn=>by
  have key:∀p q,a≤p→p≤q→q≤e→¬basic m (st p) j→basic m (st q) j→j≤c v:=fun p q g1 g2 g3 g4 g5=>by
   obtain⟨x,x1,x2,x3,x4⟩:=change' (P:=fun t=>¬basic m (st t) j) g2 g4 (fun h=>h g5);rw[henter x (by omega) (by omega) j x3 (Classical.byContradiction x4)];exact hmax x (by omega) (by omega)
  rcases Nat.le_total w u with h5 | h5
  ·exact key w u h3 h5 h2 hn hy
  ·by_cases h6:basic m (st a) j
   ·exact key w e h3 h4 (Nat.le_refl _) hn ((hab j).1 h6)
   ·exact key a u (Nat.le_refl _) h1 h2 h6 hy
 have hsv:=hS v hv1 hve;have hiv:=hI v hv1 (by omega);have hbas0:∀t,a≤t→t≤e→∀j,basic m (st t) j→(st t).T m j=0:=fun t h1 h2 j ⟨k,hk,hj⟩=>by
  rw[←hj,(hI t h1 h2).i3 m k (by omega) hk,if_neg (by omega)]
 have hnv:¬basic m (st v) (c v):=fun h=>by
  have:=hbas0 v hv1 (by omega) _ h;have:=hsv.neg;omega
 have hyv:basic m (st (v+1)) (c v):=⟨r v,hsv.hr,by rw[hsv.eq];exact if_pos rfl⟩;obtain⟨u,hu1,hu2,hu3,hu4⟩:∃u,a≤u∧u<e∧basic m (st u) (c v)∧¬basic m (st (u+1)) (c v):=by
  by_cases h6:basic m (st a) (c v)
  ·obtain⟨u,g1,g2,g3⟩:=change' (P:=fun t=>basic m (st t) (c v)) hv1 h6 hnv;exact⟨u,g1,by omega,g3⟩
  ·obtain⟨u,g1,g2,g3⟩:=change' (P:=fun t=>basic m (st t) (c v)) (a:=v+1) (b:=e) (by omega) hyv (fun h=>h6 ((hab _).2 h));exact⟨u,by omega,g2,g3⟩
 have hτ:=hleave u hu1 hu2 _ hu3 hu4;have hsu:=hS u hu1 hu2;have hiu:=hI u hu1 (by omega);have hsne:c u≠c v:=fun he=>by
  have:=hbas0 u hu1 (by omega) _ hu3;have g:=hsu.neg;rw[he] at g;omega
 have hslt:c u<c v:=by
  have:=hmax u hu1 hu2;omega
 have hge:0≤(st v).T m (c u):=hsv.least _ hslt;have hce:=costs_eq hiu hiv hsu.hc;have hneg:(st v).d*(st u).T m (c u)<0:=Int.mul_neg_of_pos_of_neg hiv.pos hsu.neg;have hnn:0≤(st v).T m (c u)*(st u).d:=Int.mul_nonneg hge (Int.le_of_lt hiu.pos);obtain⟨k,hk,hkp⟩:=qru (f:=fun k=>(st u).T k (c u)*(st v).T m ((st u).b k)) (n:=m) (by omega);have hk0:(st v).T m ((st u).b k)≠0:=fun h0=>by
  have hkp:0<(st u).T k (c u)*(st v).T m ((st u).b k):=hkp;rw[h0,Int.mul_zero] at hkp;omega
 have hknb:¬basic m (st v) ((st u).b k):=fun h=>hk0 (hbas0 v hv1 (by omega) _ h);have hkle:=hfick _ u v hu1 (by omega) hv1 (by omega) ⟨k,hk,rfl⟩ hknb;have hkne:(st u).b k≠c v:=fun he=>by
  have hkr:k=r u:=by
   refine Classical.byContradiction fun hne=>?_;have g1:=hiu.i3 k (r u) (by omega) hsu.hr;rw[←hτ,←he,hiu.i3 k k (by omega) hk,if_pos rfl,if_neg hne] at g1;have:=hiu.pos;omega
  have hkp:0<(st u).T k (c u)*(st v).T m ((st u).b k):=hkp;rw[he,hkr] at hkp;have:=Int.mul_neg_of_pos_of_neg hsu.pos hsv.neg;omega
 have hklt:(st u).b k<c v:=by omega
 have hkge:=hsv.least _ hklt;have hkT:0<(st u).T k (c u):=by
  refine Classical.byContradiction fun hn=>?_;have hkp:0<(st u).T k (c u)*(st v).T m ((st u).b k):=hkp;have:=Int.mul_nonpos_of_nonpos_of_nonneg (a:=(st u).T k (c u)) (by omega) hkge;omega
 have hzk:(st u).T k (n+m)=0:=hz2 v u hv1 (by omega) hu1 (by omega) _ (fun q hq hj=>absurd ⟨q,hq,hj⟩ hknb) k hk rfl;have htie:=hsu.tie k hk hkT (by rw[hR u hu1 hu2,hzk,Int.zero_mul,Int.zero_mul]);rw[←hτ] at htie;omega
theorem has_row (h:Inv m n T0 s) (h0:∀i j,i<m→j<n+m→0≤T0 i j) {c:Nat} (hc:c<n+m) (h1:∃l,l<m∧0<T0 l c):∃k,k<m∧0<s.T k c:=by
 obtain⟨l,hl,hpos⟩:=h1;have e:basM m T0 s.b m l=0:=by
  unfold basM;rw[if_neg (by omega),if_neg (by omega)]
 have h2:=h.i1 l c (by omega) (by omega);have h3:0<s.d*T0 l c:=Int.mul_pos h.pos hpos;have h4:sumTo (m+1) (fun k=>s.T k c*basM m T0 s.b k l)=sumTo m (fun k=>s.T k c*basM m T0 s.b k l):=by
  show sumTo m _+s.T m c*basM m T0 s.b m l=_;rw[e,Int.mul_zero,Int.add_zero]
 rw[h4] at h2;obtain⟨k,hk,hkp⟩:=qru (f:=fun k=>s.T k c*basM m T0 s.b k l) (n:=m) (by omega);refine⟨k,hk,Classical.byContradiction fun hn=>?_⟩
 have e2:basM m T0 s.b k l=T0 l (s.b k):=by unfold basM;rw[if_pos hk]
 have hkp:0<s.T k c*basM m T0 s.b k l:=hkp;rw[e2] at hkp;have:=Int.mul_nonpos_of_nonpos_of_nonneg (a:=s.T k c) (by omega) (h0 l (s.b k) hl (h.bl k hk));omega
end
end Lvl
end Go.Proofs.YteahiolockghkaaGreatDoor
namespace Go.Proofs.YteahiolockghkaaGreatDoor
open Go.Den
namespace Lvl
set_option linter.unusedVariables false
set_option linter.unusedSimpArgs false

theorem php:∀(K:Nat) (f:Nat→Nat),(∀t,t≤K→f t<K)→∃a e,a<e∧e≤K∧f a=f e
 | 0,f,h=>absurd (h 0 (Nat.le_refl _)) (Nat.not_lt_zero _)
 | K+1,f,h=>by
  by_cases hx:∃t,t≤K∧f t=f (K+1)
  ·obtain⟨t,h1,h2⟩:=hx;exact⟨t,K+1,by omega,Nat.le_refl _,h2⟩
  ·have hn:∀t,t≤K→f t≠f (K+1):=fun t h1 h2=>hx ⟨t,h1,h2⟩;have hl:=h (K+1) (Nat.le_refl _)
   obtain⟨a,e,h1,h2,h3⟩:=php K (fun t=>if f (K+1)<f t then f t-1 else f t) (fun t ht=>by
    have g1:=hn t ht;have g2:=h t (by omega);show(if f (K+1)<f t then f t-1 else f t)<K
    split<;>omega)
   have g1:=hn a (by omega);have g2:=hn e h2;have h3:(if f (K+1)<f a then f a-1 else f a)=(if f (K+1)<f e then f e-1 else f e):=h3;refine⟨a,e,h1,by omega,?_⟩
   split at h3<;>split at h3<;>omega
def code (B:Nat) (b:Nat→Nat):Nat→Nat
 | 0=>0
 | m+1=>code B b m+b m*B ^ m
theorem qpK {B:Nat} {b:Nat→Nat}:∀ {m:Nat},(∀l,l<m→b l<B)→code B b m<B ^ m
 | 0,_=>by simp[code]
 | m+1,h=>by
  have h1:=qpK (m:=m) fun l hl=>h l (by omega);have h2:=h m (by omega);show code B b m+b m*B ^ m<B ^ (m+1);have h3:(b m+1)*B ^ m≤B*B ^ m:=Nat.mul_le_mul_right _ h2;rw[Nat.pow_succ,Nat.mul_comm (B ^ m)];rw[Nat.add_mul] at h3;omega
theorem quP {B:Nat} {b b':Nat→Nat}:∀(m:Nat),(∀l,l<m→b l<B)→(∀l,l<m→b' l<B)→code B b m=code B b' m→∀l,l<m→b l=b' l
 | 0,_,_,_,l,hl=>absurd hl (Nat.not_lt_zero _)
 | m+1,h,h',he,l,hl=>by
  have h1:=qpK (m:=m) fun l hl=>h l (by omega);have h2:=qpK (m:=m) fun l hl=>h' l (by omega);have he:code B b m+b m*B ^ m=code B b' m+b' m*B ^ m:=he
  have hp:0<B ^ m:=by omega
  have e1:b m=b' m:=by
   have g1:(code B b m+b m*B ^ m) / B ^ m=b m:=by rw[Nat.add_mul_div_right _ _ hp,Nat.div_eq_of_lt h1,Nat.zero_add]
   have g2:(code B b' m+b' m*B ^ m) / B ^ m=b' m:=by rw[Nat.add_mul_div_right _ _ hp,Nat.div_eq_of_lt h2,Nat.zero_add]
   rw[←g1,←g2,he]
  by_cases hlm:l=m
  ·rw[hlm];exact e1
  ·rw[e1] at he;exact quP m (fun l hl=>h l (by omega)) (fun l hl=>h' l (by omega)) (by omega) l (by omega)
theorem no_long {m n:Nat} {T0:Nat→Nat→Int} {st:Nat→Tab} {r c:Nat→Nat} (hI:∀t,t≤(n+m) ^ m→Inv m n T0 (st t)) (hS:∀t,t<(n+m) ^ m→Stp m n (st t) (st (t+1)) (r t) (c t)):False:=by
 obtain⟨a,e,h1,h2,h3⟩:=php ((n+m) ^ m) (fun t=>code (n+m) (st t).b m) (fun t ht=>qpK fun l hl=>(hI t ht).bl l hl);exact bland h1 (fun t g1 g2=>hI t (by omega)) (fun t g1 g2=>hS t (by omega)) (quP m (fun l hl=>(hI a (by omega)).bl l hl) (fun l hl=>(hI e (by omega)).bl l hl) h3)
theorem qtq {T α:Type} {f:T→Option (T ⊕ α)} (P:T→Prop) (Q:α→Prop) (h:∀x,P x→(∃y,f x=some (.inl y)∧P y)∨∃r,f x=some (.inr r)∧Q r) {x:T} (hx:P x) (K:Nat)
  (hK:∀st:Nat→T,(∀t,t≤K→P (st t))→(∀t,t<K→f (st t)=some (.inl (st (t+1))))→False):∃r,iterW f x=some r∧Q r:=by
 let nx:T→T:=fun x=>match f x with
  | some (.inl y)=>y
  | _=>x
 let st:Nat→T:=fun t=>Nat.rec x (fun _ y=>nx y) t
 have key:∀t,(∃r,iterW f x=some r∧Q r)∨(P (st t)∧iterW f x=iterW f (st t)∧∀u,u<t→P (st u)∧f (st u)=some (.inl (st (u+1)))):=by
  intro t
  induction t with
  | zero=>exact .inr ⟨hx,rfl,fun u hu=>absurd hu (Nat.not_lt_zero _)⟩
  | succ t ih =>
   rcases ih with ih | ⟨h1,h2,h3⟩
   ·exact .inl ih
   ·rcases h _ h1 with ⟨y,h4,h5⟩ | ⟨r,h4,h5⟩
    ·have e:st (t+1)=y:=by
      show nx (st t)=y;show(match f (st t) with | some (.inl y)=>y | _=>st t)=y;rw[h4]
     refine .inr ⟨by rw[e];exact h5,by rw[h2,qX h4,e],fun u hu=>?_⟩;by_cases hut:u=t
     ·subst hut;exact⟨h1,by rw[e];exact h4⟩
     ·exact h3 u (by omega)
    ·exact .inl ⟨r,by rw[h2,qz h4],h5⟩
 rcases key K with h1 | ⟨h1,_,h3⟩
 ·exact h1
 ·exact(hK st (fun t ht=>by
   by_cases e:t=K
   ·rw[e];exact h1
   ·exact(h3 t (by omega)).1) fun t ht=>(h3 t ht).2).elim
theorem qrY {m n:Nat} {T0:Nat→Nat→Int} {s:Tab} (h:Inv m n T0 s) {B:Nat} (hB:1≤B) (h0:∀i j,i<m+1→j<n+m+1→(T0 i j).natAbs≤B) :
  s.d.natAbs≤fac (m+1)*B ^ (m+1)∧∀k j,k<m+1→j<n+m+1→(s.T k j).natAbs≤fac (m+1)*B ^ (m+1):=by
 have hM:∀k,k<m+1→∀i,i<m+1→(basM m T0 s.b k i).natAbs≤B:=fun k hk i hi=>by
  unfold basM;split
  ·rename_i h1;exact h0 i _ hi (by have:=h.bl k h1;omega)
  ·split
   ·exact hB
   ·exact Nat.zero_le _
 refine⟨by rw[←h.dt];exact qnf hM,fun k j hk hj=>?_⟩;rw[cramer h hk hj];refine qnf fun q hq i hi=>?_;unfold setc;split
 ·exact h0 i j hi hj
 ·exact hM q hq i hi
theorem value_pos {m n:Nat} {T0:Nat→Nat→Int} {s:Tab} (h:Inv m n T0 s) (hc:∀j,j<n+m→0≤s.T m j) (hb:∀k,k<m→0<T0 k (n+m)) (h0:T0 m (n+m)=0) (hn:0<n) (hm:T0 m 0<0):0<s.T m (n+m):=by
 have h1:=h.i2 m (n+m) (by omega) (by omega);rw[if_pos rfl,h0,Int.mul_zero,Int.add_zero] at h1;have hnn:∀k,k<m→0≤s.T m (n+k)*T0 k (n+m):=fun k hk=>Int.mul_nonneg (hc _ (by omega)) (Int.le_of_lt (hb k hk))
 have h2:0≤s.T m (n+m):=by rw[h1];exact qqW hnn
 refine Classical.byContradiction fun hneg=>?_
 have h3:s.T m (n+m)=0:=by omega
 have hall:∀k,k<m→s.T m (n+k)=0:=fun k hk=>by
  refine Classical.byContradiction fun hne=>?_;have hk0:=hc (n+k) (by omega);have:0<s.T m (n+k)*T0 k (n+m):=Int.mul_pos (by omega) (hb k hk);have hle:s.T m (n+k)*T0 k (n+m)≤sumTo m fun k=>s.T m (n+k)*T0 k (n+m):=by
   have e:=qlT (f:=fun q=>if q=k then s.T m (n+k)*T0 k (n+m) else 0) (g:=fun k=>s.T m (n+k)*T0 k (n+m)) (n:=m) fun j hj=>by
    show(if j=k then _ else _)≤_;split
    ·rename_i e;rw[e];exact Int.le_refl _
    ·exact hnn j hj
   rwa [qde hk (fun j hj hne=>if_neg hne),if_pos rfl] at e
  omega
 have h4:=h.i2 m 0 (by omega) (by omega);rw[if_pos rfl,qcG fun k hk=>by rw[hall k hk,Int.zero_mul]] at h4;have:=Int.mul_neg_of_pos_of_neg h.pos hm;have:=hc 0 (by omega);omega
end Lvl
namespace Lvl
set_option linter.unusedVariables false
set_option linter.unusedSimpArgs false

abbrev NS:Type:=List ((List BI)×(Option (List Nat)))
def zI:BI:=(false,([],()))
def ids (m:Nat):List Nat:=(List.range (m+1)).map fun k=>k+1
theorem qcJ (m:Nat):(ids m).length=m+1:=by simp[ids]
theorem qcI {m k:Nat} (h:k<m+1):getD' (ids m) k 0=k+1:=by
 simp[ids,getD',h]
def rw' (ns:NS) (i:Nat):List BI:=ndP ns [] (i+1)
def el (ns:NS) (i j:Nat):BI:=getD' (rw' ns i) j zI
theorem ln_rw (ns:NS) (i:Nat):lnP ns (i+1)=(rw' ns i).length:=by
 show(bif Nat.blt 0 (i+1) then _ else 0)=_
 have:Nat.blt 0 (i+1)=true:=by rw[Nat.blt_eq];omega
 rw[this];rfl
theorem qqv {ns:NS} {i:Nat} (h:i<ns.length):rw' ns i=ns[i].1:=by
 show(getD' ns (i+1-1) (([]:List BI),none)).1=_;rw[Nat.add_sub_cancel,qbt h]
theorem qoI {ns:NS} {i:Nat} (h:ns.length≤i):rw' ns i=[]:=by
 show(getD' ns (i+1-1) (([]:List BI),none)).1=_;simp[getD',h]
theorem set_len {ns:NS} {i:Nat} {v:List BI}:(setP ns [] (i+1) v).length=ns.length:=List.length_set
theorem qqQ {ns:NS} {i k:Nat} {v:List BI} (h:i<ns.length):rw' (setP ns [] (i+1) v) k=if k=i then v else rw' ns k:=by
 have e:setP ns [] (i+1) v=ns.set i (v,(getD' ns i (([]:List BI),none)).2):=rfl;rw[e];by_cases hk:k<ns.length
 ·rw[qqv (by rw[List.length_set];exact hk),List.getElem_set];by_cases hki:k=i
  ·subst hki;simp
  ·rw[if_neg (fun e=>hki e.symm),if_neg hki,qqv hk]
 ·rw[qoI (by rw[List.length_set];omega),if_neg (by omega),qoI (by omega)]
def vI (a:BI):Int:=if a.1 then -(val a.2.1) else val a.2.1
theorem Ri.vI {a:BI} {x:Int} (h:Ri a x):vI a=x:=by
 unfold Lvl.vI;rw[h.neg,h.abs.val];by_cases hx:x<0
 ·rw[decide_eq_true hx,if_pos rfl];omega
 ·rw[decide_eq_false hx,if_neg (by simp)];omega
theorem vI_z:vI zI=0:=rfl
theorem qpf {ns:NS} {i j:Nat} (h:(rw' ns i).length≤j):el ns i j=zI:=by simp[el,getD',h]
structure Ok (m W:Nat) (ns:NS):Prop where
 len:ns.length=m+1
 row:∀i,i<m+1→(rw' ns i).length=W
 ri:∀i j,i<m+1→j<W→Ri (el ns i j) (vI (el ns i j))
abbrev SX:Type:=(Unit)×(((List Nat)×Bool×(List Int)×(List Int)×Int×Unit)×NS×Unit)
def mkx (m:Nat) (ns:NS) (d:BI) (b:List Int) (w:Int):SX:=((),((ids m,(d.1,(d.2.1,(b,(w,()))))),(ns,())))
section
variable {m W : Nat} {ns : NS} {d : BI} {b : List Int} {w : Int}
theorem qtk {x:Int}:decide (x.sign≥0)=decide (0≤x):=by
 rcases Int.lt_trichotomy x 0 with h | h | h
 ·rw[Int.sign_eq_neg_one_of_neg h,decide_eq_false (by omega:¬0≤x)];rfl
 ·subst h;rfl
 ·rw[Int.sign_eq_one_of_pos h,decide_eq_true (by omega:0≤x)];rfl
theorem qij {x:Int}:decide (x.sign≤0)=decide (x≤0):=by
 rcases Int.lt_trichotomy x 0 with h | h | h
 ·rw[Int.sign_eq_neg_one_of_neg h,decide_eq_true (by omega:x≤0)];rfl
 ·subst h;rfl
 ·rw[Int.sign_eq_one_of_pos h,decide_eq_false (by omega:¬x≤0)];rfl
theorem ql0 {x:Int}:decide (x.sign<0)=decide (x<0):=by
 rcases Int.lt_trichotomy x 0 with h | h | h
 ·rw[Int.sign_eq_neg_one_of_neg h,decide_eq_true h];rfl
 ·subst h;rfl
 ·rw[Int.sign_eq_one_of_pos h,decide_eq_false (by omega:¬x<0)];rfl
theorem sign_zero {x:Int}:(x.sign==0)=decide (x=0):=by
 rcases Int.lt_trichotomy x 0 with h | h | h
 ·rw[Int.sign_eq_neg_one_of_neg h,decide_eq_false (by omega:¬x=0)];rfl
 ·subst h;rfl
 ·rw[Int.sign_eq_one_of_pos h,decide_eq_false (by omega:¬x=0)];rfl
theorem qvH (h:Ok m W ns) {E:Nat} (hW:W=E+1) (hm:m≤100) (hE:E≤100) (hw:w=(E:Int)) :
  ∃c:Nat,iterW (qaT (mkx m ns d b w)) ((0,()),())=some (((c:Int),()),())∧c≤E∧(∀j,j<c→0≤vI (el ns m j))∧(c<E→vI (el ns m c)<0):=by
 obtain⟨r,h1,c,rfl,h2⟩:=qg (f:=qaT (mkx m ns d b w)) (fun s=>∃c:Nat,s=(((c:Int),()),())∧c≤E∧∀j,j<c→0≤vI (el ns m j)) (fun s=>E-(s.1.1).toNat)
  (fun r=>∃c:Nat,r=(((c:Int),()),())∧c≤E∧(∀j,j<c→0≤vI (el ns m j))∧(c<E→vI (el ns m c)<0)) (by
  rintro s ⟨c,rfl,hc,hj⟩
  have e1:(w64 ((((ids m).length:Nat):Int)-1)).toNat=m:=by rw[qcJ,wi_id (by omega) (by omega)];omega
  have e2:getD' (ids m) m 0=m+1:=qcI (by omega);have hrow:=h.row m (by omega);by_cases hcE:c<E
  ·have hd:decide ((c:Int)<w)=true:=by rw[hw];simp;omega
   have hri:=h.ri m c (by omega) (by omega);have es:qS (getD' (ndP ns [] (m+1)) c (false,([],())))=(vI (el ns m c)).sign:=qgN hri;have step:qaT (mkx m ns d b w) (((c:Int),()),())=bif decide (0≤vI (el ns m c)) then some (.inl ((((c+1:Nat):Int),()),())) else some (.inr (((c:Int),()),())):=by
    unfold qaT mkx;simp only[e1,e2,hd,imp,cond_true,ln_rw,hrow,qA (show c<W by omega),qc,Int.toNat_natCast,es,qtk,Bool.true_and];rw[wi_id (by omega) (by omega)];rfl
   by_cases hs:0≤vI (el ns m c)
   ·rw[decide_eq_true hs,cond_true] at step;refine .inl ⟨_,step,⟨c+1,rfl,hcE,fun j hj'=>?_⟩,by simp;omega⟩;by_cases e:j=c
    ·rw[e];exact hs
    ·exact hj j (by omega)
   ·rw[decide_eq_false hs,cond_false] at step;exact .inr ⟨_,step,c,rfl,hc,hj,fun _=>by omega⟩
  ·have hd:decide ((c:Int)<w)=false:=by rw[hw];simp;omega
   have step:qaT (mkx m ns d b w) (((c:Int),()),())=some (.inr (((c:Int),()),())):=by
    unfold qaT mkx;simp only[hd,imp,cond_false,qc,Bool.false_and]
   exact .inr ⟨_,step,c,rfl,hc,hj,fun h=>absurd h hcE⟩) ((((0:Nat):Int),()),()) ⟨0,rfl,Nat.zero_le _,fun j h=>absurd h (Nat.not_lt_zero _)⟩
 exact⟨c,h1,h2⟩
theorem qu5 (h:Ok m W ns) {E:Nat} (hW:W=E+1) (hm:m≤100) (hE:E≤100) (hb:b.length=m) {c:Nat} (hc:c<W) {S:Nat} (hS:S≤1000000000) (hz:∀i j,i<m+1→j<W→Sz (vI (el ns i j)) S) (hex:∃k,k<m∧0<vI (el ns k c)) :
  ∃r:Nat,iterW (qV (mkx m ns d b w) (((c:Int),()),())) ((-1,0,()),())=some (((r:Int),()),())∧r<m∧0<vI (el ns r c)∧∀k,k<m→0<vI (el ns k c) →
   fle (vI (el ns r E),vI (el ns r c)) (vI (el ns k E),vI (el ns k c))∧(fle (vI (el ns k E),vI (el ns k c)) (vI (el ns r E),vI (el ns r c))→getD' b r 0≤getD' b k 0):=by
 let P:Int→Nat→Prop:=fun q i=>(q = -1∧∀k,k<i→vI (el ns k c)≤0)∨∃r:Nat,q=(r:Int)∧r<i∧0<vI (el ns r c)∧∀k,k<i→0<vI (el ns k c) →
   fle (vI (el ns r E),vI (el ns r c)) (vI (el ns k E),vI (el ns k c))∧(fle (vI (el ns k E),vI (el ns k c)) (vI (el ns r E),vI (el ns r c))→getD' b r 0≤getD' b k 0)
 obtain⟨x,h1,q,rfl,h2⟩:=qg (f:=qV (mkx m ns d b w) (((c:Int),()),())) (fun s=>∃q,∃i:Nat,s=((q,(i:Int),()),())∧i≤m∧P q i) (fun s=>m-(s.1.2.1).toNat)
  (fun r=>∃q,r=((q,()),())∧P q m) (by
  rintro s ⟨q,i,rfl,hi,hP⟩
  by_cases him:i<m
  ·have hd:decide ((i:Int)<((b.length:Nat):Int))=true:=by rw[hb];simp;omega
   have hrow:=h.row i (by omega);have hri:=h.ri i c (by omega) hc;have es:qS (getD' (ndP ns [] (i+1)) c (false,([],())))=(vI (el ns i c)).sign:=qgN hri;have e0:getD' (ids m) 0 0=1:=qcI (by omega);have e00:lnP ns 1=W:=(ln_rw ns 0).trans (h.row 0 (by omega))
   have eE:w64 (((W:Nat):Int)-1)=((E:Nat):Int):=by rw[wi_id (by omega) (by omega)];omega
   have ei1:w64 ((i:Int)+1)=((i+1:Nat):Int):=by rw[wi_id (by omega) (by omega)];rfl
   have inid:inb (i:Int) (ids m).length=true:=by rw[qcJ];exact qA (by omega)
   have key:∀q',P q' (i+1)→qV (mkx m ns d b w) (((c:Int),()),()) ((q,(i:Int),()),())=some (.inl ((q',((i+1:Nat):Int),()),()))→(∃y,qV (mkx m ns d b w) (((c:Int),()),()) ((q,(i:Int),()),())=some (.inl y)∧(∃q,∃i:Nat,y=((q,(i:Int),()),())∧i≤m∧P q i)∧m-(y.1.2.1).toNat<m-(((q,(i:Int),()),()):(Int×Int×Unit)×Unit).1.2.1.toNat):=fun q' hq' hst =>
    ⟨_,hst,⟨q',i+1,rfl,him,hq'⟩,by simp;omega⟩
   by_cases hneg:vI (el ns i c)≤0
   ·refine .inl (key q ?_ ?_)
    ·rcases hP with ⟨hq,hk⟩ | ⟨r,hq,hr,hr1,hr2⟩
     ·exact .inl ⟨hq,fun k hk'=>by
       by_cases e:k=i
       ·rw[e];exact hneg
       ·exact hk k (by omega)⟩
     ·exact .inr ⟨r,hq,by omega,hr1,fun k hk' hkp=>by
       by_cases e:k=i
       ·rw[e] at hkp;omega
       ·exact hr2 k (by omega) hkp⟩
    ·unfold qV mkx;simp only[hd,cond_true,inid,qc,Int.toNat_natCast,qcI (show i<m+1 by omega),ln_rw,hrow,qA hc,es,qij];rw[decide_eq_true hneg,cond_true,Option.bind_some,ei1]
   ·rcases hP with ⟨hq,hk⟩ | ⟨r,hq,hr,hr1,hr2⟩
    ·refine .inl (key i (.inr ⟨i,rfl,by omega,by omega,fun k hk' hkp=>?_⟩) ?_)
     ·have e:k=i:=by
       refine Classical.byContradiction fun hne=>?_;have:=hk k (by omega);omega
      rw[e];exact⟨qjt _,fun _=>Int.le_refl _⟩
     ·unfold qV mkx;simp only[hd,cond_true,inid,qc,Int.toNat_natCast,qcI (show i<m+1 by omega),ln_rw,hrow,qA hc,es,qij];rw[decide_eq_false hneg,cond_false,hq,decide_eq_true (by omega),cond_true,Option.bind_some,ei1]
    ·subst hq;have hrrow:=h.row r (by omega)
     have inr:inb (r:Int) (ids m).length=true:=by rw[qcJ];exact qA (by omega)
     have riE:Ri (getD' (ndP ns [] (i+1)) E (false,([],()))) (vI (el ns i E)):=h.ri i E (by omega) (by omega);have ric:Ri (getD' (ndP ns [] (i+1)) c (false,([],()))) (vI (el ns i c)):=hri;have rrE:Ri (getD' (ndP ns [] (r+1)) E (false,([],()))) (vI (el ns r E)):=h.ri r E (by omega) (by omega);have rrc:Ri (getD' (ndP ns [] (r+1)) c (false,([],()))) (vI (el ns r c)):=h.ri r c (by omega) hc;have ziE:=hz i E (by omega) (by omega);have zic:=hz i c (by omega) hc;have zrE:=hz r E (by omega) (by omega);have zrc:=hz r c (by omega) hc;obtain⟨a1,k1,k2⟩:=qam riE rrc ziE zrc (by omega) (by omega);obtain⟨a2,k3,k4⟩:=qam rrE ric zrE zic (by omega) (by omega);have k5:=qrN k2 k4 (ziE.mul zrc) (zrE.mul zic) (by omega);obtain⟨D,hD⟩:∃D,D=vI (el ns i E)*vI (el ns r c)-vI (el ns r E)*vI (el ns i c):=⟨_,rfl⟩
     rw[←hD] at k5
     have inbi:inb (i:Int) b.length=true:=by rw[hb];exact qA (by omega)
     have inbr:inb (r:Int) b.length=true:=by rw[hb];exact qA (by omega)
     have hcond:∀x y:Bool,imp x true=true:=fun x _=>by cases x<;>rfl
     have step:qV (mkx m ns d b w) (((c:Int),()),()) (((r:Int),(i:Int),()),())=some (.inl (((bif (decide (D<0)||(decide (D=0)&&decide (getD' b i 0<getD' b r 0))) then(i:Int) else(r:Int)),((i+1:Nat):Int),()),())):=by
      unfold qV mkx;simp only[hd,cond_true,inid,qc,Int.toNat_natCast,qcI (show i<m+1 by omega),qcI (show r<m+1 by omega),ln_rw,hrow,hrrow,qA hc,es,qij,e0,e00,eE,qA (show E<W by omega),inr];rw[decide_eq_false hneg,cond_false,decide_eq_false (by omega:¬((r:Int)<0)),cond_false,k1,Option.bind_some,k3,Option.bind_some,k5,Option.bind_some];simp only[ql0,sign_zero,inbi,inbr,hcond _ true,qc,ei1]
      cases (decide (D<0)||(decide (D=0)&&decide (getD' b i 0<getD' b r 0)))<;>rfl
     have hpi:0<vI (el ns i c):=by omega
     by_cases hcase:(decide (D<0)||(decide (D=0)&&decide (getD' b i 0<getD' b r 0)))=true
     ·rw[hcase,cond_true] at step;refine .inl (key i (.inr ⟨i,rfl,by omega,hpi,fun k hk' hkp=>?_⟩) step);have hDle:D≤0:=by
       simp only[Bool.or_eq_true,Bool.and_eq_true,decide_eq_true_eq] at hcase;omega
      have hir:fle (vI (el ns i E),vI (el ns i c)) (vI (el ns r E),vI (el ns r c)):=by
       show vI (el ns i E)*vI (el ns r c)≤vI (el ns r E)*vI (el ns i c);omega
      by_cases e:k=i
      ·rw[e];exact⟨qjt _,fun _=>Int.le_refl _⟩
      ·obtain⟨g1,g2⟩:=hr2 k (by omega) hkp;refine⟨qdZ hpi hr1 hkp hir g1,fun hki=>?_⟩;have hri':fle (vI (el ns r E),vI (el ns r c)) (vI (el ns i E),vI (el ns i c)):=qdZ hr1 hkp hpi g1 hki;have hD0:D=0:=by
        have:vI (el ns r E)*vI (el ns i c)≤vI (el ns i E)*vI (el ns r c):=hri';omega
       have hkr:fle (vI (el ns k E),vI (el ns k c)) (vI (el ns r E),vI (el ns r c)):=qdZ hkp hpi hr1 hki hir;have:=g2 hkr;simp only[Bool.or_eq_true,Bool.and_eq_true,decide_eq_true_eq] at hcase;omega
     ·rw[Bool.not_eq_true] at hcase;rw[hcase,cond_false] at step;have hDge:0≤D∧(D=0→getD' b r 0≤getD' b i 0):=by
       simp only[Bool.or_eq_false_iff,Bool.and_eq_false_iff,decide_eq_false_iff_not] at hcase;omega
      refine .inl (key r (.inr ⟨r,rfl,by omega,hr1,fun k hk' hkp=>?_⟩) step);by_cases e:k=i
      ·rw[e];refine⟨?_,fun hki=>hDge.2 ?_⟩
       ·show vI (el ns r E)*vI (el ns i c)≤vI (el ns i E)*vI (el ns r c);omega
       ·have:vI (el ns i E)*vI (el ns r c)≤vI (el ns r E)*vI (el ns i c):=hki;omega
      ·exact hr2 k (by omega) hkp
  ·have hd:decide ((i:Int)<((b.length:Nat):Int))=false:=by rw[hb];simp;omega
   have e:i=m:=by omega
   refine .inr ⟨_,by unfold qV mkx;simp only[hd,cond_false],q,rfl,?_⟩
   rw[←e];exact hP) ((-1,((0:Nat):Int),()),()) ⟨-1,0,rfl,Nat.zero_le _,.inl ⟨rfl,fun k h=>absurd h (Nat.not_lt_zero _)⟩⟩
 rcases h2 with ⟨_,h3⟩ | ⟨r,rfl,h3⟩
 ·obtain⟨k,hk,hkp⟩:=hex;have:=h3 k hk;omega
 ·exact⟨r,h1,h3⟩
end
end Lvl
end Go.Proofs.YteahiolockghkaaGreatDoor
namespace Go.Proofs.YteahiolockghkaaGreatDoor
open Go.Den
namespace Lvl
set_option linter.unusedVariables false
set_option linter.unusedSimpArgs false
section
variable {m W : Nat} {nsO : NS} {d : BI} {b : List Int} {w : Int}
theorem elim_row {ns0:NS} (hl:ns0.length=m+1) {i r c:Nat} (hi:i<m+1) (hr:r<m+1) (hir:i≠r) (hc:c<W) (hm:m≤100) (hW:W≤200)
  (hrowi:(rw' ns0 i).length=W) (hrowr:(rw' ns0 r).length=W) (hi0:∀j,j<W→Ri (el ns0 i j) (vI (el ns0 i j))) (hr0:∀j,j<W→Ri (el ns0 r j) (vI (el ns0 r j)))
  {S:Nat} (hS:S≤1000000000) (hzi:∀j,j<W→Sz (vI (el ns0 i j)) S) (hzr:∀j,j<W→Sz (vI (el ns0 r j)) S)
  {p dv:Int} (hp:Ri (el nsO r c) p) (hzp:Sz p S) (hd:Ri d dv) (hzd:Sz dv S) (hd0:dv≠0) (hdv:∀j,j<W→dv ∣ vI (el ns0 i j)*p-vI (el ns0 i c)*vI (el ns0 r j)) :
  ∃ns',iterW (qba (((i:Int),()),(ns0,())) (mkx m nsO d b w) (((r:Int),()),()) (((c:Int),()),())) ((0,()),(ns0,()))=some ((),(ns',()))∧ns'.length=m+1∧(∀k,k≠i→rw' ns' k=rw' ns0 k)∧(rw' ns' i).length=W ∧
   ∀j,j<W→Ri (el ns' i j) ((vI (el ns0 i j)*p-vI (el ns0 i c)*vI (el ns0 r j)) / dv):=by
 obtain⟨x,h1,ns',rfl,h2⟩:=qg (f:=qba (((i:Int),()),(ns0,())) (mkx m nsO d b w) (((r:Int),()),()) (((c:Int),()),()))
  (fun s=>∃ns,∃j:Nat,s=(((j:Int),()),(ns,()))∧j≤W∧ns.length=m+1∧(∀k,k≠i→rw' ns k=rw' ns0 k)∧(rw' ns i).length=W∧(∀t,t<j→Ri (el ns i t) ((vI (el ns0 i t)*p-vI (el ns0 i c)*vI (el ns0 r t)) / dv))∧∀t,j≤t→el ns i t=el ns0 i t) (fun s=>W-(s.1.1).toNat)
  (fun r'=>∃ns,r'=((),(ns,()))∧ns.length=m+1∧(∀k,k≠i→rw' ns k=rw' ns0 k)∧(rw' ns i).length=W∧∀j,j<W→Ri (el ns i j) ((vI (el ns0 i j)*p-vI (el ns0 i c)*vI (el ns0 r j)) / dv)) (by
  rintro s ⟨ns,j,rfl,hj,g1,g2,g3,g4,g5⟩
  have ei:lnP ns0 (i+1)=W:=(ln_rw ns0 i).trans hrowi;by_cases hlt:j<W
  ·have hdc:decide ((j:Int)<((W:Nat):Int))=true:=by simp;omega
   have ein:lnP ns (i+1)=W:=(ln_rw ns i).trans g3
   have ern:lnP ns (r+1)=W:=by rw[ln_rw,g2 r (fun e=>hir e.symm)];exact hrowr
   have inr:inb (r:Int) (ids m).length=true:=by rw[qcJ];exact qA hr
   have a1:Ri (getD' (ndP ns [] (i+1)) j (false,([],()))) (vI (el ns0 i j)):=by
    have:=hi0 j hlt;rw[←g5 j (Nat.le_refl _)] at this ⊢;exact this
   have a2:Ri (getD' (ndP nsO [] (r+1)) c (false,([],()))) p:=hp;have a3:Ri (getD' (ndP ns0 [] (i+1)) c (false,([],()))) (vI (el ns0 i c)):=hi0 c hc;have a4:Ri (getD' (ndP ns [] (r+1)) j (false,([],()))) (vI (el ns0 r j)):=by
    have e:el ns r j=el ns0 r j:=by unfold el;rw[g2 r (fun e=>hir e.symm)]
    have:=hr0 j hlt;rw[←e] at this ⊢;exact this
   obtain⟨b1,k1,k2⟩:=qam a1 a2 (hzi j hlt) hzp (by omega) (by omega);obtain⟨b2,k3,k4⟩:=qam a3 a4 (hzi c hc) (hzr j hlt) (by omega) (by omega);obtain⟨b3,k5,k6⟩:=qq5 k2 k4 ((hzi j hlt).mul hzp) ((hzi c hc).mul (hzr j hlt)) (by omega);obtain⟨b4,k7,k8⟩:=qtz k6 (qqC hd) (((hzi j hlt).mul hzp).sub ((hzi c hc).mul (hzr j hlt))) hzd (by omega) (by omega) (hdv j hlt) hd0;have step:qba (((i:Int),()),(ns0,())) (mkx m nsO d b w) (((r:Int),()),()) (((c:Int),()),()) (((j:Int),()),(ns,()))=some (.inl ((((j+1:Nat):Int),()),(setP ns [] (i+1) ((rw' ns i).set j b4),()))):=by
    unfold qba mkx;simp only[Int.toNat_natCast,qcI hi,qcI hr,ei,ein,ern,hdc,cond_true,qA hlt,qc,inr,k1,k3,k5,k7,Option.bind_some];rw[wi_id (by omega) (by omega)];rfl
   have hil:i<ns.length:=by omega
   refine .inl ⟨_,step,⟨_,j+1,rfl,hlt,by rw[set_len];exact g1,fun k hk=>by rw[qqQ hil,if_neg hk];exact g2 k hk,by rw[qqQ hil,if_pos rfl,List.length_set];exact g3,fun t ht=>?_,fun t ht=>?_⟩,by simp;omega⟩
   ·by_cases e:t=j
    ·subst e;have:el (setP ns [] (i+1) ((rw' ns i).set t b4)) i t=b4:=by
      unfold el;rw[qqQ hil,if_pos rfl,qbt (by rw[List.length_set,g3];exact hlt)];simp
     rw[this];exact k8
    ·have:el (setP ns [] (i+1) ((rw' ns i).set j b4)) i t=el ns i t:=by
      unfold el;rw[qqQ hil,if_pos rfl];have e':j≠t:=fun h=>e h.symm;simp[getD',List.getElem?_set,e']
     rw[this];exact g4 t (by omega)
   ·have:el (setP ns [] (i+1) ((rw' ns i).set j b4)) i t=el ns i t:=by
     unfold el;rw[qqQ hil,if_pos rfl]
     have e:j≠t:=by omega
     simp[getD',List.getElem?_set,e]
    rw[this];exact g5 t (by omega)
  ·have hdc:decide ((j:Int)<((W:Nat):Int))=false:=by simp;omega
   have e:j=W:=by omega
   refine .inr ⟨_,by unfold qba mkx;simp only[Int.toNat_natCast,qcI hi,ei,hdc,cond_false],ns,rfl,g1,g2,g3,fun t ht=>g4 t (by omega)⟩) ((((0:Nat):Int),()),(ns0,())) ⟨ns0,0,rfl,Nat.zero_le _,hl,fun _ _=>rfl,hrowi,fun t h=>absurd h (Nat.not_lt_zero _),fun _ _=>rfl⟩
 exact⟨ns',h1,h2⟩
theorem elim_all (h:Ok m W nsO) {r c:Nat} (hr:r<m+1) (hc:c<W) (hm:m≤100) (hW:W≤200) {S:Nat} (hS:S≤1000000000) (hz:∀i j,i<m+1→j<W→Sz (vI (el nsO i j)) S)
  {dv:Int} (hd:Ri d dv) (hzd:Sz dv S) (hd0:dv≠0) (hdv:∀i j,i<m+1→i≠r→j<W→dv ∣ vI (el nsO i j)*vI (el nsO r c)-vI (el nsO i c)*vI (el nsO r j)) :
  ∃ns',iterW (qT (mkx m nsO d b w) (((r:Int),()),()) (((c:Int),()),())) ((0,()),(nsO,()))=some ((),(ns',()))∧ns'.length=m+1∧rw' ns' r=rw' nsO r ∧
   ∀i,i<m+1→i≠r→(rw' ns' i).length=W∧∀j,j<W→Ri (el ns' i j) ((vI (el nsO i j)*vI (el nsO r c)-vI (el nsO i c)*vI (el nsO r j)) / dv):=by
 obtain⟨x,h1,ns',rfl,h2⟩:=qg (f:=qT (mkx m nsO d b w) (((r:Int),()),()) (((c:Int),()),()))
  (fun s=>∃ns,∃i:Nat,s=(((i:Int),()),(ns,()))∧i≤m+1∧ns.length=m+1∧rw' ns r=rw' nsO r∧(∀k,i≤k→rw' ns k=rw' nsO k) ∧
   ∀k,k<i→k≠r→(rw' ns k).length=W∧∀j,j<W→Ri (el ns k j) ((vI (el nsO k j)*vI (el nsO r c)-vI (el nsO k c)*vI (el nsO r j)) / dv)) (fun s=>m+1-(s.1.1).toNat)
  (fun r'=>∃ns,r'=((),(ns,()))∧ns.length=m+1∧rw' ns r=rw' nsO r∧∀k,k<m+1→k≠r→(rw' ns k).length=W∧∀j,j<W→Ri (el ns k j) ((vI (el nsO k j)*vI (el nsO r c)-vI (el nsO k c)*vI (el nsO r j)) / dv)) (by
  rintro s ⟨ns,i,rfl,hi,g1,g2,g3,g4⟩
  by_cases hlt:i<m+1
  ·have hdc:decide ((i:Int)<(((ids m).length:Nat):Int))=true:=by rw[qcJ];simp;omega
   have ini:inb (i:Int) (ids m).length=true:=by rw[qcJ];exact qA hlt
   have ew:w64 ((i:Int)+1)=((i+1:Nat):Int):=wi_id (by omega) (by omega);by_cases hir:i=r
   ·have step:qT (mkx m nsO d b w) (((r:Int),()),()) (((c:Int),()),()) (((i:Int),()),(ns,()))=some (.inl ((((i+1:Nat):Int),()),(ns,()))):=by
     unfold qT mkx
     have hbq:((i:Int)==(r:Int))=true:=by rw[hir];exact beq_self_eq_true _
     simp only[hdc,cond_true,ini,qc,hbq,Option.bind_some,ew]
    refine .inl ⟨_,step,⟨ns,i+1,rfl,hlt,g1,g2,fun k hk=>g3 k (by omega),fun k hk hkr=>?_⟩,by simp;omega⟩;exact g4 k (by omega) hkr
   ·have hrr:∀j,el ns r j=el nsO r j:=fun j=>by unfold el;rw[g2]
    have hri:∀j,el ns i j=el nsO i j:=fun j=>by unfold el;rw[g3 i (Nat.le_refl _)]
    obtain⟨ns2,k1,k2,k3,k4,k5⟩:=elim_row (nsO:=nsO) (d:=d) (b:=b) (w:=w) (ns0:=ns) g1 hlt hr hir hc hm hW (by rw[g3 i (Nat.le_refl _)];exact h.row i hlt) (by rw[g2];exact h.row r hr)
     (fun j hj=>by rw[hri];exact h.ri i j hlt hj) (fun j hj=>by rw[hrr];exact h.ri r j hr hj) hS (fun j hj=>by rw[hri];exact hz i j hlt hj) (fun j hj=>by rw[hrr];exact hz r j hr hj)
     (h.ri r c hr hc) (hz r c hr hc) hd hzd hd0 (fun j hj=>by rw[hri,hri,hrr];exact hdv i j hlt hir hj)
    have elen:lnP ns (i+1)=W:=by rw[ln_rw,g3 i (Nat.le_refl _)];exact h.row i hlt
    have step:qT (mkx m nsO d b w) (((r:Int),()),()) (((c:Int),()),()) (((i:Int),()),(ns,()))=some (.inl ((((i+1:Nat):Int),()),(ns2,()))):=by
     have hbq:((i:Int)==(r:Int))=false:=beq_eq_false_iff_ne.2 (by omega);have e:∀X,X=mkx m nsO d b w→qT X (((r:Int),()),()) (((c:Int),()),()) (((i:Int),()),(ns,()))=some (.inl ((((i+1:Nat):Int),()),(ns2,()))):=fun X hX=>by
      unfold qT
      have x1:X.2.1.1=ids m:=by rw[hX];rfl
      rw[←hX] at k1;simp only[x1,hdc,cond_true,ini,qc,hbq,cond_false,Int.toNat_natCast,qcI hlt,elen,qA hc,k1,Option.bind_some,ew]
     exact e _ rfl
    refine .inl ⟨_,step,⟨ns2,i+1,rfl,hlt,k2,by rw[k3 r (fun e=>hir e.symm)];exact g2,fun k hk=>by rw[k3 k (by omega)];exact g3 k (by omega),fun k hk hkr=>?_⟩,by simp;omega⟩;by_cases e:k=i
    ·subst e;refine⟨k4,fun j hj=>?_⟩;have:=k5 j hj;rw[hri,hri,hrr] at this;exact this
    ·obtain⟨q1,q2⟩:=g4 k (by omega) hkr;have e2:rw' ns2 k=rw' ns k:=k3 k e;exact⟨by rw[e2];exact q1,fun j hj=>by have:=q2 j hj;unfold el at this ⊢;rw[e2];exact this⟩
  ·have hdc:decide ((i:Int)<(((ids m).length:Nat):Int))=false:=by rw[qcJ];simp;omega
   exact .inr ⟨_,by unfold qT mkx;simp only[hdc,cond_false],ns,rfl,g1,g2,fun k hk hkr=>g4 k (by omega) hkr⟩) ((((0:Nat):Int),()),(nsO,())) ⟨nsO,0,rfl,Nat.zero_le _,h.len,rfl,fun _ _=>rfl,fun k h=>absurd h (Nat.not_lt_zero _)⟩
 exact⟨ns',h1,h2⟩
def tabOf (ns:NS) (d:BI) (b:List Int):Tab:=⟨fun i j=>vI (el ns i j),vI d,fun k=>(getD' b k 0).toNat⟩
structure Wfs (m n:Nat) (T0:Nat→Nat→Int) (ns:NS) (d:BI) (b:List Int):Prop where
 ok:Ok m (n+m+1) ns
 den:Ri d (vI d)
 bl:b.length=m
 bn:∀k,k<m→0≤getD' b k 0
 inv:Inv m n T0 (tabOf ns d b)
theorem qoF {n:Nat} {T0:Nat→Nat→Int} {ns:NS} (h:Wfs m n T0 ns d b) (hm:m≤50) (hm0:0<m) (hn:n≤50) {B S:Nat} (hB:1≤B) (hT0:∀i j,i<m+1→j<n+m+1→(T0 i j).natAbs≤B) (hS:S≤1000000000) (hBS:((fac (m+1)*B ^ (m+1):Nat):Int)<pw S)
  (h0:∀i j,i<m→j<n+m→0≤T0 i j) (h1:∀c,c<n+m→∃l,l<m∧0<T0 l c) :
  (qaf (mkx m ns d b ((n+m:Nat):Int))=some (.inr ((-1,()),((ids m,(d.1,(d.2.1,(b,(((n+m:Nat):Int),()))))),(ns,()))))∧∀j,j<n+m→0≤vI (el ns m j)) ∨
  ∃ns' d' b' r c,qaf (mkx m ns d b ((n+m:Nat):Int))=some (.inl (mkx m ns' d' b' ((n+m:Nat):Int)))∧Wfs m n T0 ns' d' b'∧Stp m n (tabOf ns d b) (tabOf ns' d' b') r c:=by
 have hI:=h.inv;obtain⟨hbd,hbT⟩:=qrY hI hB hT0;have hzT:∀i j,i<m+1→j<n+m+1→Sz (vI (el ns i j)) S:=fun i j hi hj=>by
  have:(vI (el ns i j)).natAbs≤fac (m+1)*B ^ (m+1):=hbT i j hi hj;unfold Sz;omega
 have hzd:Sz (vI d) S:=by
  have:(vI d).natAbs≤fac (m+1)*B ^ (m+1):=hbd;unfold Sz;omega
 obtain⟨c,c1,c2,c3,c4⟩:=qvH (d:=d) (b:=b) h.ok (E:=n+m) rfl (by omega) (by omega) (w:=((n+m:Nat):Int)) rfl
 have in0:inb (0:Int) (ids m).length=true:=by rw[qcJ];exact qA (i:=0) (by omega)
 have inl:inb (w64 ((((ids m).length:Nat):Int)-1)) (ids m).length=true:=by
  rw[qcJ,wi_id (by omega) (by omega)];exact inb_iff.2 ⟨by omega,by omega⟩
 by_cases hcE:c=n+m
 ·refine .inl ⟨?_,fun j hj=>c3 j (by omega)⟩
  have hbq:((c:Int)==((n+m:Nat):Int))=true:=by rw[hcE];exact beq_self_eq_true _
  have e:∀X,X=mkx m ns d b ((n+m:Nat):Int)→qaf X=some (.inr ((-1,()),((ids m,(d.1,(d.2.1,(b,(((n+m:Nat):Int),()))))),(ns,())))):=fun X hX=>by
   unfold qaf
   have x1:X.2.1.1=ids m:=by rw[hX];rfl
   have x2:X.2.1.2.2.2.2.1=((n+m:Nat):Int):=by rw[hX];rfl
   rw[←hX] at c1;simp only[x1,x2,inl,qc,c1,Option.bind_some,hbq,cond_true];rw[hX];rfl
  exact e _ rfl
 ·have hclt:c<n+m:=by omega
  have hneg:=c4 hclt;obtain⟨k0,hk0,hk0p⟩:=has_row hI h0 hclt (h1 c hclt);obtain⟨r,r1,r2,r3,r4⟩:=qu5 (d:=d) (w:=((n+m:Nat):Int)) h.ok (E:=n+m) rfl (by omega) (by omega) h.bl (c:=c) (by omega) (S:=S) (by omega) hzT ⟨k0,hk0,hk0p⟩;have hrat:∀i,i<m→0<(tabOf ns d b).T i c→(tabOf ns d b).T r (n+m)*(tabOf ns d b).T i c≤(tabOf ns d b).T i (n+m)*(tabOf ns d b).T r c:=fun i hi hp=>(r4 i hi hp).1;have hdpos:0<vI d:=hI.pos;obtain⟨ns',f1,f2,f3,f4⟩:=elim_all (d:=d) (b:=b) (w:=((n+m:Nat):Int)) h.ok (r:=r) (c:=c) (by omega) (by omega) (by omega) (by omega) (by omega) hzT h.den hzd (by omega)
   (fun i j hi hir hj=>exact hI r2 (c:=c) (by omega) (Int.ne_of_gt r3) hi hir hj)
  have hpv:tabOf ns' (el ns r c) (b.set r (c:Int))=pv (tabOf ns d b) r c:=by
   unfold pv tabOf;congr 1
   ·funext i j;show vI (el ns' i j)=if i=r then vI (el ns r j) else(vI (el ns i j)*vI (el ns r c)-vI (el ns i c)*vI (el ns r j)) / vI d;by_cases hir:i=r
    ·subst hir;rw[if_pos rfl];unfold el;rw[f3]
    ·rw[if_neg hir];by_cases hi:i<m+1
     ·obtain⟨q1,q2⟩:=f4 i hi hir;by_cases hj:j<n+m+1
      ·exact(q2 j hj).vI
      ·rw[qpf (by omega),qpf (ns:=ns) (i:=i) (by rw[h.ok.row i hi];omega),qpf (ns:=ns) (i:=r) (j:=j) (by rw[h.ok.row r (by omega)];omega),vI_z];simp
     ·have e1:rw' ns' i=[]:=qoI (by omega);have e2:rw' ns i=[]:=qoI (by rw[h.ok.len];omega);rw[qpf (ns:=ns') (by rw[e1];exact Nat.zero_le _),qpf (ns:=ns) (i:=i) (j:=j) (by rw[e2];exact Nat.zero_le _),qpf (ns:=ns) (i:=i) (j:=c) (by rw[e2];exact Nat.zero_le _),vI_z];simp
   ·funext k;show(getD' (b.set r (c:Int)) k 0).toNat=if k=r then c else(getD' b k 0).toNat;by_cases hkr:k=r
    ·subst hkr;rw[if_pos rfl,qbt (by rw[List.length_set,h.bl];exact r2)];simp
    ·rw[if_neg hkr];have e':r≠k:=fun h=>hkr h.symm;simp[getD',List.getElem?_set,e']
  have hst:Stp m n (tabOf ns d b) (tabOf ns' (el ns r c) (b.set r (c:Int))) r c :=
   ⟨r2,hclt,hneg,c3,r3,hrat,fun i hi hp he=>by
    have hle:fle (vI (el ns i (n+m)),vI (el ns i c)) (vI (el ns r (n+m)),vI (el ns r c)):=Int.le_of_eq he.symm;have:=(r4 i hi hp).2 hle;show(getD' b r 0).toNat≤(getD' b i 0).toNat
    omega,hpv⟩
  refine .inr ⟨ns',el ns r c,b.set r (c:Int),r,c,?_,⟨⟨f2,fun i hi=>?_,fun i j hi hj=>?_⟩,?_,by rw[List.length_set];exact h.bl,fun k hk=>?_,hst.inv hI⟩,hst⟩
  ·have hbq:((c:Int)==((n+m:Nat):Int))=false:=beq_eq_false_iff_ne.2 (by omega);have hsp:decide (qS (getD' (ndP ns [] (r+1)) c (false,([],())))<0)=false:=by
    have:qS (getD' (ndP ns [] (r+1)) c (false,([],())))=(vI (el ns r c)).sign:=qgN (h.ok.ri r c (by omega) (by omega));rw[this,ql0];exact decide_eq_false (by omega)
   have inr:inb (r:Int) (ids m).length=true:=by rw[qcJ];exact qA (by omega)
   have inb':inb (r:Int) b.length=true:=by rw[h.bl];exact qA r2
   have elen:lnP ns (r+1)=n+m+1:=by rw[ln_rw];exact h.ok.row r (by omega)
   have hr0:decide ((r:Int)<0)=false:=decide_eq_false (by omega);have e:∀X,X=mkx m ns d b ((n+m:Nat):Int)→qaf X=some (.inl (mkx m ns' (el ns r c) (b.set r (c:Int)) ((n+m:Nat):Int))):=fun X hX=>by
    unfold qaf
    have x1:X.2.1.1=ids m:=by rw[hX];rfl
    have x2:X.2.1.2.2.2.2.1=((n+m:Nat):Int):=by rw[hX];rfl
    have x3:X.2.2.1=ns:=by rw[hX];rfl
    have x4:X.2.1.2.2.2.1=b:=by rw[hX];rfl
    have x5:X.2.1.2.2.2.2=(((n+m:Nat):Int),()):=by rw[hX];rfl
    rw[←hX] at c1 r1 f1;simp only[x1,x2,x3,x4,x5,inl,qc,c1,Option.bind_some,hbq,cond_false,in0,r1,hr0,inr,Int.toNat_natCast,qcI (show r<m+1 by omega),elen,qA (show c<n+m+1 by omega),f1,hsp,inb'];rfl
   exact e _ rfl
  ·by_cases hir:i=r
   ·rw[hir,f3];exact h.ok.row r (by omega)
   ·exact(f4 i hi hir).1
  ·by_cases hir:i=r
   ·subst hir
    have e:el ns' i j=el ns i j:=by unfold el;rw[f3]
    rw[e];exact h.ok.ri i j hi hj
   ·have:=(f4 i hi hir).2 j hj;rw[this.vI];exact this
  ·exact h.ok.ri r c (by omega) (by omega)
  ·by_cases hkr:k=r
   ·subst hkr;rw[qbt (by rw[List.length_set,h.bl];exact hk)];simp
   ·have:getD' (b.set r (c:Int)) k 0=getD' b k 0:=by
     have e':r≠k:=fun h=>hkr h.symm;simp[getD',List.getElem?_set,e']
    rw[this];exact h.bn k hk
theorem run_spec {n:Nat} {T0:Nat→Nat→Int} {ns:NS} (h:Wfs m n T0 ns d b) (hm:m≤50) (hm0:0<m) (hn:n≤50) {B S:Nat} (hB:1≤B) (hT0:∀i j,i<m+1→j<n+m+1→(T0 i j).natAbs≤B) (hS:S≤1000000000) (hBS:((fac (m+1)*B ^ (m+1):Nat):Int)<pw S)
  (h0:∀i j,i<m→j<n+m→0≤T0 i j) (h1:∀c,c<n+m→∃l,l<m∧0<T0 l c) :
  ∃ns' d' b',iterW qaf (mkx m ns d b ((n+m:Nat):Int))=some ((-1,()),((ids m,(d'.1,(d'.2.1,(b',(((n+m:Nat):Int),()))))),(ns',())))∧Wfs m n T0 ns' d' b'∧∀j,j<n+m→0≤vI (el ns' m j):=by
 obtain⟨q,h2,ns',d',b',rfl,h3,h4⟩:=qtq (f:=qaf) (fun X=>∃ns d b,X=mkx m ns d b ((n+m:Nat):Int)∧Wfs m n T0 ns d b)
  (fun q=>∃ns' d' b',q=((-1,()),((ids m,(d'.1,(d'.2.1,(b',(((n+m:Nat):Int),()))))),(ns',())))∧Wfs m n T0 ns' d' b'∧∀j,j<n+m→0≤vI (el ns' m j)) (by
   rintro X ⟨ns,d,b,rfl,hw⟩
   rcases qoF hw hm hm0 hn hB hT0 hS hBS h0 h1 with ⟨k1,k2⟩ | ⟨ns',d',b',r,c,k1,k2,_⟩
   ·exact .inr ⟨_,k1,ns,d,b,rfl,hw,k2⟩
   ·exact .inl ⟨_,k1,ns',d',b',rfl,k2⟩) (x:=mkx m ns d b ((n+m:Nat):Int)) ⟨ns,d,b,rfl,h⟩ ((n+m) ^ m) (fun st hP hf=>by
   let tab:SX→Tab:=fun X=>tabOf X.2.2.1 (X.2.1.2.1,(X.2.1.2.2.1,())) X.2.1.2.2.2.1
   have htab:∀ns (d:BI) b,tab (mkx m ns d b ((n+m:Nat):Int))=tabOf ns d b:=fun _ _ _=>rfl;have hinv:∀t,t≤(n+m) ^ m→Inv m n T0 (tab (st t)):=fun t ht=>by
    obtain⟨ns,d,b,e,hw⟩:=hP t ht;rw[e,htab];exact hw.inv
   have hstp:∀t,t<(n+m) ^ m→∃q:Nat×Nat,Stp m n (tab (st t)) (tab (st (t+1))) q.1 q.2:=fun t ht=>by
    obtain⟨ns,d,b,e,hw⟩:=hP t (Nat.le_of_lt ht);have hft:=hf t ht;rw[e] at hft;rcases qoF hw hm hm0 hn hB hT0 hS hBS h0 h1 with ⟨k1,_⟩ | ⟨ns',d',b',r,c,k1,_,k3⟩
    ·rw[k1] at hft;cases hft
    ·rw[k1] at hft;have e2:mkx m ns' d' b' ((n+m:Nat):Int)=st (t+1):=Sum.inl.inj (Option.some.inj hft);refine⟨(r,c),?_⟩;rw[e,←e2,htab,htab];exact k3
   exact no_long (st:=fun t=>tab (st t)) (r:=fun t=>if ht:t<(n+m) ^ m then(Classical.choose (hstp t ht)).1 else 0) (c:=fun t=>if ht:t<(n+m) ^ m then(Classical.choose (hstp t ht)).2 else 0) hinv fun t ht=>by
    simp only[dif_pos ht]
    exact Classical.choose_spec (hstp t ht))
 exact⟨ns',d',b',h2,h3,h4⟩
end
end Lvl
end Go.Proofs.YteahiolockghkaaGreatDoor
namespace Go.Proofs.YteahiolockghkaaGreatDoor
open Go.Den
namespace Lvl
set_option linter.unusedVariables false
set_option linter.unusedSimpArgs false
abbrev SP:Type:=(List (List BQ))×(List BQ)×(List BQ)×Unit
theorem qm7 {ns:NS} {v:List BI}:(addP ns v).length=ns.length+1:=by simp[addP]
theorem rw_add {ns:NS} {v:List BI} {k:Nat}:rw' (addP ns v) k=if k=ns.length then v else rw' ns k:=by
 by_cases h:k=ns.length
 ·subst h;rw[if_pos rfl,qqv (by rw[qm7];omega)];simp[addP]
 ·rw[if_neg h];by_cases h2:k<ns.length
  ·rw[qqv (by rw[qm7];omega),qqv h2];simp[addP,List.getElem_append_left h2]
  ·rw[qoI (by rw[qm7];omega),qoI (by omega)]
theorem copy_eq {l:List BI} {n m N:Nat} (hl:l.length=n+1) (hN:N=n+m+1):(List.replicate N zI).take 0++(((l.take n).drop 0).take (List.replicate N zI).length++(List.replicate N zI).drop (0+(min ((l.take n).drop 0).length (List.replicate N zI).length)))=l.take n++List.replicate (m+1) zI:=by
 have e1:(l.take n).length=n:=by rw[List.length_take,hl];omega
 rw[List.take_zero,List.nil_append,List.drop_zero,List.length_replicate,e1,Nat.zero_add,Nat.min_eq_left (by omega),List.take_of_length_le (by omega),List.drop_replicate];congr 2;omega
theorem qtm {n:List BQ} (hl:n.length≤1000):qab n=some n:=by
 unfold qab;have hr:room (([]:List BQ).length+n.length) 56=true:=qfL (by simp;omega);rw[hr,qc,List.nil_append]
 cases n with
 | nil=>simp[agree]
 | cons d r=>rfl
theorem index_nil (v:Int):qct [] v=some (-1):=by
 unfold qct;have:iterW (qcs [] v) ((0,()),())=some (.inl ((),())):=qz (by unfold qcs;rfl);rw[this];rfl
theorem agree_self {α:Type} (x:Option α):agree x x=x:=by
 unfold agree;rw[if_pos rfl]
theorem need_spec {p:SP} {L:Nat} (hB:∀q∈p.2.1,Qp q L) (hl:p.2.1.length≤100):iterW (qbB p) (([],0,()),())=some (([],()),()):=by
 obtain⟨r,h1,rfl⟩:=qg (f:=qbB p) (fun s=>∃i:Nat,s=(([],(i:Int),()),())∧i≤p.2.1.length) (fun s=>p.2.1.length-(s.1.2.1).toNat) (fun r=>r=(([],()),())) (by
  rintro s ⟨i,rfl,hi⟩
  by_cases hlt:i<p.2.1.length
  ·have hd:decide ((i:Int)<((p.2.1.length:Nat):Int))=true:=by simp;omega
   obtain⟨a,b,g1,g2,_⟩:=hB p.2.1[i] (List.getElem_mem hlt);have hs:decide (qhe p.2.1[i]<0)=false:=by
    have:qhe p.2.1[i]=a.sign:=qgN g1.num;rw[this,ql0];exact decide_eq_false (by omega)
   have step:qbB p (([],(i:Int),()),())=some (.inl (([],((i+1:Nat):Int),()),())):=by
    unfold qbB;simp only[hd,cond_true,qp _ hlt,Option.bind_some,hs,cond_false];rw[wi_id (by omega) (by omega)];rfl
   exact .inl ⟨_,step,⟨i+1,rfl,hlt⟩,by simp;omega⟩
  ·have hd:decide ((i:Int)<((p.2.1.length:Nat):Int))=false:=by simp;omega
   exact .inr ⟨_,by unfold qbB;simp only[hd,cond_false],rfl⟩) (([],((0:Nat):Int),()),()) ⟨0,rfl,Nat.zero_le _⟩
 exact h1
structure Row0 (n m k S:Nat) (v:List BI):Prop where
 len:v.length=n+m+1
 un:∀j,j<n→Ip (getD' v j zI) S
 sl:∀l,l<m→Ri (getD' v (n+l) zI) (if k=l then 1 else 0)
 rhs:Ip (getD' v (n+m) zI) S
theorem row0_made {l:List BI} {one:BI} {n m k S:Nat} (hl:l.length=n+1) (h:∀a∈l,Ip a S) (h1:Ri one 1) (hk:k<m):Row0 n m k S (((l.take n++List.replicate (m+1) zI).set (n+k) one).set (n+m) (getD' l n zI)):=by
 have hlen:(l.take n++List.replicate (m+1) zI).length=n+m+1:=by simp[hl];omega
 refine⟨by simp[hl];omega,fun j hj=>?_,fun t ht=>?_,?_⟩
 ·have e:getD' (((l.take n++List.replicate (m+1) zI).set (n+k) one).set (n+m) (getD' l n zI)) j zI=l[j]'(by omega):=by
   have e1:n+m≠j:=by omega
   have e2:n+k≠j:=by omega
   have e3:j<(l.take n).length:=by rw[List.length_take,hl];omega
   unfold getD';rw[List.getD_eq_getElem?_getD,List.getElem?_set_ne e1,List.getElem?_set_ne e2,List.getElem?_append_left e3,List.getElem?_eq_getElem e3,List.getElem_take];rfl
  rw[e];exact h _ (List.getElem_mem _)
 ·have e1:n+m≠n+t:=by omega
  by_cases hkt:k=t
  ·subst hkt;have e:getD' (((l.take n++List.replicate (m+1) zI).set (n+k) one).set (n+m) (getD' l n zI)) (n+k) zI=one:=by
    unfold getD';rw[List.getD_eq_getElem?_getD,List.getElem?_set_ne e1,List.getElem?_set_self (by rw[hlen];omega)];rfl
   rw[e,if_pos rfl];exact h1
  ·have e:getD' (((l.take n++List.replicate (m+1) zI).set (n+k) one).set (n+m) (getD' l n zI)) (n+t) zI=zI:=by
    have e2:n+k≠n+t:=by omega
    unfold getD';rw[List.getD_eq_getElem?_getD,List.getElem?_set_ne e1,List.getElem?_set_ne e2,List.getElem?_append_right (by simp[hl]),List.getElem?_replicate]
    split<;>rfl
   rw[e,if_neg hkt];exact ri_zero
 ·have e:getD' (((l.take n++List.replicate (m+1) zI).set (n+k) one).set (n+m) (getD' l n zI)) (n+m) zI=l[n]'(by omega):=by
   unfold getD';rw[List.getD_eq_getElem?_getD,List.getElem?_set_self (by rw[List.length_set,hlen];omega)];simp[hl]
  rw[e];exact h _ (List.getElem_mem _)
def Fac (f:List Int) (S:Nat):Prop:=∃F,Rp f F∧0<F∧Sz F S
theorem qu7 {A:List (List BQ)} {Bv C:List BQ} {n m L:Nat} (hA:A.length=m) (hB:Bv.length=m) (hC:C.length=n) (hn:n≤12) (hm:m≤12) (hn0:0<n) (hL:L≤100000)
  (hrow:∀r∈A,r.length=n∧∀q∈r,Qp q L) (hBp:∀q∈Bv,Qp q L) {one:BI} (h1:Ri one 1) :
  ∃fs ns,iterW (qbA ((A,(Bv,(C,()))):SP) (([],()),())) (([],0,()),([],(([],(one.1,(one.2.1,([],(((n+m:Nat):Int),()))))),()))) =
   some ((fs,()),(ns,(((List.range m).map fun k=>k+1,(one.1,(one.2.1,((List.range m).map fun k=>((n+k:Nat):Int),(((n+m:Nat):Int),()))))),()))) ∧
   fs.length=m∧(∀f∈fs,Fac f (L+(1+13*L)))∧ns.length=m∧∀k,k<m→Row0 n m k (L+(1+13*L)) (rw' ns k):=by
 obtain⟨x,g1,fs,ns,rfl,g2⟩:=qg (f:=qbA ((A,(Bv,(C,()))):SP) (([],()),()))
  (fun s=>∃fs ns,∃i:Nat,s=((fs,(i:Int),()),(ns,(((List.range i).map fun k=>k+1,(one.1,(one.2.1,((List.range i).map fun k=>((n+k:Nat):Int),(((n+m:Nat):Int),()))))),())))∧i≤m ∧
   fs.length=i∧(∀f∈fs,Fac f (L+(1+13*L)))∧ns.length=i∧∀k,k<i→Row0 n m k (L+(1+13*L)) (rw' ns k)) (fun s=>m-(s.1.2.1).toNat)
  (fun r=>∃fs ns,r=((fs,()),(ns,(((List.range m).map fun k=>k+1,(one.1,(one.2.1,((List.range m).map fun k=>((n+k:Nat):Int),(((n+m:Nat):Int),()))))),()))) ∧
   fs.length=m∧(∀f∈fs,Fac f (L+(1+13*L)))∧ns.length=m∧∀k,k<m→Row0 n m k (L+(1+13*L)) (rw' ns k)) (by
  rintro s ⟨fs,ns,i,rfl,hi,f1,f2,f3,f4⟩
  by_cases hlt:i<m
  ·have hd:decide ((i:Int)<((A.length:Nat):Int))=true:=by rw[hA];simp;omega
   have hiA:i<A.length:=by omega
   have hiB:i<Bv.length:=by omega
   obtain⟨r1,r2⟩:=hrow A[i] (List.getElem_mem hiA);have r3:=hBp Bv[i] (List.getElem_mem hiB)
   obtain⟨l,f,F,w1,w2,w3,w4,w5,w6⟩:=qqU (row:=A[i]++[Bv[i]]) (L:=L) (fun q hq=>by
    rcases List.mem_append.1 hq with hq | hq
    ·exact r2 q hq
    ·rw[List.mem_singleton] at hq;subst hq;exact r3) (by simp[r1];omega) (by omega)
   have hrl:(A[i]++[Bv[i]]).length=n+1:=by simp[r1]
   rw[hrl] at w2 w5 w6;have hle:(n+1)*L≤13*L:=Nat.mul_le_mul_right _ (by omega);have w6':∀a∈l,Ip a (L+(1+13*L)):=fun a ha=>by
    obtain⟨x,e1,e2,e3⟩:=w6 a ha;exact⟨x,e1,e2,e3.mono (by omega)⟩
   obtain⟨o2,o3,o4⟩:=qkj (n:=1) (by omega) (by omega);have ho:o2=one:=o4.inj h1;subst ho
   have ew1:w64 (((n:Nat):Int)+((m:Nat):Int))=((n+m:Nat):Int):=by rw[wi_id (by omega) (by omega)];omega
   have ew2:w64 (((n+m:Nat):Int)+((0:Nat):Int))=((n+m:Nat):Int):=by rw[wi_id (by omega) (by omega)];omega
   have ew3:w64 (((n+m:Nat):Int)+1)=((n+m+1:Nat):Int):=wi_id (by omega) (by omega)
   have ew4:w64 (((n:Nat):Int)+(i:Int))=((n+i:Nat):Int):=by rw[wi_id (by omega) (by omega)];omega
   have hroom:(decide (0≤((n+m+1:Nat):Int))&&(((n+m+1:Nat):Int)==((n+m+1:Nat):Int)&&room (n+m+1) 32))=true:=by
    rw[room32 (by omega),beq_self_eq_true,Bool.and_true,Bool.and_true,decide_eq_true_eq];omega
   have hcp:=copy_eq (l:=l) (n:=n) (m:=m) (N:=n+m+1) w2 rfl
   have htl:(l.take n).length=n:=by rw[List.length_take,w2];omega
   have hb0:qh 0 ((n:Nat):Int) l.length=true:=by simp[qh,w2];omega
   have hblt:(Nat.blt 0 ((l.take n).drop 0).length&&Nat.blt 0 (List.replicate (n+m+1) zI).length)=true:=by
    rw[List.drop_zero,htl,List.length_replicate,Bool.and_eq_true,Nat.blt_eq,Nat.blt_eq];omega
   have hyl:(l.take n++List.replicate (m+1) zI).length=n+m+1:=by simp[w2];omega
   have hyl2:((l.take n++List.replicate (m+1) zI).set (n+i) o2).length=n+m+1:=by rw[List.length_set,hyl]
   have hin1:inb ((n+i:Nat):Int) (l.take n++List.replicate (m+1) zI).length=true:=by rw[hyl];exact qA (by omega)
   have hin2:inb ((n:Nat):Int) l.length=true:=by rw[w2];exact qA (by omega)
   have ew5:w64 (((n+m+1:Nat):Int)-1)=((n+m:Nat):Int):=by rw[wi_id (by omega) (by omega)];omega
   have hin3:inb ((n+m:Nat):Int) (n+m+1)=true:=qA (by omega);have hrowI:=row0_made (n:=n) (m:=m) (k:=i) w2 w6' h1 hlt;obtain⟨y,hy⟩:∃y,y=((l.take n++List.replicate (m+1) zI).set (n+i) o2).set (n+m) (getD' l n zI):=⟨_,rfl⟩;rw[←hy] at hrowI
   have hyb:Nat.blt 0 y.length=true:=by rw[hrowI.len,Nat.blt_eq];omega
   have ei:w64 ((i:Int)+1)=((i+1:Nat):Int):=wi_id (by omega) (by omega)
   have er1:(List.range i).map (fun k=>k+1)++[ns.length+1]=(List.range (i+1)).map fun k=>k+1:=by rw[List.range_succ,List.map_append,f3];rfl
   have er2:(List.range i).map (fun k=>((n+k:Nat):Int))++[((n+i:Nat):Int)]=(List.range (i+1)).map fun k=>((n+k:Nat):Int):=by rw[List.range_succ,List.map_append];rfl
   have hag:(agree (Option.bind (qab A[i]) fun r12=>req (room (r12.length+([Bv[i]]).length) 56) (Option.bind (qah (r12++[Bv[i]])) fun r13=>some (((r13.1,r13.2.1,()),()):(List BI×List Int×Unit)×Unit)))
     (Option.bind (qab A[i]) fun r12=>req (room (r12.length+([Bv[i]]).length) 56) (Option.bind (qah (r12++[Bv[i]])) fun r13=>some ((r13.1,r13.2.1,()),()))))=some ((l,f,()),()):=by
    rw[agree_self,qtm (by omega),Option.bind_some,qfL (by simp[r1];omega),qc];unfold qah;rw[w1];rfl
   have step:qbA ((A,(Bv,(C,()))):SP) (([],()),()) ((fs,(i:Int),()),(ns,(((List.range i).map fun k=>k+1,(o2.1,(o2.2.1,((List.range i).map fun k=>((n+k:Nat):Int),(((n+m:Nat):Int),()))))),()))) =
     some (.inl ((fs++[f],((i+1:Nat):Int),()),(addP ns y,(((List.range (i+1)).map fun k=>k+1,(o2.1,(o2.2.1,((List.range (i+1)).map fun k=>((n+k:Nat):Int),(((n+m:Nat):Int),()))))),())))):=by
    have hz:((false,(([]:List Int),())):BI)=zI:=rfl;have hr1:room (fs.length+[f].length) 24=true:=qoM (by simp[f1];omega);have hr2:room (((List.range i).map fun k=>((n+k:Nat):Int)).length+[((n+i:Nat):Int)].length) 8=true:=room8 (by simp;omega);have hr3:room (((List.range i).map fun k=>k+1).length+[ns.length+1].length) 24=true:=qoM (by simp;omega);have hneg:decide ((-1:Int)≥0)=false:=rfl;unfold qbA;simp only[hd,cond_true,qp A hiA,qp Bv hiB,Option.bind_some,hag];simp only[hr1,hC,hB,List.length_nil,ew1,ew2,ew3,ew4,Int.toNat_natCast,hroom,qc,hb0,hz,hblt,o3,Option.bind_some,hcp,hin1,hin2,hyl2,ew5,hin3,hr2,index_nil,hneg,cond_false,←hy,hyb,hr3,ei,er1,er2]
   refine .inl ⟨_,step,⟨_,_,i+1,rfl,hlt,by simp[f1],fun g hg=>?_,by rw[qm7,f3],fun k hk=>?_⟩,by simp;omega⟩
   ·rcases List.mem_append.1 hg with hg | hg
    ·exact f2 g hg
    ·rw[List.mem_singleton] at hg;subst hg;exact⟨F,w3,w4,w5.mono (by omega)⟩
   ·rw[rw_add,f3];by_cases e:k=i
    ·rw[if_pos e,e];exact hrowI
    ·rw[if_neg e];exact f4 k (by omega)
  ·have hd:decide ((i:Int)<((A.length:Nat):Int))=false:=by rw[hA];simp;omega
   have e:i=m:=by omega
   subst e
   exact .inr ⟨_,by unfold qbA;simp only[hd,cond_false],fs,ns,rfl,f1,f2,f3,f4⟩) (([],((0:Nat):Int),()),([],(([],(one.1,(one.2.1,([],(((n+m:Nat):Int),()))))),()))) ⟨[],[],0,rfl,Nat.zero_le _,rfl,(fun f h=>by cases h),rfl,fun k h=>absurd h (Nat.not_lt_zero _)⟩
 exact⟨fs,ns,g1,g2⟩
end Lvl
namespace Lvl
set_option linter.unusedVariables false
set_option linter.unusedSimpArgs false
abbrev X35:Type:=((List (List Int))×Unit)×(NS×((List Nat)×Bool×(List Int)×(List Int)×Int×Unit)×Unit)
def mk35 (fs:List (List Int)) (ns:NS) (rows:List Nat) (one:BI) (b:List Int) (w:Int):X35:=((fs,()),(ns,((rows,(one.1,(one.2.1,(b,(w,()))))),())))
theorem qmd {A:Type} {l:List A} {i k:Nat} {d x:A} (h:k≠i):getD' (l.set i x) k d=getD' l k d:=by
 have e:i≠k:=fun e=>h e.symm;simp[getD',List.getElem?_set,e]
theorem qsm {A:Type} {l:List A} {i:Nat} {d x:A} (h:i<l.length):getD' (l.set i x) i d=x:=by
 rw[qbt (by rw[List.length_set];exact h)];simp
def In (a:BI) (L:Nat):Prop:=∃x,Ri a x∧x<0∧Sz x L
theorem qvS {cl:List BI} {f:List Int} {fs:List (List Int)} {ns:NS} {rows:List Nat} {one:BI} {b:List Int} {w:Int} {N S:Nat} (hc:∀a∈cl,Ip a S) (hN:cl.length≤N) (hN2:N≤1000) (h1:Ri one 1) (hS:S≤1000000000) :
  ∃last,iterW (qbF (cl,(f,())) (mk35 fs ns rows one b w)) ((0,()),(List.replicate N zI,()))=some ((),(last,()))∧last.length=N∧(∀j,j<cl.length→In (getD' last j zI) (S+1))∧∀j,cl.length≤j→getD' last j zI=zI:=by
 obtain⟨x,g1,last,rfl,g2⟩:=qg (f:=qbF (cl,(f,())) (mk35 fs ns rows one b w))
  (fun s=>∃o,∃i:Nat,s=(((i:Int),()),(o,()))∧i≤cl.length∧o.length=N∧(∀j,j<i→In (getD' o j zI) (S+1))∧∀j,i≤j→getD' o j zI=zI) (fun s=>cl.length-(s.1.1).toNat)
  (fun r=>∃o,r=((),(o,()))∧o.length=N∧(∀j,j<cl.length→In (getD' o j zI) (S+1))∧∀j,cl.length≤j→getD' o j zI=zI) (by
  rintro s ⟨o,i,rfl,hi,f1,f2,f3⟩
  by_cases hlt:i<cl.length
  ·have hd:decide ((i:Int)<((cl.length:Nat):Int))=true:=by simp;omega
   obtain⟨x,e1,e2,e3⟩:=hc cl[i] (List.getElem_mem hlt);have eg:getD' cl i zI=cl[i]:=qbt hlt;obtain⟨y,k1,k2⟩:=qam (opp_ri e1) (qqC h1) e3.neg (M:=1) (Sz.small (by decide)) (by omega) (by omega)
   have hio:i<o.length:=by omega
   have step:qbF (cl,(f,())) (mk35 fs ns rows one b w) (((i:Int),()),(o,()))=some (.inl ((((i+1:Nat):Int),()),(o.set i y,()))):=by
    have hz:((false,([],())):BI)=zI:=rfl;unfold qbF mk35;simp only[hd,cond_true,qA hlt,qc,Int.toNat_natCast,hz,eg,k1,Option.bind_some,qA hio];rw[wi_id (by omega) (by omega)];rfl
   refine .inl ⟨_,step,⟨_,i+1,rfl,hlt,by rw[List.length_set];exact f1,fun j hj=>?_,fun j hj=>?_⟩,by simp;omega⟩
   ·by_cases e:j=i
    ·subst e;rw[qsm hio];exact⟨_,k2,by omega,e3.neg.mul (Sz.small (by decide))⟩
    ·rw[qmd e];exact f2 j (by omega)
   ·rw[qmd (by omega)];exact f3 j (by omega)
  ·have hd:decide ((i:Int)<((cl.length:Nat):Int))=false:=by simp;omega
   have e:i=cl.length:=by omega
   subst e
   exact .inr ⟨_,by unfold qbF;simp only[hd,cond_false],o,rfl,f1,f2,f3⟩) ((((0:Nat):Int),()),(List.replicate N zI,())) ⟨_,0,rfl,Nat.zero_le _,by simp,fun j h=>absurd h (Nat.not_lt_zero _),fun j _=>by
    unfold getD';rw[List.getD_eq_getElem?_getD,List.getElem?_replicate]
    split<;>rfl⟩
 exact⟨last,g1,g2⟩
theorem qvf {p:SP} {r36:(List BI)×(List Int)×Unit} {fs:List (List Int)} {ns:NS} {rows:List Nat} {one:BI} {n m:Nat} {w:Int} {last:List BI} (hC:p.2.2.1.length=n) (hn:n≤1000) (hm:m≤1000) :
  iterW (qbI (mk35 fs ns rows one ((List.range m).map fun k=>((n+k:Nat):Int)) w) p r36) ((0,()),(last,()))=some ((),(last,())):=by
 obtain⟨r,h1,rfl⟩:=qg (f:=qbI (mk35 fs ns rows one ((List.range m).map fun k=>((n+k:Nat):Int)) w) p r36) (fun s=>∃i:Nat,s=(((i:Int),()),(last,()))∧i≤m) (fun s=>m-(s.1.1).toNat) (fun r=>r=((),(last,()))) (by
  rintro s ⟨i,rfl,hi⟩
  have hl:((List.range m).map fun k=>((n+k:Nat):Int)).length=m:=by simp
  by_cases hlt:i<m
  ·have hd:decide ((i:Int)<((((List.range m).map fun k=>((n+k:Nat):Int)).length:Nat):Int))=true:=by rw[hl];simp;omega
   have hg:getD' ((List.range m).map fun k=>((n+k:Nat):Int)) i 0=((n+i:Nat):Int):=by
    rw[qbt (by rw[hl];exact hlt)];simp
   have hb:decide (((n+i:Nat):Int)<((n:Nat):Int))=false:=decide_eq_false (by omega)
   have hib:inb (i:Int) ((List.range m).map fun k=>((n+k:Nat):Int)).length=true:=by rw[hl];exact qA hlt
   have step:qbI (mk35 fs ns rows one ((List.range m).map fun k=>((n+k:Nat):Int)) w) p r36 (((i:Int),()),(last,()))=some (.inl ((((i+1:Nat):Int),()),(last,()))):=by
    unfold qbI mk35;simp only[hd,cond_true,hib,qc,Int.toNat_natCast,hg,hC,hb,imp,cond_false,Bool.false_and,Option.bind_some];rw[wi_id (by omega) (by omega)];rfl
   exact .inl ⟨_,step,⟨i+1,rfl,hlt⟩,by simp;omega⟩
  ·have hd:decide ((i:Int)<((((List.range m).map fun k=>((n+k:Nat):Int)).length:Nat):Int))=false:=by rw[hl];simp;omega
   exact .inr ⟨_,by unfold qbI mk35;simp only[hd,cond_false],rfl⟩) ((((0:Nat):Int),()),(last,())) ⟨0,rfl,Nat.zero_le _⟩
 exact h1
theorem ri_self {a:BI} {x:Int} (h:Ri a x):Ri a (vI a):=by rw[h.vI];exact h
structure RowC (n m S:Nat) (v:List BI):Prop where
 len:v.length=n+m+1
 un:∀j,j<n→In (getD' v j zI) S
 sl:∀j,n≤j→getD' v j zI=zI
section
variable {n m S : Nat} {ns : NS} {last : List BI} {one : BI}
theorem init_el (hl:ns.length=m) (hr:∀k,k<m→Row0 n m k S (rw' ns k)) (hc:RowC n m S last) :
  (∀k,k<m→rw' (addP ns last) k=rw' ns k)∧rw' (addP ns last) m=last:=by
 refine⟨fun k hk=>by rw[rw_add,if_neg (by omega)],by rw[rw_add,if_pos hl.symm]⟩
theorem init_T0 (hl:ns.length=m) (hr:∀k,k<m→Row0 n m k S (rw' ns k)) (hc:RowC n m S last) (hS:1≤S) :
  Ok m (n+m+1) (addP ns last)∧(∀i j,i<m+1→j<n+m+1→Sz (vI (el (addP ns last) i j)) S)∧(∀i j,i<m→j<n→0<vI (el (addP ns last) i j))∧(∀i l,i<m+1→l<m→vI (el (addP ns last) i (n+l))=if i=l then 1 else 0) ∧
   (∀i,i<m→0<vI (el (addP ns last) i (n+m)))∧(∀j,j<n→vI (el (addP ns last) m j)<0)∧vI (el (addP ns last) m (n+m))=0:=by
 obtain⟨e1,e2⟩:=init_el hl hr hc;have key:∀i j,i<m+1→j<n+m+1→∃x,Ri (el (addP ns last) i j) x∧Sz x S:=fun i j hi hj=>by
  unfold el;by_cases him:i<m
  ·rw[e1 i him];have h:=hr i him;rcases Nat.lt_or_ge j n with h1 | h1
   ·obtain⟨x,g1,g2,g3⟩:=h.un j h1;exact⟨x,g1,g3⟩
   ·rcases Nat.lt_or_ge j (n+m) with h2 | h2
    ·obtain⟨l,rfl⟩:∃l,j=n+l:=⟨j-n,by omega⟩;refine⟨_,h.sl l (by omega),?_⟩;split
     ·exact(Sz.small (by decide)).mono hS
     ·exact(Sz.small (by decide)).mono hS
    ·obtain rfl:j=n+m:=by omega
     obtain⟨x,g1,g2,g3⟩:=h.rhs;exact⟨x,g1,g3⟩
  ·obtain rfl:i=m:=by omega
   rw[e2];rcases Nat.lt_or_ge j n with h1 | h1
   ·obtain⟨x,g1,g2,g3⟩:=hc.un j h1;exact⟨x,g1,g3⟩
   ·rw[hc.sl j h1];exact⟨0,ri_zero,(Sz.small (by decide)).mono hS⟩
 refine⟨⟨by rw[qm7,hl],fun i hi=>?_,fun i j hi hj=>?_⟩,fun i j hi hj=>?_,fun i j hi hj=>?_,fun i l hi hl'=>?_,fun i hi=>?_,fun j hj=>?_,?_⟩
 ·by_cases him:i<m
  ·rw[e1 i him];exact(hr i him).len
  ·obtain rfl:i=m:=by omega
   rw[e2];exact hc.len
 ·obtain⟨x,g1,_⟩:=key i j hi hj;exact ri_self g1
 ·obtain⟨x,g1,g2⟩:=key i j hi hj;rw[g1.vI];exact g2
 ·obtain⟨x,g1,g2,_⟩:=(hr i hi).un j hj;unfold el;rw[e1 i hi,g1.vI];exact g2
 ·unfold el;by_cases him:i<m
  ·rw[e1 i him];exact((hr i him).sl l hl').vI
  ·obtain rfl:i=m:=by omega
   rw[e2,hc.sl _ (by omega),if_neg (by omega)];rfl
 ·obtain⟨x,g1,g2,_⟩:=(hr i hi).rhs;unfold el;rw[e1 i hi,g1.vI];exact g2
 ·obtain⟨x,g1,g2,_⟩:=hc.un j hj;unfold el;rw[e2,g1.vI];exact g2
 ·unfold el;rw[e2,hc.sl _ (by omega)];rfl
theorem init_wfs (hl:ns.length=m) (hr:∀k,k<m→Row0 n m k S (rw' ns k)) (hc:RowC n m S last) (hS:1≤S) (h1:Ri one 1) :
  Wfs m n (fun i j=>vI (el (addP ns last) i j)) (addP ns last) one ((List.range m).map fun k=>((n+k:Nat):Int)):=by
 obtain⟨i1,i2,i3,i4,i5,i6,i7⟩:=init_T0 hl hr hc hS;obtain⟨T0,hT⟩:∃T0:Nat→Nat→Int,T0=fun i j=>vI (el (addP ns last) i j):=⟨_,rfl⟩
 have ht:∀i j,vI (el (addP ns last) i j)=T0 i j:=fun i j=>by rw[hT]
 simp only[ht] at i3 i4 i5 i6 i7;rw[←hT]
 have hbl:((List.range m).map fun k=>((n+k:Nat):Int)).length=m:=by simp
 have hb:∀k,k<m→getD' ((List.range m).map fun k=>((n+k:Nat):Int)) k 0=((n+k:Nat):Int):=fun k hk=>by
  rw[qbt (by rw[hbl];exact hk)];simp
 have hb':∀k,k<m→(tabOf (addP ns last) one ((List.range m).map fun k=>((n+k:Nat):Int))).b k=n+k:=fun k hk=>by
  show(getD' ((List.range m).map fun k=>((n+k:Nat):Int)) k 0).toNat=_;rw[hb k hk];omega
 have hM:∀k i,k<m+1→i<m+1→basM m T0 (tabOf (addP ns last) one ((List.range m).map fun k=>((n+k:Nat):Int))).b k i=if k=i then 1 else 0:=fun k i hk hi=>by
  unfold basM;by_cases h:k<m
  ·rw[if_pos h,hb' k h,i4 i k hi h];by_cases e:k=i
   ·rw[if_pos e.symm,if_pos e]
   ·rw[if_neg (fun h=>e h.symm),if_neg e]
  ·rw[if_neg h]
 have hT':∀i j,(tabOf (addP ns last) one ((List.range m).map fun k=>((n+k:Nat):Int))).T i j=T0 i j:=fun i j=>by rw[hT];rfl
 have hd:(tabOf (addP ns last) one ((List.range m).map fun k=>((n+k:Nat):Int))).d=1:=h1.vI;refine⟨i1,ri_self h1,hbl,fun k hk=>by rw[hb k hk];omega,?_⟩;refine⟨by rw[hd];omega,?_,fun i j hi hj=>?_,fun i j hi hj=>?_,fun k l hk hl'=>?_,fun l hl'=>by rw[hb' l hl'];omega,fun k hk=>?_⟩
 ·rw[hd,qi0 (N:=fun k i=>if k=i then 1 else 0) fun k hk i hi=>hM k i hk hi];exact det_one _
 ·rw[hd,Int.one_mul,qde (k:=i) hi fun k hk hne=>?_,hM i i hi hi,if_pos rfl,hT',Int.mul_one];rw[hM k i hk hi,if_neg hne,Int.mul_zero]
 ·rw[hT',hd,Int.one_mul];by_cases him:i=m
  ·subst him;rw[if_pos rfl,qcG fun k hk=>?_,Int.zero_add];rw[hT',i4 i k (by omega) hk,if_neg (by omega),Int.zero_mul]
  ·rw[if_neg him,Int.add_zero,qde (k:=i) (by omega) fun k hk hne=>?_]
   ·rw[hT',i4 i i (by omega) (by omega),if_pos rfl,Int.one_mul]
   ·rw[hT',i4 i k (by omega) hk,if_neg (fun e=>hne e.symm),Int.zero_mul]
 ·rw[hb' l hl',hT',i4 k l hk hl',hd]
 ·rw[hT'];exact Int.le_of_lt (i5 k hk)
end
theorem pw_pow (a:Nat):∀k:Nat,pw (a*k)=pw a ^ k
 | 0=>(Int.pow_zero _).symm
 | k+1=>by rw[Nat.mul_succ,qhJ,pw_pow a k,Int.pow_succ]
theorem fac_le:∀ {k:Nat},k≤13→fac k≤6227020800:=fun {k} h=>by
 have:∀k,k<14→fac k≤6227020800:=by decide
 exact this k (by omega)
theorem bound_pw {m S:Nat} (hm:m≤12):((fac (m+1)*((pw S).toNat) ^ (m+1):Nat):Int)<pw (2+S*(m+1)):=by
 have h0:=qdL S;rw[Int.natCast_mul,Int.natCast_pow,Int.toNat_of_nonneg (Int.le_of_lt h0),←pw_pow,qhJ];have h1:=fac_le (k:=m+1) (by omega);have h2:=qdL (S*(m+1));refine Int.mul_lt_mul_of_pos_right ?_ h2;show _<4294967296*(4294967296*(1:Int));omega
end Lvl
end Go.Proofs.YteahiolockghkaaGreatDoor
namespace Go.Proofs.YteahiolockghkaaGreatDoor
open Go.Den
namespace Lvl
set_option linter.unusedVariables false
set_option linter.unusedSimpArgs false
abbrev X83:Type:=(Int×Unit)×(((List Nat)×Bool×(List Int)×(List Int)×Int×Unit)×NS×Unit)
def mk83 (m:Nat) (ns:NS) (d:BI) (b:List Int) (w:Int):X83:=((-1,()),((ids m,(d.1,(d.2.1,(b,(w,()))))),(ns,())))
theorem Qz.mono {q:BQ} {L M:Nat} (h:Qz q L) (hl:L≤M):Qz q M:=by
 obtain⟨a,b,h1,h2,h3⟩:=h;exact⟨a,b,h1,h2.mono hl,h3.mono hl⟩
section
variable {m n : Nat} {ns : NS} {d : BI} {b : List Int} {w : Int} {S : Nat}
theorem qtr (h:Ok m (n+m+1) ns) (hz:∀i j,i<m+1→j<n+m+1→Sz (vI (el ns i j)) S) {i j:Nat} (hi:i<m+1) (hj:j<n+m+1) {e:BI} {x:Int} (he:Ri e x) {T:Nat} (hx:Sz x T) (hx0:x≠0) (hS:S≤1000000000) (hT:T≤1000000000) :
  ∃q a c,qZ (getD' (ndP ns [] (i+1)) j zI) e=some q∧Fq q a c∧a*x=vI (el ns i j)*c∧Sz a S∧Sz c T:=by
 obtain⟨q,a,c,h1,h2,h3,h4,h5⟩:=qiG (n:=el ns i j) (h.ri i j hi hj) he (hz i j hi hj) hx (by omega) (by omega) hx0;exact⟨q,a,c,h1,h2,h3,(hz i j hi hj).le h4,hx.le h5⟩
theorem dual_spec {p:SP} {cl:List BI} {f:List Int} (h:Ok m (n+m+1) ns) (hz:∀i j,i<m+1→j<n+m+1→Sz (vI (el ns i j)) S) (hp1:p.2.1.length=m) (hp2:p.2.2.1.length=n) (hm:m≤12) (hn:n≤12) {dv F:Int} (hd:Ri d dv) (hzd:Sz dv S) (hd0:0<dv) (hf:Rp f F) {SF:Nat} (hzF:Sz F SF) (hF0:0<F) (hS:S≤100000000) (hSF:SF≤100000000) :
  ∃l,iterW (qa9 p (mk83 m ns d b w) (cl,(f,()))) (([],0,()),())=some ((l,()),())∧l.length=m∧∀q∈l,Qz q (S+SF):=by
 obtain⟨x,g1,l,rfl,g2⟩:=qg (f:=qa9 p (mk83 m ns d b w) (cl,(f,()))) (fun s=>∃l,∃i:Nat,s=((l,(i:Int),()),())∧i≤m∧l.length=i∧∀q∈l,Qz q (S+SF)) (fun s=>m-(s.1.2.1).toNat)
  (fun r=>∃l,r=((l,()),())∧l.length=m∧∀q∈l,Qz q (S+SF)) (by
  rintro s ⟨l,i,rfl,hi,f1,f2⟩
  by_cases hlt:i<m
  ·have hdc:decide ((i:Int)<((m:Nat):Int))=true:=by simp;omega
   have ew:w64 (((n:Nat):Int)+(i:Int))=((n+i:Nat):Int):=by rw[wi_id (by omega) (by omega)];omega
   have ei:w64 ((i:Int)+1)=((i+1:Nat):Int):=wi_id (by omega) (by omega)
   have elen:lnP ns (m+1)=n+m+1:=by rw[ln_rw];exact h.row m (by omega)
   obtain⟨y,k1,k2⟩:=qam (qqC hd) (qjr hf) hzd hzF (by omega) (by omega);have hne:dv*F≠0:=Int.ne_of_gt (Int.mul_pos hd0 hF0);obtain⟨q,a,c,k3,k4,k5,k6,k7⟩:=qtr h hz (i:=m) (j:=n+i) (by omega) (by omega) k2 (hzd.mul hzF) hne (by omega) (by omega);have hr:room (l.length+[q].length) 56=true:=qfL (by simp;omega);have hzz:((false,([],())):BI)=zI:=rfl;have step:qa9 p (mk83 m ns d b w) (cl,(f,())) ((l,(i:Int),()),())=some (.inl ((l++[q],((i+1:Nat):Int),()),())):=by
    unfold qa9 mk83;simp only[hp1,hp2,hdc,cond_true,ew,Int.toNat_natCast,qcI (show m<m+1 by omega),elen,qA (show n+i<n+m+1 by omega),qc,k1,Option.bind_some,hzz,k3,hr,ei]
   refine .inl ⟨_,step,⟨_,i+1,rfl,hlt,by simp[f1],fun r hr=>?_⟩,by simp;omega⟩;rcases List.mem_append.1 hr with hr | hr
   ·exact f2 r hr
   ·rw[List.mem_singleton] at hr;subst hr;exact⟨a,c,k4,k6.mono (by omega),k7⟩
  ·have hdc:decide ((i:Int)<((m:Nat):Int))=false:=by simp;omega
   exact .inr ⟨_,by unfold qa9;simp only[hp1,hdc,cond_false],l,rfl,by omega,f2⟩) (([],((0:Nat):Int),()),()) ⟨[],0,rfl,Nat.zero_le _,rfl,fun q h=>by cases h⟩
 exact⟨l,g1,g2⟩
theorem qvc {p:SP} (hp2:p.2.2.1.length=n) (hn:n≤12):∃l,iterW (qm p) ((0,()),(List.replicate n ((false,([],())),([],())),()))=some ((),(l,()))∧l.length=n∧∀q∈l,Qz q 1:=by
 obtain⟨z,z1,z2⟩:=qqm (n:=0) (by omega) (by omega);obtain⟨x,g1,l,rfl,g2,g3⟩:=qg (f:=qm p) (fun s=>∃l,∃i:Nat,s=(((i:Int),()),(l,()))∧i≤n∧l.length=n∧∀j,j<i→getD' l j ((false,([],())),([],()))=z) (fun s=>n-(s.1.1).toNat)
  (fun r=>∃l,r=((),(l,()))∧l.length=n∧∀j,j<n→getD' l j ((false,([],())),([],()))=z) (by
  rintro s ⟨l,i,rfl,hi,f1,f2⟩
  by_cases hlt:i<n
  ·have hdc:decide ((i:Int)<((n:Nat):Int))=true:=by simp;omega
   have ei:w64 ((i:Int)+1)=((i+1:Nat):Int):=wi_id (by omega) (by omega)
   have hin:inb (i:Int) l.length=true:=by rw[f1];exact qA hlt
   have step:qm p (((i:Int),()),(l,()))=some (.inl ((((i+1:Nat):Int),()),(l.set i z,()))):=by
    unfold qm;simp only[hp2,Int.toNat_natCast,List.length_replicate,hdc,cond_true,z1,Option.bind_some,hin,qc,ei]
   refine .inl ⟨_,step,⟨_,i+1,rfl,hlt,by rw[List.length_set];exact f1,fun j hj=>?_⟩,by simp;omega⟩;by_cases e:j=i
   ·subst e;exact qsm (by omega)
   ·rw[qmd e];exact f2 j (by omega)
  ·have hdc:decide ((i:Int)<((n:Nat):Int))=false:=by simp;omega
   exact .inr ⟨_,by unfold qm;simp only[hp2,Int.toNat_natCast,List.length_replicate,hdc,cond_false],l,rfl,f1,fun j hj=>f2 j (by omega)⟩) ((((0:Nat):Int),()),(List.replicate n ((false,([],())),([],())),())) ⟨_,0,rfl,Nat.zero_le _,by simp,fun j h=>absurd h (Nat.not_lt_zero _)⟩
 refine⟨l,g1,g2,fun q hq=>?_⟩;obtain⟨i,hi,rfl⟩:=List.mem_iff_getElem.1 hq;have:=g3 i (by omega);rw[qbt hi] at this;rw[this];exact⟨0,1,z2,Sz.small (by decide),Sz.small (by decide)⟩
theorem qsT {p:SP} (h:Ok m (n+m+1) ns) (hz:∀i j,i<m+1→j<n+m+1→Sz (vI (el ns i j)) S) (hp1:p.2.1.length=m) (hp2:p.2.2.1.length=n) (hm:m≤12) (hn:n≤12) {dv:Int} (hd:Ri d dv) (hzd:Sz dv S) (hd0:0<dv) (hS:S≤100000000) (hS1:1≤S)
  (hb:b.length=m) (hbn:∀k,k<m→0≤getD' b k 0) {l0:List BQ} (hl0:l0.length=n) (hq0:∀q∈l0,Qz q S) :
  ∃l,iterW (qk (mk83 m ns d b w) p) ((0,()),(l0,()))=some ((),(l,()))∧l.length=n∧∀q∈l,Qz q S:=by
 obtain⟨x,g1,l,rfl,g2⟩:=qg (f:=qk (mk83 m ns d b w) p) (fun s=>∃l,∃i:Nat,s=(((i:Int),()),(l,()))∧i≤m∧l.length=n∧∀q∈l,Qz q S) (fun s=>m-(s.1.1).toNat)
  (fun r=>∃l,r=((),(l,()))∧l.length=n∧∀q∈l,Qz q S) (by
  rintro s ⟨l,i,rfl,hi,f1,f2⟩
  by_cases hlt:i<m
  ·have hdc:decide ((i:Int)<((b.length:Nat):Int))=true:=by rw[hb];simp;omega
   have ei:w64 ((i:Int)+1)=((i+1:Nat):Int):=wi_id (by omega) (by omega)
   have hib:inb (i:Int) b.length=true:=by rw[hb];exact qA hlt
   have hat:at? (((ids m).take m).drop 0) (i:Int)=some (i+1):=by
    rw[List.drop_zero,qp _ (by rw[List.length_take,qcJ];omega)];simp[ids]
   have elen:lnP ns (i+1)=n+m+1:=by rw[ln_rw];exact h.row i (by omega)
   have ew:w64 (((n+m+1:Nat):Int)-1)=((n+m:Nat):Int):=by rw[wi_id (by omega) (by omega)];omega
   obtain⟨k,hk⟩:=Int.eq_ofNat_of_zero_le (hbn i hlt);obtain⟨q,a,c,k3,k4,k5,k6,k7⟩:=qtr h hz (i:=i) (j:=n+m) (by omega) (by omega) (qqC hd) hzd (Int.ne_of_gt hd0) (by omega) (by omega);have hzz:((false,([],())):BI)=zI:=rfl;by_cases hkn:k<n
   ·have hc:decide (((k:Nat):Int)<((n:Nat):Int))=true:=by simp;omega
    have hkl:inb ((k:Nat):Int) l.length=true:=by rw[f1];exact qA hkn
    have step:qk (mk83 m ns d b w) p (((i:Int),()),(l,()))=some (.inl ((((i+1:Nat):Int),()),(l.set k q,()))):=by
     unfold qk mk83;simp only[hdc,cond_true,hib,qc,Int.toNat_natCast,hk,hp1,hp2,hc,hat,Option.bind_some,elen,ew,qA (show n+m<n+m+1 by omega),hzz,k3,hkl,ei]
    refine .inl ⟨_,step,⟨_,i+1,rfl,hlt,by rw[List.length_set];exact f1,fun r hr=>?_⟩,by simp;omega⟩;rcases List.mem_or_eq_of_mem_set hr with hr | rfl
    ·exact f2 r hr
    ·exact⟨a,c,k4,k6,k7⟩
   ·have hc:decide (((k:Nat):Int)<((n:Nat):Int))=false:=by simp;omega
    have step:qk (mk83 m ns d b w) p (((i:Int),()),(l,()))=some (.inl ((((i+1:Nat):Int),()),(l,()))):=by
     unfold qk mk83;simp only[hdc,cond_true,hib,qc,Int.toNat_natCast,hk,hp1,hp2,hc,cond_false,Option.bind_some,ei]
    exact .inl ⟨_,step,⟨_,i+1,rfl,hlt,f1,f2⟩,by simp;omega⟩
  ·have hdc:decide ((i:Int)<((b.length:Nat):Int))=false:=by rw[hb];simp;omega
   exact .inr ⟨_,by unfold qk mk83;simp only[hdc,cond_false],l,rfl,f1,f2⟩) ((((0:Nat):Int),()),(l0,())) ⟨l0,0,rfl,Nat.zero_le _,hl0,hq0⟩
 exact⟨l,g1,g2⟩
theorem qrs {y:List BQ} {fs:List (List Int)} {T:Nat} (hl:y.length=fs.length) (hm:y.length≤12) (hy:∀q∈y,Qz q T) (hf:∀f∈fs,Fac f T) (hT:T≤100000000) (hT1:1≤T):∃l,qn y fs=some l∧l.length=y.length∧∀q∈l,Qz q (T+T):=by
 obtain⟨x,g1,l,rfl,g2⟩:=qg (f:=qaj y fs) (fun s=>∃l,∃i:Nat,s=((l,(i:Int),()),())∧i≤y.length∧l.length=i∧∀q∈l,Qz q (T+T)) (fun s=>y.length-(s.1.2.1).toNat)
  (fun r=>∃l,r=((l,()),())∧l.length=y.length∧∀q∈l,Qz q (T+T)) (by
  rintro s ⟨l,i,rfl,hi,f1,f2⟩
  by_cases hlt:i<y.length
  ·have hdc:decide ((i:Int)<((y.length:Nat):Int))=true:=by simp;omega
   have ei:w64 ((i:Int)+1)=((i+1:Nat):Int):=wi_id (by omega) (by omega)
   have hif:i<fs.length:=by omega
   obtain⟨a,c,y1,y2,y3⟩:=hy y[i] (List.getElem_mem hlt);obtain⟨F,w1,w2,w3⟩:=hf fs[i] (List.getElem_mem hif);obtain⟨o,o1,o2,_⟩:=qg7 (x:=1) (by omega) (by omega);have hFq:Fq ((false,(fs[i],())),(o,())) F 1:=⟨qjr w1,o2,by omega⟩;obtain⟨q,e,g,q1,q2,q3,q4,q5⟩:=qmul_spec y1 hFq y2 y3 w3 ((Sz.small (by decide)).mono hT1) (by omega);have hr:room (l.length+[q].length) 56=true:=qfL (by simp;omega);have step:qaj y fs ((l,(i:Int),()),())=some (.inl ((l++[q],((i+1:Nat):Int),()),())):=by
    unfold qaj;simp only[hdc,cond_true,qp y hlt,qp fs hif,Option.bind_some,o1,q1,hr,qc,ei]
   refine .inl ⟨_,step,⟨_,i+1,rfl,hlt,by simp[f1],fun r hr=>?_⟩,by simp;omega⟩;rcases List.mem_append.1 hr with hr | hr
   ·exact f2 r hr
   ·rw[List.mem_singleton] at hr;subst hr;exact⟨e,g,q2,q4,q5⟩
  ·have hdc:decide ((i:Int)<((y.length:Nat):Int))=false:=by simp;omega
   exact .inr ⟨_,by unfold qaj;simp only[hdc,cond_false],l,rfl,by omega,f2⟩) (([],((0:Nat):Int),()),()) ⟨[],0,rfl,Nat.zero_le _,rfl,fun q h=>by cases h⟩
 refine⟨l,?_,g2⟩;unfold qn;have g1:iterW (qaj y fs) (([],(0:Int),()),())=_:=g1;rw[g1];rfl
end
end Lvl
end Go.Proofs.YteahiolockghkaaGreatDoor
