/- The law SwissPairs, in plain Lean. No condition of its own. -/
import Derived.Test.YtcifaoaepbidoaaMAD
namespace Go.Proofs.Ytcifaoaepbidoaa
open Go.Den
set_option linter.unusedVariables false
set_option linter.unusedSimpArgs false
set_option maxRecDepth 100000

theorem mul_small:∀n:Nat,n<9→qh (wu64 ((([(-1:Int)].length:Nat):Int))) (wu64 (n:Int))=(0,((n:Int),())):=by decide +kernel
theorem agree_self {α:Type} (a:Option α):agree a a=a:=by unfold agree;rw[if_pos rfl]
theorem qg9 {n:Nat} (h1:2≤n) (h2:n≤8):qap [(-1:Int)] (n:Int)=some (List.replicate n (-1)):=by
  unfold qap
  have h0:¬(n:Int)<0:=by omega
  simp only[h0,decide_false,cond_false];rw[mul_small n (by omega)]
  have h3:¬(0:Int)>0:=by omega
  have h4:¬(n:Int)>9223372036854775807:=by omega
  simp only[h3,h4,decide_false,Bool.or_self,cond_false];rw[qi (by omega) (by omega)]
  have h5:(0:Int)≤(n:Int):=by omega
  simp only[h5,decide_true,beq_self_eq_true,Bool.true_and,Int.toNat_natCast,List.length_replicate];rw[qc3 (by omega)];have h6:(Nat.blt 0 [(-1:Int)].length&&Nat.blt 0 n)=true:=by
    simp[Nat.blt];omega
  rw[h6];simp only[qj]
  have hmin:min [(-1:Int)].length n=1:=by simp;omega
  rw[hmin]
  have key:=iterW_fun (f:=qS) (fun x=>∃m:Nat,1≤m∧m≤n∧x=(((m:Int),()),(List.replicate m (-1)++List.replicate (n-m) 0,()))) (fun x=>n-x.1.1.toNat) (fun _=>((),(List.replicate n (-1),()))) (fun x hx=>by
    obtain⟨m,hm1,hm2,rfl⟩:=hx
    have hlen:(List.replicate m (-1:Int)++List.replicate (n-m) 0).length=n:=by simp;omega
    unfold qS;simp only;rw[hlen];by_cases hmn:m=n
    · refine .inr ?_
      have:¬(m:Int)<(n:Int):=by omega
      simp only[this,decide_false,cond_false];rw[hmn,Nat.sub_self];simp
    · refine .inl ⟨((((m+min m (n-m):Nat):Int),()),(List.replicate (m+min m (n-m)) (-1)++List.replicate (n-(m+min m (n-m))) 0,())),?_,⟨m+min m (n-m),by omega,by omega,rfl⟩,?_,trivial⟩
      · have:(m:Int)<(n:Int):=by omega
        simp only[this,decide_true,cond_true]
        have b1:qG (m:Int) ((n:Nat):Int) n=true:=by simp[qG];omega
        have b2:qG 0 (m:Int) n=true:=by simp[qG];omega
        have e0:(((List.replicate m (-1:Int)++List.replicate (n-m) 0).drop 0).take ((m:Int).toNat-0))=List.replicate m (-1):=by
          simp[List.take_append]
        have b3:(Nat.blt 0 (((List.replicate m (-1:Int)++List.replicate (n-m) 0).drop 0).take ((m:Int).toNat-0)).length&&Nat.blt 0 (((n:Nat):Int).toNat-(m:Int).toNat))=true:=by
          rw[e0];simp only[List.length_replicate,Int.toNat_natCast,Nat.blt,Bool.and_eq_true];exact⟨Nat.ble_eq_true_of_le (by omega),Nat.ble_eq_true_of_le (by omega)⟩
        rw[b1,b2,b3];simp only[qj,agree_self,Option.bind_some];rw[e0];simp only[List.length_replicate,Int.toNat_natCast];rw[qi (by omega) (by omega)];have e1:(List.replicate m (-1:Int)++List.replicate (n-m) 0).take m++((List.replicate m (-1:Int)).take (n-m)++(List.replicate m (-1:Int)++List.replicate (n-m) 0).drop (m+min m (n-m)))=List.replicate (m+min m (n-m)) (-1)++List.replicate (n-(m+min m (n-m))) 0:=by
          have t1:(List.replicate m (-1:Int)++List.replicate (n-m) 0).take m=List.replicate m (-1):=List.take_left' (by simp);have t2:(List.replicate m (-1:Int)++List.replicate (n-m) 0).drop (m+min m (n-m))=List.replicate (n-(m+min m (n-m))) 0:=by
            rw[List.drop_append,List.drop_eq_nil_of_le (by simp),List.nil_append,List.length_replicate,List.drop_replicate];congr 1;omega
          rw[t1,t2,List.take_replicate,←List.append_assoc,List.replicate_append_replicate,Nat.min_comm (n-m) m]
        rw[e1]
        push_cast
        rfl
      · simp only[Int.toNat_natCast];omega)
  have hst:=key (((1:Int),()),(List.replicate 1 (-1)++List.replicate (n-1) 0,())) ⟨1,by omega,by omega,rfl⟩;have e2:(List.replicate n (0:Int)).take 0++([(-1:Int)].take n++(List.replicate n (0:Int)).drop (0+1))=List.replicate 1 (-1)++List.replicate (n-1) 0:=by
    rw[List.take_of_length_le (l:=[(-1:Int)]) (by simp;omega)];simp
  rw[e2];have hst':iterW qS ((((1:Nat):Int),()),(List.replicate 1 (-1)++List.replicate (n-1) 0,()))=_:=hst;rw[hst'];rfl

def minQ (a q:List Int×Int):List Int×Int:=bif decide (q.2<a.2) then q else a
theorem fold_some (qs:List (List Int×Int)):∀a:List Int×Int,qs.foldl updA (some a.1,a.2)=(some (qs.foldl minQ a).1,(qs.foldl minQ a).2):=by
  induction qs with
  | nil=>intro a;rfl
  | cons q qs ih =>
    intro a;simp only[List.foldl_cons];have:updA (some a.1,a.2) q=(some (minQ a q).1,(minQ a q).2):=by
      unfold updA minQ qbE;simp only[cond_false,Option.isNone_some,Bool.false_or]
      cases decide (q.2<a.2)<;>rfl
    rw[this,ih]
theorem fold_none (q:List Int×Int) (qs:List (List Int×Int)):(q::qs).foldl updA (none,0)=(some ((q::qs).foldl minQ q).1,((q::qs).foldl minQ q).2):=by
  have e:minQ q q=q:=by unfold minQ;simp
  simp only[List.foldl_cons,e];exact fold_some qs q
theorem minQ_mem (qs:List (List Int×Int)):∀a,qs.foldl minQ a=a∨qs.foldl minQ a∈qs:=by
  induction qs with
  | nil=>intro a;exact .inl rfl
  | cons q qs ih =>
    intro a;simp only[List.foldl_cons];rcases ih (minQ a q) with h | h
    · rw[h];unfold minQ;cases decide (q.2<a.2)
      · exact .inl rfl
      · exact .inr List.mem_cons_self
    · exact .inr (List.mem_cons_of_mem _ h)
def prO (l:List Pl) (v:List Int) (i:Nat):List (Int×Int×Unit) :=
  bif getD' v i 0==(l.length:Int) then [] else bif decide ((i:Int)<getD' v i 0) then(bif decide (coO l (getD' v i 0).toNat<coO l i) then [(getD' v i 0,((i:Int),()))] else [((i:Int),(getD' v i 0,()))]) else []
def ofO (l:List Pl) (v:List Int) (m:Nat):Int:=foldN (fun i a=>bif getD' v i 0==(l.length:Int) then(i:Int) else a) m (-1)
theorem prO_len (l:List Pl) (v:List Int) (i:Nat):(prO l v i).length≤1:=by
  unfold prO
  cases getD' v i 0==(l.length:Int)<;>cases decide ((i:Int)<getD' v i 0)<;>cases decide (coO l (getD' v i 0).toNat<coO l i)<;>simp
structure Full (l:List Pl) (v:List Int):Prop where
  g:GoodY l.length v
  f:freeN v=0
theorem Full.ent {l:List Pl} {v:List Int} (h:Full l v) {a:Nat} (ha:a<v.length):v[a]=(l.length:Int)∨(0≤v[a]∧v[a]<(l.length:Int)∧v[a]≠(a:Int)):=by
  rcases h.g.ent a ha with h1 | h1
  · have:=h.f;unfold freeN at this;rw[List.countP_eq_zero] at this;exact absurd (by rw[h1];rfl) (this _ (List.getElem_mem ha))
  · exact h1
theorem qhP {l:List Pl} (hf:Fine l) {v:List Int} (hv:Full l v):iterW (qaO v l) ((([]:List (Int×Int×Unit)),(-1:Int),(0:Int),()),())=some (((List.range l.length).flatMap (prO l v),ofO l v l.length,()),()):=by
  have hl:=hv.g.len;have h8:=hf.hi;have h:=qx (f:=qaO v l) l.length (fun m=>(((List.range m).flatMap (prO l v),ofO l v m,(m:Int),()),())) (((List.range l.length).flatMap (prO l v),ofO l v l.length,()),()) (fun m hm=>?_) ?_
  · exact h
  · unfold qaO
    have hmv:m<v.length:=by omega
    have h1:(m:Int)<((v.length:Nat):Int):=by omega
    have h2:inb (m:Int) v.length=true:=by rw[qt];omega
    simp only[h1,decide_true,cond_true,h2,qj,Int.toNat_natCast];simp only[qaj hmv];rw[qi (n:=(m:Int)+1) (by omega) (by omega),qcC];have eof:ofO l v (m+1)=bif v[m]==(l.length:Int) then(m:Int) else ofO l v m:=by
      show foldN _ (m+1) (-1)=_;rw[foldN,qaj hmv];rfl
    have epr:prO l v m=bif v[m]==(l.length:Int) then [] else bif decide ((m:Int)<v[m]) then(bif decide (coO l (v[m]).toNat<coO l m) then [(v[m],((m:Int),()))] else [((m:Int),(v[m],()))]) else []:=by
      unfold prO;rw[qaj hmv]
    rw[eof,epr]
    cases hc:(v[m]==(l.length:Int)) with
    | true=>simp only[cond_true,Option.bind_some,List.append_nil];rfl
    | false =>
      have hne:v[m]≠(l.length:Int):=by simpa using hc
      simp only[cond_false];rcases hv.ent hmv with h3 | h3
      · exact absurd h3 hne
      cases hlt:decide ((m:Int)<v[m]) with
      | false=>simp only[gat,cond_false,Bool.false_and,Option.bind_some,List.append_nil];rfl
      | true =>
        have a1:at? l v[m]=some (l[(v[m]).toNat]'(by omega)):=at?_eq l _ (by omega) (by omega)
        have a2:at? l (m:Int)=some l[m]:=by rw[at?_eq l _ (by omega) (by omega)];simp only[Int.toNat_natCast]
        obtain⟨_,_,_,r1,_⟩:=rngO hf (i:=(v[m]).toNat) (by omega);obtain⟨_,_,_,r2,_⟩:=rngO hf (i:=m) hm;have hfl:=qbJ (prO l v) 1 (List.range m) (fun x _=>prO_len l v x);rw[List.length_range] at hfl;simp only[gat,cond_true,Bool.true_and,a1,a2,Option.bind_some];rw[r1,r2]
        cases decide (l[(v[m]).toNat].2.2.1<l[m].2.2.1) with
        | true =>
          simp only[cond_true];rw[qc3 (by simp only[List.length_singleton];omega)];rfl
        | false =>
          simp only[cond_false];rw[qc3 (by simp only[List.length_singleton];omega)];rfl
  · unfold qaO
    have:¬((l.length:Nat):Int)<((v.length:Nat):Int):=by omega
    simp only[this,decide_false,cond_false]
abbrev allQ (l:List Pl):List (List Int×Int):=cmp l l.length (List.replicate l.length (-1)) ((((l.length:Nat):Int).tmod 2)==1) 0
theorem good0 (n:Nat):GoodY n (List.replicate n (-1)):=⟨by simp,fun a ha => .inl (by simp)⟩
theorem free0 (n:Nat):freeN (List.replicate n (-1))=n:=by
  unfold freeN;rw[List.countP_replicate];rfl
def pairR (l:List Pl):List (Int×Int×Unit)×Int×Int×Int×Unit:=match allQ l with
  | []=>([],(0,(0,(8,()))))
  | q::qs=>((List.range l.length).flatMap (prO l ((q::qs).foldl minQ q).1),(((q::qs).foldl minQ q).2,(ofO l ((q::qs).foldl minQ q).1 l.length,(0,()))))
theorem qgy {l:List Pl} {q:List Int×Int} {qs:List (List Int×Int)} (h:allQ l=q::qs):Full l ((q::qs).foldl minQ q).1:=by
  have hm:(q::qs).foldl minQ q∈q::qs:=by
    rcases minQ_mem (q::qs) q with h1 | h1
    · rw[h1];exact List.mem_cons_self
    · exact h1
  rw[←h] at hm;obtain⟨a,b⟩:=cmp_mem l.length _ _ _ (good0 _) (by rw[free0];exact Nat.le_refl _) _ hm;rw[h] at a b;exact⟨a,b⟩
theorem qgK (l:List Pl):qb7 l=some (if swF l=0 then pairR l else([],(0,(0,(swF l,()))))):=by
  unfold qb7;rw[qfO];simp only[Option.bind_some];by_cases h0:swF l=0
  · rw[if_pos h0,h0];have hf:=fine_of h0;simp only[bne_self_eq_false,cond_false];rw[qg9 hf.lo hf.hi];simp only[Option.bind_some];have hs:=qhd hf ((l,List.replicate l.length (-1),none,0,()),((((l.length:Nat):Int).tmod 2)==1),0,()) ⟨rfl,good0 _,rfl,by simp,by simp only[free0];have:=hf.hi;omega⟩;unfold qaG;rw[hs];unfold qeE pairR;simp only[free0,Option.bind_some]
    cases hq:allQ l with
    | nil =>
      rw[show cmp l l.length (List.replicate l.length (-1)) ((((l.length:Nat):Int).tmod 2)==1) 0=[] from hq];rfl
    | cons q qs =>
      rw[show cmp l l.length (List.replicate l.length (-1)) ((((l.length:Nat):Int).tmod 2)==1) 0=q::qs from hq,fold_none]
      dsimp only
      have hfull:=qgy hq;obtain⟨r,hr⟩:∃r,(q::qs).foldl minQ q=r:=⟨_,rfl⟩;rw[hr] at hfull ⊢;have hne:okO (some r.1)=true:=by
        have:=hfull.g.len;have h2:=hf.lo
        cases hr1:r.1 with
        | nil=>rw[hr1] at this;simp at this;omega
        | cons _ _=>rfl
      simp only[hne,qj,qbE,cond_false,Option.isNone_some,Option.elim_some];rw[qhP hf hfull];rfl
  · rw[if_neg h0,bne_t h0];rfl
theorem two_ok:qbU=some true:=by
  unfold qbU;rw[qgK];decide +kernel
theorem qec {l:List Pl} (hf:Fine l):qaM l=some ((allQ l).map (wrO l.length)):=by
  unfold qaM;have h8:=hf.hi;have h2:=hf.lo
  have h5:(0:Int)≤((l.length:Nat):Int):=by omega
  simp only[h5,decide_true,beq_self_eq_true,Bool.true_and,Int.toNat_natCast];rw[qc3 (by omega)];simp only[qj];have hl:=qx (f:=qF l) l.length (fun m=>(((m:Int),()),(List.replicate m (-2)++List.replicate (l.length-m) 0,()))) ((),(List.replicate l.length (-2),())) (fun m hm=>?_) ?_
  rotate_left
  · unfold qF;simp only[Int.toNat_natCast,List.length_replicate]
    have h1:(m:Int)<((l.length:Nat):Int):=by omega
    have hlen:(List.replicate m (-2:Int)++List.replicate (l.length-m) 0).length=l.length:=by simp;omega
    have h3:inb (m:Int) (List.replicate m (-2:Int)++List.replicate (l.length-m) 0).length=true:=by rw[qt,hlen];omega
    simp only[h1,decide_true,cond_true,h3,qj,Int.toNat_natCast];rw[qi (by omega) (by omega)];have e:(List.replicate m (-2:Int)++List.replicate (l.length-m) 0).set m (-2)=List.replicate (m+1) (-2)++List.replicate (l.length-(m+1)) 0:=by
      rw[List.set_append_right _ _ (by simp)];simp only[List.length_replicate,Nat.sub_self];obtain⟨d,hd⟩:∃d,l.length-m=d+1:=⟨l.length-m-1,by omega⟩;rw[hd,show l.length-(m+1)=d by omega,List.replicate_succ,List.set_cons_zero,List.replicate_succ' (n:=m)];simp
    rw[e];rfl
  · unfold qF;simp
  have e0:List.replicate 0 (-2:Int)++List.replicate (l.length-0) 0=List.replicate l.length 0:=by simp
  have hl':iterW (qF l) (((0:Int),()),(List.replicate l.length 0,()))=some ((),(List.replicate l.length (-2),())):=by
    rw[←e0];exact hl
  rw[hl'];simp only[Option.bind_some];have hw:List.replicate l.length (-2:Int)=(List.replicate l.length (-1:Int)).map (encO l.length):=by
    rw[List.map_replicate];rfl
  have hd:(List.replicate l.length (-2:Int)).map (decO l.length)=List.replicate l.length (-1):=by rw[hw,qbc (good0 _)]
  have hal:qev l false=((((l.length:Nat):Int).tmod 2)==1):=by unfold qev;simp
  have hcl:=cmp_len hf.hi l.length (List.replicate l.length (-1)) ((((l.length:Nat):Int).tmod 2)==1) 0;have hp:8 ^ l.length≤8 ^ 8:=Nat.pow_le_pow_right (by omega) hf.hi
  have:=qf0 hf (List.replicate l.length (-2),([],()),l,0,false,()) ⟨rfl,⟨_,good0 _,hw⟩,by simp,by simp only[hd,free0];omega,by
    simp only[hd,free0,hal,List.length_nil]
    have e8:(8:Nat) ^ 8=16777216:=by decide
    omega⟩
  unfold qcp;rw[this];unfold qfB;simp only[Option.bind_some,hd,free0,hal,List.nil_append]
theorem law3SwissPairs_true (l:List (Int×(List Int)×Int×Bool×Unit)) (i j:Int) (h1:Rng (.sl (.st (.int .i64) (.st (.sl (.int .i64)) (.st (.int .i64) (.st .bool .nil))))) l) (h2:Rng (.int .i64) i) (h3:Rng (.int .i64) j):qbB l i j=some true:=by
  unfold qbB;rw[two_ok,qhN,qgK,qfO];unfold qc1;rw[qfO];simp only[Option.bind_some,Bool.not_true,cond_false,bne_self_eq_false];by_cases h0:swF l=0
  rotate_left
  · rw[bne_t h0,if_neg h0];simp only[cond_true,Option.bind_some,bne_self_eq_false,cond_false,beq_self_eq_true,Bool.and_self];rfl
  have hf:=fine_of h0;rw[if_pos h0,h0];simp only[bne_self_eq_false,cond_false];rw[qec hf]
  have hcost:∃r:Int×Int×Unit,(bif !qa3 l i j then some ((0:Int),((1:Int),())) else Option.bind (qbd l i j) fun r4=>some (r4,((0:Int),())))=some r ∧
      (bif (((decide ((if j<i then j else i)<(0:Int)))||(decide ((if j>i then j else i)≥((l.length:Nat):Int))))||(i==j)) then(bif ((r.2.1 !=(1:Int))||(r.1 !=(0:Int))) then some (Sum.inr false:(Unit×Unit) ⊕ Bool)
        else some (Sum.inl ((),())))
      else Option.bind (at? l i) fun d12 =>
      Option.bind (at? l j) fun d13 =>
      Option.bind (at? l i) fun d14 =>
      Option.bind (at? l j) fun d15 =>
      bif ((r.2.1 !=(0:Int))||(r.1 !=(w64 ((w64 ((w64 ((100:Int)*(w64 (d12.1-d13.1))))*(w64 (d12.1-d13.1))))+(w64 ((w64 (d14.2.2.1+d15.2.2.1))*(w64 (d14.2.2.1+d15.2.2.1)))))))) then some (Sum.inr false)
      else some (Sum.inl ((),())))=some (Sum.inl ((),())):=by
    have etwo:(((decide ((if j<i then j else i)<(0:Int)))||(decide ((if j>i then j else i)≥((l.length:Nat):Int))))||(i==j)) = !qa3 l i j:=by
      unfold qa3;rw[Bool.eq_iff_iff]
      by_cases a6:j<i<;>by_cases a7:j>i<;>simp only[a6,a7,if_true,if_false,Bool.or_eq_true,decide_eq_true_eq,beq_iff_eq,Bool.not_eq_true',Bool.and_eq_false_iff,decide_eq_false_iff_not,bne_eq_false_iff_eq]<;>omega
    rw[etwo]
    cases ht:qa3 l i j with
    | false=>exact⟨(0,(1,())),rfl,rfl⟩
    | true =>
      unfold qa3 at ht;simp only[Bool.and_eq_true,decide_eq_true_eq] at ht;have a1:at? l i=some (l[i.toNat]'(by omega)):=at?_eq l _ (by omega) (by omega);have a2:at? l j=some (l[j.toNat]'(by omega)):=at?_eq l _ (by omega) (by omega);unfold qbd;rw[a1,a2];simp only[Option.bind_some,Bool.not_true,cond_false];exact⟨_,rfl,by simp⟩
  obtain⟨r,hr1,hr2⟩:=hcost;rw[hr1];simp only[Option.bind_some];rw[hr2];simp only[Option.bind_some,Sum.elim_inl];unfold pairR
  cases hq:allQ l with
  | nil=>rfl
  | cons q qs =>
    simp only[List.map_cons,List.length_cons]
    have hlen0:((((qs.map (wrO l.length)).length+1:Nat):Int)==0)=false:=by simp only[beq_eq_false_iff_ne,ne_eq];omega
    have hin0:inb (0:Int) ((qs.map (wrO l.length)).length+1)=true:=by rw[qt];omega
    rw[hlen0,hin0];simp only[cond_false,qj];have hql:(q::qs).length≤16777216:=by
      rw[←hq];have hcl:=cmp_len hf.hi l.length (List.replicate l.length (-1)) ((((l.length:Nat):Int).tmod 2)==1) 0;have hp:8 ^ l.length≤8 ^ 8:=Nat.pow_le_pow_right (by omega) hf.hi
      have e8:(8:Nat) ^ 8=16777216:=by decide
      exact Nat.le_trans hcl (by omega)
    have hmin:=qx (f:=qN (wrO l.length q::qs.map (wrO l.length))) (q::qs).length (fun m=>(((m:Int),()),(wrO l.length (((q::qs).take m).foldl minQ q),()))) ((),(wrO l.length ((q::qs).foldl minQ q),())) (fun m hm=>?_) ?_
    rotate_left
    · unfold qN;have e1:wrO l.length q::qs.map (wrO l.length)=(q::qs).map (wrO l.length):=rfl;rw[e1]
      have h1:(m:Int)<(((((q::qs).map (wrO l.length)).length:Nat)):Int):=by rw[List.length_map];omega
      have h2:inb (m:Int) ((q::qs).map (wrO l.length)).length=true:=by rw[qt,List.length_map];omega
      simp only[h1,decide_true,cond_true,h2,qj,Int.toNat_natCast];simp only[qaj (xs:=(q::qs).map (wrO l.length)) (i:=m) (by simpa using hm),List.getElem_map];rw[qi (by omega) (by omega),List.take_succ_eq_append_getElem hm,List.foldl_append];simp only[List.foldl_cons,List.foldl_nil];have e2:minQ (((q::qs).take m).foldl minQ q) (q::qs)[m]=bif decide (((q::qs)[m]).2<(((q::qs).take m).foldl minQ q).2) then(q::qs)[m] else((q::qs).take m).foldl minQ q:=rfl;rw[e2];have e3:decide ((wrO l.length (q::qs)[m]).2.1<(wrO l.length (((q::qs).take m).foldl minQ q)).2.1)=decide (((q::qs)[m]).2<(((q::qs).take m).foldl minQ q).2):=rfl;rw[e3]
      cases decide (((q::qs)[m]).2<(((q::qs).take m).foldl minQ q).2)<;>rfl
    · unfold qN
      have h1:¬(((q::qs).length:Nat):Int)<(((wrO l.length q::qs.map (wrO l.length)).length:Nat):Int):=by simp
      simp only[h1,decide_false,cond_false,List.take_length]
    have hg0:getD' (wrO l.length q::qs.map (wrO l.length)) 0 (([]:List Int),((0:Int),()))=wrO l.length q:=rfl;have hmin':iterW (qN (wrO l.length q::qs.map (wrO l.length))) (((0:Int),()),(wrO l.length q,()))=_:=hmin;rw[hg0,hmin'];simp only[Option.bind_some];have hfull:=qgy hq;obtain⟨b,hb⟩:∃b,(q::qs).foldl minQ q=b:=⟨_,rfl⟩;rw[hb] at hfull ⊢;have hvl:=hfull.g.len;have h8:=hf.hi;have hfl:∀m,m≤l.length→((List.range m).flatMap (prO l b.1)).length≤m:=fun m _=>by
      have:=qbJ (prO l b.1) 1 (List.range m) (fun x _=>prO_len l b.1 x);simpa using this
    have hgames:=qx (f:=qH ((),(wrO l.length b,())) l ((List.range l.length).flatMap (prO l b.1),(b.2,(ofO l b.1 l.length,(0,()))))) l.length
      (fun m=>((((((List.range m).flatMap (prO l b.1)).length:Nat):Int),ofO l b.1 m,(m:Int),()),()))
      (.inl ((((((List.range l.length).flatMap (prO l b.1)).length:Nat):Int),ofO l b.1 l.length,()),())) (fun m hm=>?_) ?_
    rotate_left
    · unfold qH wrO
      have hmv:m<b.1.length:=by omega
      have h1:(m:Int)<(((b.1.map (encO l.length)).length:Nat):Int):=by rw[List.length_map];omega
      simp only[h1,decide_true,cond_true];rw[at?_eq _ _ (by omega) (by omega)];simp only[Int.toNat_natCast,Option.bind_some,List.getElem_map];rw[qcC,qi (n:=(m:Int)+1) (by omega) (by omega)];have eof:ofO l b.1 (m+1)=bif b.1[m]==(l.length:Int) then(m:Int) else ofO l b.1 m:=by
        show foldN _ (m+1) (-1)=_;rw[foldN,qaj hmv];rfl
      have epr:prO l b.1 m=bif b.1[m]==(l.length:Int) then [] else bif decide ((m:Int)<b.1[m]) then(bif decide (coO l (b.1[m]).toNat<coO l m) then [(b.1[m],((m:Int),()))] else [((m:Int),(b.1[m],()))]) else []:=by
        unfold prO;rw[qaj hmv]
      have hk:=hfl m (by omega);rw[eof];rcases hfull.ent hmv with h3 | h3
      · have hc:(b.1[m]==(l.length:Int))=true:=by rw[beq_iff_eq];exact h3
        rw[hc] at epr ⊢;simp only[cond_true] at epr ⊢;rw[epr,List.append_nil,h3]
        have ee:encO l.length ((l.length:Nat):Int) = -1:=by unfold encO;rw[if_neg (by omega),if_pos rfl]
        rw[ee]
        have h4:(-1:Int)<(m:Int):=by omega
        simp only[beq_self_eq_true,cond_true,Option.bind_some,h4,decide_true,Sum.elim_inl];rfl
      · have hc:(b.1[m]==(l.length:Int))=false:=by simp only[beq_eq_false_iff_ne,ne_eq];omega
        rw[hc] at epr ⊢;simp only[cond_false] at epr ⊢
        have ee:encO l.length b.1[m]=b.1[m]:=by unfold encO;rw[if_neg (by omega),if_neg (by omega)]
        rw[ee]
        have hn1:(b.1[m] == -1)=false:=by simp only[beq_eq_false_iff_ne,ne_eq];omega
        rw[hn1];simp only[cond_false,Option.bind_some];by_cases hlt:b.1[m]<(m:Int)
        · have hnl:¬(m:Int)<b.1[m]:=by omega
          simp only[hnl,decide_false,cond_false] at epr;rw[epr,List.append_nil];simp only[hlt,decide_true,cond_true,Option.bind_some,Sum.elim_inl];rfl
        · have hnl:(m:Int)<b.1[m]:=by omega
          simp only[hnl,decide_true,cond_true] at epr;simp only[hlt,decide_false,cond_false];have a1:at? l b.1[m]=some (l[(b.1[m]).toNat]'(by omega)):=at?_eq l _ (by omega) (by omega)
          have a2:at? l (m:Int)=some l[m]:=by rw[at?_eq l _ (by omega) (by omega)];simp only[Int.toNat_natCast]
          obtain⟨_,_,_,r1,_⟩:=rngO hf (i:=(b.1[m]).toNat) (by omega);obtain⟨_,_,_,r2,_⟩:=rngO hf (i:=m) hm;rw[r1,r2] at epr;simp only[a1,a2,Option.bind_some];have hsplit:(List.range l.length).flatMap (prO l b.1)=(List.range m).flatMap (prO l b.1)++(prO l b.1 m++((List.range (l.length-(m+1))).map (fun t=>m+1+t)).flatMap (prO l b.1)):=by
            conv=>lhs;rw[show l.length=m+1+(l.length-(m+1)) by omega,List.range_add,List.flatMap_append,List.range_succ,List.flatMap_append]
            simp
          obtain⟨g,hg⟩:∃g,prO l b.1 m=[g]∧(bif decide (l[(b.1[m]).toNat].2.2.1<l[m].2.2.1) then some ((),((b.1[m],((m:Int),())),())) else some ((),(((m:Int),(b.1[m],())),())))=some ((),(g,())):=by
            rw[epr];cases decide (l[(b.1[m]).toNat].2.2.1<l[m].2.2.1)
            · exact⟨_,rfl,rfl⟩
            · exact⟨_,rfl,rfl⟩
          obtain⟨hg1,hg2⟩:=hg;rw[hg2];have hgl:((List.range m).flatMap (prO l b.1)).length<((List.range l.length).flatMap (prO l b.1)).length:=by
            rw[hsplit,hg1];simp
          have hge:((List.range l.length).flatMap (prO l b.1))[((List.range m).flatMap (prO l b.1)).length]=g:=by
            simp only[hsplit,hg1];rw[List.getElem_append_right (by omega)];simp
          have hnge:¬((((List.range m).flatMap (prO l b.1)).length:Nat):Int)≥((((List.range l.length).flatMap (prO l b.1)).length:Nat):Int):=by omega
          have a3:at? ((List.range l.length).flatMap (prO l b.1)) ((((List.range m).flatMap (prO l b.1)).length:Nat):Int)=some g:=by
            rw[at?_eq _ _ (by omega) (by omega)];simp only[Int.toNat_natCast,hge]
          simp only[Option.bind_some,hnge,decide_false,Bool.not_false,gat,cond_true,a3,beq_self_eq_true,Bool.and_self,Bool.not_true,Bool.or_self,cond_false,Sum.elim_inl];rw[qi (by omega) (by omega),List.length_append,hg1];rfl
    · unfold qH wrO
      have h1:¬((l.length:Nat):Int)<(((b.1.map (encO l.length)).length:Nat):Int):=by rw[List.length_map];omega
      simp only[h1,decide_false,cond_false]
    have hgames':iterW (qH ((),(wrO l.length b,())) l ((List.range l.length).flatMap (prO l b.1),(b.2,(ofO l b.1 l.length,(0,()))))) (((0:Int),(-1:Int),(0:Int),()),())=_:=hgames;rw[hgames'];simp only[Option.bind_some,Sum.elim_inl];unfold wrO;simp
end Go.Proofs.Ytcifaoaepbidoaa

