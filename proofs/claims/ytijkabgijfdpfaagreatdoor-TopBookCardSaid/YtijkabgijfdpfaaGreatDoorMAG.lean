/- Several texts in one: PremM, MatchE, ClaimA, ClaimM, MatchF, MatchG, MatchH, MatchI, HtenP, TopBookA, TopBookL. -/
import Derived.Test.YtijkabgijfdpfaaGreatDoorMAF
import Derived.Test.YtijkabgijfdpfaaGreatDoorMAE
namespace Go.Proofs.YtijkabgijfdpfaaGreatDoor
open Go.Den
set_option linter.unusedVariables false
set_option linter.unusedSimpArgs false
set_option maxRecDepth 100000

abbrev PM:=Int×Mv×Unit
abbrev dPM:PM:=(0,((0,(0,(0,()))),()))
theorem qpJ {A:Type} (xs:List A) (i:Nat) (h:i<xs.length):at? xs (i:Int)=some xs[i]:=by
  rw[at?_eq xs _ (Int.natCast_nonneg i) (Int.ofNat_lt.2 h)];simp only[Int.toNat_natCast]
theorem quY {A C:Type} (l:List A) (G:A→List C):∀n,n≤l.length→(List.range n).flatMap (fun i=>(l[i]?).toList.flatMap G)=(l.take n).flatMap G
  | 0,_=>by simp
  | n+1,h=>by
    rw[List.range_succ,List.flatMap_append,quY l G n (by omega),List.take_succ_eq_append_getElem (by omega),List.flatMap_append];simp[List.getElem?_eq_getElem (show n<l.length by omega)]
theorem qyb {A C R:Type} (xs:List A) (B:Nat) (f:(((List C)×Int×Unit)×Unit)→Option ((((List C)×Int×Unit)×Unit) ⊕ R)) (G:A→List C) (fin:List C→R) (a0:List C) (hG:∀x∈xs,(G x).length≤B)
    (hs:∀i (hi:i<xs.length) (a:List C),a.length≤a0.length+i*B→f ((a,(i:Int),()),())=some (.inl ((a++G xs[i],((i:Int)+1),()),()))) (he:∀a,f ((a,(xs.length:Int),()),())=some (.inr (fin a))) :
    iterW f ((a0,(0:Int),()),())=some (fin (a0++xs.flatMap G)):=by
  have:=qhN xs.length B f (fun i=>(xs[i]?).toList.flatMap G) fin a0 (fun i hi=>by
    simp only[List.getElem?_eq_getElem hi,Option.toList_some,List.flatMap_cons,List.flatMap_nil,List.append_nil];exact hG _ (List.getElem_mem hi)) (fun i hi a ha=>by
    simp only[List.getElem?_eq_getElem hi,Option.toList_some,List.flatMap_cons,List.flatMap_nil,List.append_nil]
    exact hs i hi a ha) he
  rw[this,quY xs G _ (Nat.le_refl _),List.take_length]
def ofL (l:List PM) (pl:Int):List Mv:=l.flatMap fun x=>bif x.1==pl then [x.2.1] else []
def woL (l:List PM) (pl:Int):List PM:=l.filter fun x=>!(x.1==pl)
def odd1 (x:PM):Bool:=(x.1 !=0)&&(x.1 !=1)
def pmErr (l:List PM):Int:=if 4<(ofL l 0).length∨4<(ofL l 1).length then 2 else if l.any odd1=true then 4 else 0
theorem qwq (l:List PM) (pl:Int) (hl:l.length≤1000000):qg1 l pl=some (ofL l pl):=by
  unfold qg1
  have:=qyb l 1 (qgn l pl) (fun x=>bif x.1==pl then [x.2.1] else []) (fun a=>((a,()),())) [] (fun x _=>by
    cases (x.1==pl)
    · exact Nat.zero_le _
    · exact Nat.le_refl _) (fun i hi a ha=>by
    simp only[List.length_nil] at ha;unfold qgn;simp only[show decide ((i:Int)<((l.length:Nat):Int))=true by simp;omega,cond_true];rw[qpJ l i hi,Option.bind_some,qe (n:=(i:Int)+1) (by omega) (by omega)];cases (l[i].1==pl)
    · simp only[cond_false,Option.bind_some,List.append_nil]
    · simp only[cond_true];rw[qI (by simp only[List.length_cons,List.length_nil];omega),qc]
      rfl) (fun a=>by unfold qgn;simp)
  rw[this,Option.bind_some];rfl
theorem qqL (l:List PM) (hl:l.length≤1000000):qeh l=some (pmErr l):=by
  unfold qeh pmErr;rw[qwq l 0 hl,Option.bind_some,qwq l 1 hl,Option.bind_some]
  have hL:=qQ l odd1 (qcK l) (.inr 4) (.inl ((),())) (fun i hi=>by
    unfold qcK odd1;simp only[show decide ((i:Int)<((l.length:Nat):Int))=true by simp;omega,cond_true];rw[qpJ l i hi,Option.bind_some,qe (n:=(i:Int)+1) (by omega) (by omega),show decide ((i:Int)≥0)=true by simp]
    cases ((l[i].1 !=0)&&(l[i].1 !=1))<;>rfl) (by unfold qcK;simp)
  rw[hL];by_cases h:4<(ofL l 0).length∨4<(ofL l 1).length
  · rw[if_pos h];by_cases h0:4<(ofL l 0).length
    · rw[show decide ((((ofL l 0).length:Nat):Int)>4)=true by simp only[decide_eq_true_eq];omega];rfl
    · rw[show decide ((((ofL l 0).length:Nat):Int)>4)=false by simp only[decide_eq_false_iff_not];omega,show decide ((((ofL l 1).length:Nat):Int)>4)=true by simp only[decide_eq_true_eq];omega];rfl
  · rw[if_neg h,show decide ((((ofL l 0).length:Nat):Int)>4)=false by simp only[decide_eq_false_iff_not];omega,show decide ((((ofL l 1).length:Nat):Int)>4)=false by simp only[decide_eq_false_iff_not];omega];simp only[cond_false,Option.bind_some]
    cases l.any odd1<;>rfl
theorem qwa (s:List PM) (h:s.length≤1000000):qA s=some s:=by
  unfold qA;have:room (([]:List PM).length+s.length) 32=true:=qI (by simp;omega);rw[this]
  cases s with
  | nil=>simp[qc,agree_self]
  | cons a l=>simp[qc]
theorem concatPM (a b:List PM) (ha:a.length≤1000) (hb:b.length≤1000):qal [a,b]=some (a++b):=by
  have w1:w64 (0+((a.length:Nat):Int))=(a.length:Int):=by rw[Int.zero_add];exact qe (by omega) (by omega)
  have w2:w64 ((a.length:Int)+((b.length:Nat):Int))=((a.length+b.length:Nat):Int):=by rw[qe (by omega) (by omega)];omega
  have w3:w64 ((0:Int)+1)=1:=by decide
  have w4:w64 ((1:Int)+1)=2:=by decide
  have g0:at? [a,b] 0=some a:=rfl;have g1:at? [a,b] 1=some b:=rfl;have l1:iterW (qx [a,b]) (((0:Int),(0:Int),()),())=some (((((a.length+b.length:Nat):Int)),()),()):=by
    have s0:qx [a,b] (((0:Int),(0:Int),()),())=some (.inl ((((a.length:Nat):Int),(1:Int),()),())):=by
      unfold qx;simp only[g0,w1,w3,Option.bind_some];rw[show decide (((a.length:Nat):Int)<0)=false by simp];rfl
    have s1:qx [a,b] ((((a.length:Nat):Int),(1:Int),()),())=some (.inl ((((a.length+b.length:Nat):Int),(2:Int),()),())):=by
      unfold qx;simp only[g1,w2,w4,Option.bind_some];rw[show decide (((a.length+b.length:Nat):Int)<0)=false by simp;omega];rfl
    have s2:qx [a,b] ((((a.length+b.length:Nat):Int),(2:Int),()),())=some (.inr ((((a.length+b.length:Nat):Int),()),())):=rfl;rw[ql s0,ql s1,qh s2]
  have l2:iterW (qz [a,b]) ((([]:List PM),(0:Int),()),())=some ((a++b,()),()):=by
    have s0:qz [a,b] ((([]:List PM),(0:Int),()),())=some (.inl ((a,(1:Int),()),())):=by
      unfold qz;simp only[g0,w3,Option.bind_some];rw[qI (by simp;omega)];rfl
    have s1:qz [a,b] ((a,(1:Int),()),())=some (.inl ((a++b,(2:Int),()),())):=by
      unfold qz;simp only[g1,w4,Option.bind_some];rw[qI (by omega)];rfl
    have s2:qz [a,b] ((a++b,(2:Int),()),())=some (.inr ((a++b,()),())):=rfl;rw[ql s0,ql s1,qh s2]
  unfold qal;simp only[l1,Option.bind_some];rw[show decide (((a.length+b.length:Nat):Int)<0)=false by simp;omega]
  have w5:w64 (((a.length+b.length:Nat):Int)-0)=((a.length+b.length:Nat):Int):=by rw[Int.sub_zero];exact qe (by omega) (by omega)
  simp only[w5,cond_false];by_cases c:a.length+b.length=0
  · rw[c];simp only[Int.natCast_zero,show decide ((0:Int)>0)=false by decide,cond_false,Option.bind_some];rw[l2];rfl
  · have c1:decide (((a.length+b.length:Nat):Int)>0)=true:=by simp;omega
    have c2:decide (0<((a.length+b.length:Nat):Int))=true:=by simp;omega
    have c3:room ((((a.length+b.length:Nat):Int)).toNat) 32=true:=qI (by omega)
    have c4:∀l:List PM,qo 0 0 l.length=true:=fun l=>by simp[qo]
    simp only[c1,c2,c3,c4,cond_true,Bool.and_self,qc,Option.bind_some,List.take_zero];rw[l2];rfl
def fstI (p:Nat→Bool):Nat→Nat→Nat
  | i,0=>i
  | i,k+1=>bif p i then i else fstI p (i+1) k
theorem fst_rng (p:Nat→Bool):∀(k i:Nat),i≤fstI p i k∧fstI p i k≤i+k∧(fstI p i k<i+k→p (fstI p i k)=true)∧∀j,i≤j→j<fstI p i k→p j=false
  | 0,i=>⟨Nat.le_refl _,Nat.le_refl _,fun h=>absurd h (Nat.lt_irrefl _),fun j h1 h2=>absurd h2 (Nat.not_lt.2 h1)⟩
  | k+1,i=>by
    have ih:=fst_rng p k (i+1);unfold fstI;cases h:p i
    · simp only[cond_false];refine⟨by omega,by omega,fun hl=>ih.2.2.1 (by omega),fun j h1 h2=>?_⟩;by_cases e:j=i
      · subst e;exact h
      · exact ih.2.2.2 j (by omega) h2
    · simp only[cond_true];exact⟨Nat.le_refl _,by omega,fun _=>h,fun j h1 h2=>absurd h2 (Nat.not_lt.2 h1)⟩
theorem qxI {β:Type} (p:Nat→Bool) (g:Nat→β) (B:β):∀(k i:Nat),scan (fun i=>bif p i then some (g i) else none) B i k=if fstI p i k<i+k then g (fstI p i k) else B
  | 0,i=>by
    unfold fstI scan;rw[if_neg (show ¬i<i+0 by omega)]
  | k+1,i=>by
    conv=>lhs;unfold scan
    unfold fstI;cases h:p i
    · simp only[cond_false];rw[qxI p g B k (i+1),show i+1+k=i+(k+1) by omega]
    · simp only[cond_true];rw[if_pos (by omega)]
def fstP (l:List PM) (pl:Int):Nat:=fstI (fun i=>(l.getD i dPM).1==pl) 0 l.length
theorem qsY (l:List PM) (i:Nat) (h:i<l.length):l.getD i dPM=l[i]:=by simp[List.getD_eq_getElem?_getD,h]
theorem wo_L2 (l:List PM) (pl:Int) (hl:l.length≤1000000):∀(k w j:Nat) (ys:List PM),j+k=l.length→w≤j→ys.length=l.length→ys.take w=(l.take j).filter (fun x=>!(x.1==pl))→ys.drop j=l.drop j →
    ∃(w':Nat) (zs:List PM),iterW (qaW pl) (((w:Int),(j:Int),()),(ys,()))=some (((w':Int),()),(zs,()))∧w'≤l.length∧zs.length=l.length∧zs.take w'=woL l pl:=by
  intro k
  induction k with
  | zero =>
    intro w j ys hj hw hy h1 h2
    have:j=l.length:=by omega
    subst this;refine⟨w,ys,qh ?_,hw,hy,by rw[h1,List.take_length];rfl⟩;unfold qaW;simp only[show decide (((l.length:Nat):Int)<((ys.length:Nat):Int))=false by simp;omega,cond_false]
  | succ k ih =>
    intro w j ys hj hw hy h1 h2
    have hjl:j<l.length:=by omega
    have hjy:j<ys.length:=by omega
    have hyj:ys[j]=l[j]:=by
      have e1:(ys.drop j)[0]?=(l.drop j)[0]?:=by rw[h2]
      rw[List.getElem?_drop,List.getElem?_drop,Nat.add_zero,List.getElem?_eq_getElem hjy,List.getElem?_eq_getElem hjl] at e1;exact Option.some.inj e1
    have hdr:∀zs:List PM,zs.drop j=l.drop j→zs.drop (j+1)=l.drop (j+1):=fun zs h=>by
      rw[←List.drop_drop,←List.drop_drop,h]
    have hg:getD' ys j dPM=l[j]:=by unfold getD';rw[qsY ys j hjy,hyj]
    have htk:(l.take (j+1)).filter (fun x=>!(x.1==pl))=(l.take j).filter (fun x=>!(x.1==pl))++(if (!(l[j].1==pl))=true then [l[j]] else []):=by
      rw[List.take_succ_eq_append_getElem hjl,List.filter_append,List.filter_cons,List.filter_nil]
    by_cases hk:(l[j].1==pl)=true
    · obtain⟨w',zs,q1,q2⟩:=ih w (j+1) ys (by omega) (by omega) hy (by rw[htk,hk,h1];simp) (hdr ys h2);refine⟨w',zs,?_,q2⟩;rw[ql (y:=(((w:Int),((j+1:Nat):Int),()),(ys,())))]
      · exact q1
      · unfold qaW;simp only[show decide ((j:Int)<((ys.length:Nat):Int))=true by simp;omega,cond_true];rw[inb_iff.2 ⟨by omega,by omega⟩,qc,Int.toNat_natCast];rw[hg,hk,Bool.not_true,cond_false,Option.bind_some,qe (n:=(j:Int)+1) (by omega) (by omega)];rfl
    · have hk:=Bool.eq_false_iff.2 hk
      have hws:w<ys.length:=by omega
      obtain⟨w',zs,q1,q2⟩:=ih (w+1) (j+1) (ys.set w l[j]) (by omega) (by omega) (by rw[List.length_set];exact hy) (by
        rw[htk,hk,←h1,List.take_succ_eq_append_getElem (by rw[List.length_set];exact hws),List.getElem_set_self,List.take_set_of_le (Nat.le_refl _)]
        simp) (by
        rw[List.drop_set_of_lt (by omega)]
        exact hdr ys h2)
      refine⟨w',zs,?_,q2⟩;rw[ql (y:=((((w+1:Nat):Int),((j+1:Nat):Int),()),(ys.set w l[j],())))]
      · exact q1
      · unfold qaW;simp only[show decide ((j:Int)<((ys.length:Nat):Int))=true by simp;omega,cond_true];rw[inb_iff.2 ⟨by omega,by omega⟩,qc,Int.toNat_natCast];rw[hg,hk,Bool.not_false,cond_true,inb_iff.2 ⟨by omega,by omega⟩,qc,Option.bind_some,qe (n:=(j:Int)+1) (by omega) (by omega),qe (n:=(w:Int)+1) (by omega) (by omega),Int.toNat_natCast];rfl
theorem qop (l:List PM) (pl:Int) (hl:l.length≤1000000):qb7 l pl=some (woL l pl):=by
  unfold qb7;rw[qwa l hl,Option.bind_some];have key:∀k i:Nat,i+k=l.length→(∀j,j<i→((l.getD j dPM).1==pl)=false)→Option.bind (iterW (qav l pl) (((i:Int),()),())) (Sum.elim (fun _=>some l) some)=some (woL l pl):=by
    have pre:∀i,i≤l.length→(∀j,j<i→((l.getD j dPM).1==pl)=false)→(l.take i).filter (fun x=>!(x.1==pl))=l.take i:=fun i hi h=>by
      rw[List.filter_eq_self];intro x hx;obtain⟨j,hj,rfl⟩:=List.mem_iff_getElem.1 hx;rw[List.length_take] at hj;rw[List.getElem_take,←qsY l j (by omega),h j (by omega)];rfl
    intro k
    induction k with
    | zero =>
      intro i hi h
      have:i=l.length:=by omega
      subst this;rw[qh (r := .inl ((),())) (by unfold qav;simp)];have:=pre l.length (Nat.le_refl _) h;rw[List.take_length] at this;show some l=some (woL l pl);unfold woL;rw[this]
    | succ k ih =>
      intro i hi h
      have hil:i<l.length:=by omega
      have hg:getD' l i dPM=l.getD i dPM:=rfl;cases hp:((l.getD i dPM).1==pl)
      · rw[ql (y:=((((i+1:Nat):Int),()),()))]
        · exact ih (i+1) (by omega) fun j hj=>by
            by_cases e:j=i
            · subst e;exact hp
            · exact h j (by omega)
        · unfold qav;simp only[show decide ((i:Int)<((l.length:Nat):Int))=true by simp;omega,cond_true];rw[inb_iff.2 ⟨by omega,by omega⟩,qc,Int.toNat_natCast,hg,hp,cond_false,qe (n:=(i:Int)+1) (by omega) (by omega)];rfl
      · obtain⟨w',zs,q1,q2,q3,q4⟩:=wo_L2 l pl hl (l.length-(i+1)) i (i+1) l (by omega) (by omega) rfl (by
          rw[List.take_succ_eq_append_getElem hil,List.filter_append,List.filter_cons,List.filter_nil,←qsY l i hil,hp,pre i (by omega) h]
          simp) rfl
        have hf:qav l pl (((i:Int),()),())=some (.inr (.inr (woL l pl))):=by
          unfold qav;simp only[show decide ((i:Int)<((l.length:Nat):Int))=true by simp;omega,cond_true];rw[inb_iff.2 ⟨by omega,by omega⟩,qc,Int.toNat_natCast,hg,hp,cond_true,beq_f (show ¬(i:Int) = -1 by omega),cond_false,qe (n:=(i:Int)+1) (by omega) (by omega)];rw[show((i:Int)+1)=((i+1:Nat):Int) by omega,q1,Option.bind_some];simp only[Int.toNat_natCast];rw[show qo (w':Int) ((zs.length:Nat):Int) zs.length=true by simp only[qo,Bool.and_eq_true,decide_eq_true_eq];omega,qc];rw[show ∀ys:List PM,qo 0 (w':Int) (zs.take w'++ys).length=true from fun ys=>by
            simp only[qo,Bool.and_eq_true,decide_eq_true_eq,List.length_append,List.length_take]
            omega,qc,←q4]
          rw[show ∀ys:List PM,(zs.take w'++ys).take w'=zs.take w' from fun ys=>by
            rw[List.take_append_of_le_length (by rw[List.length_take];omega),List.take_take,Nat.min_self]]
          rfl
        rw[qh hf];rfl
  exact key l.length 0 (by omega) (fun j hj=>by omega)
def openM (r:Rules) (p:Place):List Mv:=if qc3 r p=0 then qan r p else []
theorem qsb {r:Rules} {p:Place} (h:Valid r p):qgI r p=some (openM r p):=by
  unfold qgI openM;rw[qpu h,Option.bind_some];by_cases c:qc3 r p=0
  · rw[bne_f c,cond_false,if_pos c,qjp h];rfl
  · rw[bne_t c,cond_true,if_neg c]
theorem openM_mem {r:Rules} {p:Place} {m:Mv}:m∈openM r p↔qc3 r p=0∧qE r p m=true:=by
  unfold openM;by_cases c:qc3 r p=0
  · rw[if_pos c,qhG];exact⟨fun h=>⟨c,h⟩,fun h=>h.2⟩
  · rw[if_neg c];exact⟨fun h=>(by cases h),fun h=>absurd h.1 c⟩
theorem qvh {r:Rules} {p:Place} (h:Valid r p):(openM r p).length≤100000:=by
  unfold openM;split
  · exact qlc h
  · simp
def resN (r:Rules) (p:Place) (l:List PM) (i:Nat):Mv×Bool×List PM×Unit :=
  if (l.getD i dPM).2.1∈openM r p then((l.getD i dPM).2.1,(true,(l.take i++l.drop (i+1),()))) else((0,(0,(0,()))),(false,(woL l p.turn,())))
def nextP (r:Rules) (p:Place) (l:List PM):Mv×Bool×List PM×Unit :=
  if fstP l p.turn<l.length then resN r p l (fstP l p.turn) else((0,(0,(0,()))),(false,(woL l p.turn,())))
theorem next_spec {r:Rules} {p:Place} (h:Valid r p) (l:List PM) (hl:l.length≤1000):qhD r p l=some (nextP r p l):=by
  unfold qhD
  have hL:=qjO l.length (qdJ l p r) (fun i=>bif (l.getD i dPM).1==p.turn then some (Sum.inr (resN r p l i)) else none) (.inl ((),())) (fun i hi=>by
    unfold qdJ resN;simp only[show decide ((i:Int)<((l.length:Nat):Int))=true by simp;omega,cond_true];rw[qpJ l i hi,Option.bind_some,qe (n:=(i:Int)+1) (by omega) (by omega),qsY l i hi];show(bif (l[i].1==p.turn) then _ else _)=_;cases hp:(l[i].1==p.turn)
    · rfl
    · simp only[cond_true];rw[show decide ((i:Int)<0)=false by simp];simp only[Bool.not_false,cond_false,qaA,agree_self]
      have hgat:∀z,gat true z l (i:Int)=some l[i]:=fun z=>by show at? l (i:Int)=_;exact qpJ l i hi
      rw[hgat,Option.bind_some,qsb h,Option.bind_some,qjH _ _ (by have:=qvh h;omega),Option.bind_some,Option.bind_some];simp only;by_cases hm:l[i].2.1∈openM r p
      · rw[decide_eq_true hm,if_pos hm];simp only[Bool.not_true,cond_false];rw[show qo 0 (i:Int) l.length=true by simp only[qo,Bool.and_eq_true,decide_eq_true_eq];omega,show qo ((i:Int)+1) ((l.length:Nat):Int) l.length=true by simp only[qo,Bool.and_eq_true,decide_eq_true_eq];omega];simp only[qc,qaA,agree_self,Option.bind_some,Int.toNat_natCast,List.drop_zero,List.take_length];rw[concatPM _ _ (by rw[List.length_take];omega) (by rw[List.length_drop];omega)];rw[show((i:Int)+1).toNat=i+1 by omega];rfl
      · rw[decide_eq_false hm,if_neg hm];simp only[Bool.not_false,cond_true];rw[show p.2.2.1=p.turn from rfl,qop l _ (by omega)]
        rfl) (by unfold qdJ;simp)
  rw[hL,qxI,Nat.zero_add];unfold nextP;show Option.bind (some (if fstP l p.turn<l.length then Sum.inr (resN r p l (fstP l p.turn)) else Sum.inl ((),()))) _=_;by_cases c:fstP l p.turn<l.length
  · rw[if_pos c,if_pos c];rfl
  · rw[if_neg c,if_neg c];simp only[Option.bind_some,Sum.elim_inl];have hg:∀z:PM,gat false z l (-1)=some z:=fun z=>rfl;rw[hg,Option.bind_some];rw[show p.2.2.1=p.turn from rfl,qop l _ (by omega)];rfl
theorem addP_spec (l:List PM) (hl:l.length≤1000) (pl:Int) (m:Mv):qjX l pl m=some (if pmErr l≠0 then([],(pmErr l,())) else if pl≠0∧pl≠1 then([],(1,())) else if (ofL l pl).length=4 then([],(9,())) else(l++[(pl,(m,()))],(0,()))):=by
  unfold qjX;rw[qqL l (by omega),Option.bind_some];by_cases c:pmErr l=0
  rotate_left
  · rw[bne_t c,cond_true,if_pos c]
  rw[bne_f c,cond_false,if_neg (fun h=>h c)];by_cases c1:pl≠0∧pl≠1
  · rw[if_pos c1,bne_t c1.1,bne_t c1.2];rfl
  rw[if_neg c1,show((pl !=0)&&(pl !=1))=false by
    rw[Bool.and_eq_false_iff];by_cases e:pl=0
    · exact .inl (bne_f e)
    · exact .inr (bne_f (by omega)),cond_false,qwq l pl (by omega),Option.bind_some]
  by_cases c2:(ofL l pl).length=4
  · rw[if_pos c2,c2];rfl
  rw[if_neg c2,beq_f (show ¬(((ofL l pl).length:Nat):Int)=4 by omega),cond_false];simp only[qaA,agree_self];rw[qwa l (by omega),Option.bind_some,qI (by simp only[List.length_cons,List.length_nil];omega),qc,Option.bind_some]
def faultP (r:Rules) (p:Place) (l:List PM):Int:=if qcq r p≠0 then qcq r p else pmErr l
theorem qwi (r:Rules) (p:Place) (l:List PM) (hr:Rng qT r) (hn:p.1.length≤9223372036854775807) (hl:l.length≤1000):qdU r p l=some (faultP r p l):=by
  unfold qdU faultP;rw[qnT r p hr hn,Option.bind_some];by_cases c:qcq r p=0
  · rw[bne_f c,cond_false,if_neg (fun h=>h c),qqL l (by omega),Option.bind_some]
  · rw[bne_t c,cond_true,if_pos c]
theorem qx8 (r:Rules) (p:Place) (hr:Rng qT r) (hv:Valid r p) (c:qH r=0) (l:List PM) (hl:l.length≤1000):qa7 r p l=some (if pmErr l≠0 then((0,(0,(0,()))),(false,([],(pmErr l,())))) else((nextP r p l).1,((nextP r p l).2.1,((nextP r p l).2.2.1,(0,()))))):=by
  unfold qa7;rw[qwi r p l hr (by have:=qbw hv;omega) hl,Option.bind_some];unfold faultP;rw[qs5 c hv];simp only[ne_eq,not_true_eq_false,if_false];by_cases h:pmErr l=0
  · rw[bne_f h,cond_false,next_spec hv l hl,Option.bind_some,if_neg (by simp[h])]
  · rw[bne_t h,cond_true,if_pos h]

theorem qcH {r:Rules} {s:List Place×List Mv} (h:OKG r s):qu (r,(s.1,(s.2,())))=some s.2:=by
  have hm:=h.most;have hc:qcl s.2=some s.2:=by
    unfold qcl
    cases hs:s.2 with
    | nil =>
      rw[show(([]:List Mv).isEmpty)=true from rfl,cond_true,qI (by simp),qc];exact agree_self _
    | cons m l =>
      rw[hs] at hm;rw[show(m::l).isEmpty=false from rfl,cond_false,qI (by simp at hm ⊢;omega),qc,List.nil_append]
  unfold qu;simp only[hc,Option.bind_some]
structure RG (r:Rules) (s:List Place×List Mv):Prop where
  ok:OKG r s
  reach:qiB r s.2 = .inl s
theorem qtT {r:Rules} (m:Mv):∀(k:List Mv) (s:List Place×List Mv),runG r (k++[m]) s=match runG r k s with
    | .inl s'=>if stepG r s' m=0 then .inl (nextG r s' m) else .inr (stepG r s' m)
    | .inr e => .inr e
  | [],s=>rfl
  | x::k,s=>by
    rw[List.cons_append];unfold runG;split
    · exact qtT m k _
    · rfl
theorem RG.next {r:Rules} {s:List Place×List Mv} {m:Mv} (h:RG r s) (c:stepG r s m=0):RG r (nextG r s m):=⟨qqw h.ok c,by
  show runG r (s.2++[m]) _=_;have:runG r s.2 ([qq r],[]) = .inl s:=h.reach;rw[qtT,this]
  simp only[c,if_true]⟩
theorem RG.begin {r:Rules} (c:qH r=0):RG r ([qq r],[]):=⟨qfz c,rfl⟩
def backG (s:List Place×List Mv):List Place×List Mv:=(s.1.dropLast,s.2.dropLast)
theorem back_next (r:Rules) (s:List Place×List Mv) (m:Mv):backG (nextG r s m)=s:=by
  unfold backG nextG;simp
theorem RG.last_step {r:Rules} {s:List Place×List Mv} (h:RG r s) (h0:0<s.2.length):RG r (backG s)∧∃m,s=nextG r (backG s) m∧stepG r (backG s) m=0:=by
  have hne:s.2≠[]:=fun e=>by rw[e] at h0;simp at h0
  have hk:s.2=s.2.dropLast++[s.2.getLast hne]:=(List.dropLast_concat_getLast hne).symm;have hr:=h.reach;unfold qiB at hr;rw[hk,qtT] at hr
  cases hq:runG r s.2.dropLast ([qq r],[]) with
  | inr e=>rw[hq] at hr;cases hr
  | inl s' =>
    rw[hq] at hr;simp only at hr;split at hr
    · rename_i c;have e:nextG r s' (s.2.getLast hne)=s:=Sum.inl.inj hr
      have hb:backG s=s':=by rw[←e];exact back_next r s' _
      obtain⟨o1,o2⟩:=qxx _ _ _ (qfz h.ok.ok) hq;rw[List.nil_append] at o2;refine⟨⟨by rw[hb];exact o1,?_⟩,_,by rw[hb];exact e.symm,by rw[hb];exact c⟩;rw[hb,o2];exact hq
    · cases hr
theorem RG.back {r:Rules} {s:List Place×List Mv} (h:RG r s) (h0:0<s.2.length):RG r (backG s):=(h.last_step h0).1
theorem RG.back_open {r:Rules} {s:List Place×List Mv} (h:RG r s) (h0:0<s.2.length):qR r (backG s).1=0:=by
  obtain⟨_,m,_,c⟩:=h.last_step h0;exact(qxB c).1
theorem qpq (s:List Place×List Mv):(backG s).2.length=s.2.length-1:=by unfold backG;simp
def par (n:Nat):Int:=((n % 2:Nat):Int)
theorem qw0 (n:Nat):par (n+1)=1-par n:=by unfold par;omega
theorem par_rng (n:Nat):0≤par n∧par n≤1:=by unfold par;omega
theorem qr2 (r:Rules) (s:List Place×List Mv) (m:Mv):lastP (nextG r s m).1=qjc r (lastP s.1) m:=by
  unfold nextG lastP;simp only[List.length_append,List.length_singleton,Nat.add_sub_cancel];exact gd_app2 _ _
theorem RG.turn {r:Rules}:∀(n:Nat) {s:List Place×List Mv},RG r s→s.2.length=n→(lastP s.1).turn=par n
  | 0,s,h,hn=>by
    have he:s.2=[]:=List.length_eq_zero_iff.1 hn;have hr:=h.reach;rw[he] at hr;have:s=([qq r],[]):=(Sum.inl.inj hr).symm;rw[this];rfl
  | n+1,s,h,hn=>by
    obtain⟨hb,m,e,_⟩:=h.last_step (by omega);have:=RG.turn n hb (by rw[qpq];omega);rw[e,qr2,qw0,←this];rfl
theorem back_spec {r:Rules} {s:List Place×List Mv} (h:OKG r s):qcW (r,(s.1,(s.2,())))=some (if s.2.length=0 then((r,(s.1,(s.2,()))),8) else((r,((backG s).1,((backG s).2,()))),0)):=by
  obtain⟨l,ms⟩:=s;have hl:l.length=ms.length+1:=h.len;have hm:ms.length≤400:=h.most;unfold qcW;simp only;by_cases c:ms.length=0
  · rw[if_pos c,c];rfl
  · rw[if_neg c,beq_f (show ¬((ms.length:Nat):Int)=0 by omega),cond_false]
    have w1:w64 (((l.length:Nat):Int)-1)=((l.length-1:Nat):Int):=by rw[qe (by omega) (by omega)];omega
    have w2:w64 (((ms.length:Nat):Int)-1)=((ms.length-1:Nat):Int):=by rw[qe (by omega) (by omega)];omega
    have b1:qo 0 ((l.length-1:Nat):Int) l.length=true:=by simp only[qo,Bool.and_eq_true,decide_eq_true_eq];omega
    have b2:qo 0 ((ms.length-1:Nat):Int) ms.length=true:=by simp only[qo,Bool.and_eq_true,decide_eq_true_eq];omega
    simp only[w1,w2,b1,b2,qc,qaA,agree_self,Option.bind_some,Int.toNat_natCast];unfold backG;rw[List.dropLast_eq_take,List.dropLast_eq_take]

def bec (pr:Nat→Nat) (g:Nat):Nat→Nat→Bool
  | 0,_=>false
  | m+1,k=>k==g||(decide (0<pr k)&&bec pr g m (pr k-1))
def passG (pr:Nat→Nat) (f:Nat→Bool) (k:Nat):Nat→Bool:=fun j=>if j=k then(f k||(decide (0<pr k)&&f (pr k-1))) else f j
def passL (pr:Nat→Nat) (l:List Nat) (f:Nat→Bool):Nat→Bool:=l.foldl (passG pr) f
def closN (pr:Nat→Nat) (n g:Nat):Nat→Nat→Bool
  | 0=>fun j=>j==g
  | t+1=>passL pr (List.range n) (closN pr n g t)
def sumN (f:Nat→Int):Nat→Int
  | 0=>0
  | n+1=>sumN f n+f n
theorem qyf {f g:Nat→Int}:∀n,(∀i,i<n→f i=g i)→sumN f n=sumN g n
  | 0,_=>rfl
  | n+1,h=>by unfold sumN;rw[qyf n (fun i hi=>h i (by omega)),h n (by omega)]
theorem qxP (f:Nat→Int) (B:Int):∀n,(∀i,i<n→0≤f i∧f i≤B)→0≤sumN f n∧sumN f n≤n*B
  | 0,_=>by simp[sumN]
  | n+1,h=>by
    have h1:=qxP f B n (fun i hi=>h i (by omega));have h2:=h n (by omega);unfold sumN;rw[show((n+1:Nat):Int)*B=(n:Int)*B+B by rw[Int.natCast_add,Int.add_mul];simp];omega
def tup {A:Type} (f:Nat→A):A×A×A×A×A×A×Unit:=(f 0,f 1,f 2,f 3,f 4,f 5,())

def ownB (pl c:Int):Bool:=decide (c>0)&&((w64 (c-1)).tmod 2==pl)
def kc (c:Int):Nat:=((c-1) / 2).toNat
theorem kc_eq {c:Int} (h:0<c) (h':c≤12):w64 ((w64 (c-1)).tdiv 2)=((kc c:Nat):Int):=by
  unfold kc;rw[qe (n:=c-1) (by omega) (by omega),Int.tdiv_eq_ediv_of_nonneg (by omega),qe (by omega) (by omega)];omega
theorem qxY {pl c:Int} (h:ownB pl c=true):0<c:=by
  unfold ownB at h;rw[Bool.and_eq_true,decide_eq_true_eq] at h;exact h.1
def handP (p:Place) (pl:Int):List Int:=getD' [p.2.1.1,p.2.1.2.1] pl.toNat []
def hk (p:Place) (pl:Int) (k:Nat):Int:=getD' (handP p pl) k 0
def nN (p:Place) (pl:Int) (n:Nat):Int:=((p.1.countP (ownB pl):Nat):Int)+sumN (hk p pl) n
def qcd (p:Place) (pl:Int) (n:Nat):List Nat:=(p.1.filter (ownB pl)).map kc++(List.range n).filter (fun k=>decide (hk p pl k>0))
def qdb (p:Place) (pl:Int) (n:Nat):List Int:=(qcd p pl n).map fun k:Nat=>(k:Int)
theorem handP_len {r:Rules} {p:Place} (hv:Valid r p) {pl:Int} (hpl:pl=0∨pl=1):(handP p pl).length=r.pieces.length:=by
  rcases hpl with h | h
  · subst h;exact hv.l0
  · subst h;exact hv.l1
theorem hk_rng {r:Rules} {p:Place} (hv:Valid r p) {pl:Int} (hpl:pl=0∨pl=1) (k:Nat):0≤hk p pl k∧hk p pl k≤1000:=by
  unfold hk;by_cases c:k<(handP p pl).length
  · rw[gd_eq _ k c];rcases hpl with h | h
    · subst h;exact hv.hand0 _ (List.getElem_mem (l:=p.2.1.1) (by exact c))
    · subst h;exact hv.hand1 _ (List.getElem_mem (l:=p.2.1.2.1) (by exact c))
  · simp[getD',List.getElem?_eq_none (Nat.not_lt.1 c)]
theorem qvu {r:Rules} {p:Place} (hv:Valid r p):p.1.length≤64:=by
  have h1:=hv.cells;have h2:=hv.r0.area;have h3:((p.1.length:Nat):Int)=r.width*r.height:=h1;omega
theorem cell12 {r:Rules} {p:Place} (hv:Valid r p) {c:Int} (hc:c∈p.1):0≤c∧c≤2*((r.pieces.length:Nat):Int)∧c≤12:=by
  have h1:=hv.cell c hc;have h2:=hv.r0.t6;omega
theorem himp (b:Bool):imp b true=true:=by cases b<;>rfl
theorem take_le {A:Type} (q:A→Bool) (l:List A) (i:Nat):((l.take i).filter q).length≤i:=Nat.le_trans (List.length_filter_le _ _) (by simp;omega)
theorem qyr {r:Rules} {p:Place} (hv:Valid r p) {pl:Int} (hpl:pl=0∨pl=1):qjV p pl=some (qdb p pl r.pieces.length,(nN p pl r.pieces.length,())):=by
  have hc64:=qvu hv;have ht6:=hv.r0.t6;have hH:=handP_len hv hpl;have h1:iterW (qcY p pl) ((([]:List Int),(0:Int),(0:Int),()),())=some ((((p.1.filter (ownB pl)).map (fun c=>((kc c:Nat):Int))),(((p.1.countP (ownB pl):Nat):Int)),()),()):=by
    have:=qcv (f:=qcY p pl) p.1.length (fun i=>((((p.1.take i).filter (ownB pl)).map (fun c=>((kc c:Nat):Int)),(((p.1.take i).countP (ownB pl):Nat):Int),(i:Int),()),())) ((((p.1.filter (ownB pl)).map (fun c=>((kc c:Nat):Int))),(((p.1.countP (ownB pl):Nat):Int)),()),()) (fun i hi=>by
      have hm:p.1[i]∈p.1:=List.getElem_mem _;have h12:=cell12 hv hm
      have hcl:(p.1.take i).countP (ownB pl)≤i:=by rw[List.countP_eq_length_filter];exact take_le _ _ _
      unfold qcY;simp only[ltd p.1 i hi,cond_true];rw[at?_eq _ _ (by omega) (by omega)];simp only[Option.bind_some,Int.toNat_natCast,himp,qc];rw[show(decide (p.1[i]>0)&&((w64 (p.1[i]-1)).tmod 2==pl))=ownB pl p.1[i] from rfl,List.take_succ_eq_append_getElem hi,List.filter_append,List.map_append,List.countP_append];rw[qe (n:=(i:Int)+1) (by omega) (by omega)]
      cases hq:ownB pl p.1[i] with
      | true =>
        have hp0:=qxY hq;rw[kc_eq hp0 h12.2.2,qe (n:=(((p.1.take i).countP (ownB pl):Nat):Int)+1) (by omega) (by omega),cond_true];rw[qI (by rw[List.length_map];have:=take_le (ownB pl) p.1 i;simp only[List.length_singleton];omega),qc];simp[hq]
      | false =>
        simp[hq]) (by
      unfold qcY
      simp only[nltd,cond_false,List.take_length])
    exact this
  have h2:iterW (qdj p pl) ((((p.1.filter (ownB pl)).map (fun c=>((kc c:Nat):Int))),(((p.1.countP (ownB pl):Nat):Int)),(0:Int),()),())=some ((qdb p pl r.pieces.length,nN p pl r.pieces.length,()),()):=by
    have hcp:p.1.countP (ownB pl)≤64:=Nat.le_trans List.countP_le_length hc64;have hfl:(p.1.filter (ownB pl)).length≤64:=Nat.le_trans (List.length_filter_le _ _) hc64
    have:=qcv (f:=qdj p pl) r.pieces.length (fun i=>((qdb p pl i,nN p pl i,(i:Int),()),())) ((qdb p pl r.pieces.length,nN p pl r.pieces.length,()),()) (fun i hi=>by
      have hk1:=hk_rng hv hpl i;have hs:=qxP (hk p pl) 1000 i (fun j _=>hk_rng hv hpl j);unfold qdj;simp only[show getD' [p.2.1.1,p.2.1.2.1] pl.toNat []=handP p pl from rfl];simp only[ltd (handP p pl) i (by omega),cond_true];rw[at?_eq _ _ (by omega) (by omega)];simp only[Option.bind_some,Int.toNat_natCast];rw[show(handP p pl)[i]'(by omega)=hk p pl i from(gd_eq _ i (by omega) 0).symm];rw[qe (n:=(i:Int)+1) (by omega) (by omega)]
      have e1:nN p pl (i+1)=nN p pl i+hk p pl i:=by unfold nN;rw[sumN];omega
      have hn:0≤nN p pl i∧nN p pl i≤6064:=by unfold nN;omega
      have e2:qdb p pl (i+1)=bif decide (hk p pl i>0) then qdb p pl i++[(i:Int)] else qdb p pl i:=by
        unfold qdb qcd;rw[List.range_succ,List.filter_append]
        cases hq:decide (hk p pl i>0)<;>simp[hq]
      rw[e1,e2]
      cases hq:decide (hk p pl i>0) with
      | true =>
        have hl:(qdb p pl i).length≤100:=by
          unfold qdb qcd;rw[List.length_map,List.length_append,List.length_map];have:((List.range i).filter (fun k=>decide (hk p pl k>0))).length≤(List.range i).length:=List.length_filter_le _ _;rw[List.length_range] at this;omega
        rw[cond_true,qI (by simp only[List.length_singleton];omega),qc,qe (n:=nN p pl i+hk p pl i) (by omega) (by omega)];rfl
      | false =>
        have hz:hk p pl i=0:=by rw[decide_eq_false_iff_not] at hq;omega
        rw[hz,Int.add_zero]
        rfl) (by
      unfold qdj;simp only[show getD' [p.2.1.1,p.2.1.2.1] pl.toNat []=handP p pl from rfl]
      rw[show((r.pieces.length:Nat):Int)=(((handP p pl).length:Nat):Int) by rw[hH],nltd,cond_false])
    have e0:qdb p pl 0=(p.1.filter (ownB pl)).map (fun c=>((kc c:Nat):Int)):=by
      unfold qdb qcd;simp
    have e1:nN p pl 0=((p.1.countP (ownB pl):Nat):Int):=by unfold nN;simp[sumN]
    rw[←e0,←e1];exact this
  unfold qjV;rw[h1,Option.bind_some,show inb pl 2=true from inb_iff.2 (by omega),qc,h2,Option.bind_some]
theorem qxo {r:Rules} {p:Place} (hv:Valid r p) {pl:Int} {k:Nat} (hk':k∈qcd p pl r.pieces.length):k<r.pieces.length:=by
  unfold qcd at hk';rcases List.mem_append.1 hk' with h | h
  · obtain⟨c,hc,e⟩:=List.mem_map.1 h;obtain⟨h1,h2⟩:=List.mem_filter.1 hc;have h3:=cell12 hv h1;have h4:=qxY h2;rw[←e];unfold kc;omega
  · exact List.mem_range.1 (List.mem_filter.1 h).1
def dQ:Piece:=(0,0,0,[],())
def qky (r:Rules) (k:Nat):Piece:=getD' r.pieces k dQ
def prN (r:Rules) (k:Nat):Nat:=(qky r k).2.2.1.toNat
theorem qvm (r:Rules) {k:Nat} (h:k<r.pieces.length):qky r k∈r.pieces:=by unfold qky;rw[gd_eq _ k h];exact List.getElem_mem _
theorem qtg (r:Rules) {k:Nat} (h:k<r.pieces.length):at? r.2.2.2.1 (k:Int)=some (qky r k):=by
  rw[at?_eq _ _ (by omega) (by show(k:Int)<((r.pieces.length:Nat):Int);omega)];unfold qky;rw[gd_eq _ k h];rfl
theorem qyF {r:Rules} (hv:VR0 r) (g:Nat):∀m i k:Nat,i+m=r.pieces.length+1→k<r.pieces.length→Option.bind (α:=((Unit)×(Unit)) ⊕ Bool) (iterW (qaY r (g:Int)) (((k:Int),(i:Int),()),())) (Sum.elim (fun x4=>some false) some)=some (bec (prN r) g m k):=by
  have ht6:=hv.t6;have hw:w64 (((r.2.2.2.1.length:Nat):Int)+1)=((r.pieces.length:Nat):Int)+1:=qe (by show _≤((r.pieces.length:Nat):Int)+1;omega) (by show((r.pieces.length:Nat):Int)+1≤_;omega);intro m
  induction m with
  | zero =>
    intro i k hi hk
    rw[qh (r := .inl ((),())) (by
      unfold qaY;simp only;rw[hw,decide_eq_false (by omega)]
      rfl)]
    rfl
  | succ m ih =>
    intro i k hi hk;have hp:=hv.prom _ (qvm r hk);by_cases e:k=g
    · rw[qh (r := .inr true) (by
        unfold qaY;simp only
        rw[hw,decide_eq_true (by omega),cond_true,beq_t (by omega),cond_true])]
      unfold bec;rw[beq_t e];rfl
    · by_cases c:(qky r k).2.2.1=0
      · rw[qh (r := .inr false) (by
          unfold qaY;simp only
          rw[hw,decide_eq_true (by omega),cond_true,beq_f (by omega),cond_false,qtg r hk,Option.bind_some,beq_t c,cond_true])]
        unfold bec;rw[beq_f e,decide_eq_false (show ¬0<prN r k by unfold prN;omega)];rfl
      · have e2:w64 ((qky r k).2.2.1-1)=((prN r k-1:Nat):Int):=by
          unfold prN;rw[qe (by omega) (by omega)];omega
        have hlt:prN r k-1<r.pieces.length:=by unfold prN;omega
        rw[ql (y:=((((prN r k-1:Nat):Int),((i+1:Nat):Int),()),())) (by
          unfold qaY;simp only;rw[hw,decide_eq_true (by omega),cond_true,beq_f (by omega),cond_false,qtg r hk,Option.bind_some,beq_f c,cond_false,Option.bind_some,e2,qe (n:=(i:Int)+1) (by omega) (by omega)]
          rfl),ih (i+1) (prN r k-1) (by omega) hlt]
        conv=>rhs;unfold bec
        rw[beq_f e,decide_eq_true (show 0<prN r k by unfold prN;omega)];rfl
theorem qt4 {r:Rules} (hv:VR0 r) (g k:Nat) (hk:k<r.pieces.length):qip r (k:Int) (g:Int)=some (bec (prN r) g (r.pieces.length+1) k):=qyF hv g _ 0 k (by omega) hk

theorem qyS (q:Piece) (hq:q.2.2.2.1.length≤16) (i:Nat):iterW (qgr q (((i:Int),()),())) (((0:Int),()),())=some (bif q.2.2.2.1.any (fun w=>w.2.2.2.1 !=0) then .inr (.inr (.inr ((true,()),()))) else .inl ((),())):=by
  refine qQ (β:=((Unit)×(Unit)) ⊕ (((Int×Unit)×(Unit)) ⊕ (((Unit)×(Unit)) ⊕ ((Bool×Unit)×(Unit))))) q.2.2.2.1 (fun w=>w.2.2.2.1 !=0) _ (.inr (.inr (.inr ((true,()),())))) (.inl ((),())) (fun j hj=>?_) ?_
  · unfold qgr;simp only;rw[ltd _ j hj,cond_true,at?_eq _ _ (by omega) (by omega),Option.bind_some,decide_eq_true (show(j:Int)≥0 by omega),decide_eq_true (show(i:Int)≥0 by omega),qe (n:=(j:Int)+1) (by omega) (by omega)];simp only[Int.toNat_natCast]
    cases (q.2.2.2.1[j].2.2.2.1 !=0)<;>rfl
  · unfold qgr;simp only;rw[nltd];rfl
def takesK (r:Rules) (k:Nat):Bool:=(qky r k).2.2.2.1.any fun w=>w.2.2.2.1 !=0
def ableX (r:Rules) (p:Place) (pl:Int) (x:End):Bool:=(x.2.2.2.1||(x.1==2))||((((x.1==0)&&decide (nN p pl r.pieces.length≥x.2.2.1))||((x.1==1)&&(qcd p pl r.pieces.length).any (bec (prN r) x.2.1.toNat (r.pieces.length+1))))||(r.keeps&&(qcd p pl r.pieces.length).any (takesK r)))
theorem able_spec {r:Rules} {p:Place} (hv:Valid r p) {pl:Int} (hpl:pl=0∨pl=1) {x:End} (hx:x∈r.ends):qno r p x pl=some (ableX r p pl x):=by
  have hE:=hv.r0.ends x hx;have ht1:=hv.r0.t1;have ht6:=hv.r0.t6;have hx1:0≤x.2.1:=by
    have:=hE.2.2
    split at this<;>omega
  have hg:x.2.1=((x.2.1.toNat:Nat):Int):=by omega
  have hTl:(qcd p pl r.pieces.length).length≤100:=by
    have hfl:(p.1.filter (ownB pl)).length≤64:=Nat.le_trans (List.length_filter_le _ _) (qvu hv);have:((List.range r.pieces.length).filter (fun k=>decide (hk p pl k>0))).length≤(List.range r.pieces.length).length:=List.length_filter_le _ _;rw[List.length_range] at this;unfold qcd;rw[List.length_append,List.length_map];omega
  have hlen:(qdb p pl r.pieces.length).length=(qcd p pl r.pieces.length).length:=List.length_map _;have hget:∀i (hi:i<(qcd p pl r.pieces.length).length),getD' (qdb p pl r.pieces.length) i 0=(((qcd p pl r.pieces.length)[i]:Nat):Int):=fun i hi=>by
    rw[gd_eq _ i (by omega)];unfold qdb;rw[List.getElem_map]
  have i1:iterW (qfS (qdb p pl r.pieces.length,(nN p pl r.pieces.length,())) r x) (((0:Int),()),())=some (bif (qcd p pl r.pieces.length).any (bec (prN r) x.2.1.toNat (r.pieces.length+1)) then .inr ((true,()),()) else .inl ((),())):=by
    refine qQ (β:=((Unit)×(Unit)) ⊕ ((Bool×Unit)×(Unit))) (qcd p pl r.pieces.length) _ _ (.inr ((true,()),())) (.inl ((),())) (fun i hi=>?_) ?_
    · unfold qfS;simp only;rw[decide_eq_true (show(i:Int)<(((qdb p pl r.pieces.length).length:Nat):Int) by omega),cond_true,inbN _ i (by omega),qc,Int.toNat_natCast,hget i hi,hg,qt4 hv.r0 _ _ (qxo hv (List.getElem_mem _)),Option.bind_some,decide_eq_true (show(i:Int)≥0 by omega),qe (n:=(i:Int)+1) (by omega) (by omega)];rfl
    · unfold qfS;simp only;rw[decide_eq_false (by omega)];rfl
  have i2:iterW (qgg (qdb p pl r.pieces.length,(nN p pl r.pieces.length,())) r) (((0:Int),()),())=some (bif (qcd p pl r.pieces.length).any (takesK r) then .inr ((true,()),()) else .inl ((),())):=by
    refine qQ (β:=((Unit)×(Unit)) ⊕ ((Bool×Unit)×(Unit))) (qcd p pl r.pieces.length) _ _ (.inr ((true,()),())) (.inl ((),())) (fun i hi=>?_) ?_
    · have hlt:=qxo hv (List.getElem_mem hi);have hwl:=hv.r0.ways _ (qvm r hlt);unfold qgg;simp only;rw[decide_eq_true (show(i:Int)<(((qdb p pl r.pieces.length).length:Nat):Int) by omega),cond_true,inbN _ i (by omega),qc,Int.toNat_natCast,hget i hi,qtg r hlt,Option.bind_some,qe (n:=(i:Int)+1) (by omega) (by omega)];rw[qyS _ hwl i];show _=bif (qky r (qcd p pl r.pieces.length)[i]).2.2.2.1.any (fun w=>w.2.2.2.1 !=0) then _ else _
      cases (qky r (qcd p pl r.pieces.length)[i]).2.2.2.1.any (fun w=>w.2.2.2.1 !=0)<;>rfl
    · unfold qgg;simp only;rw[decide_eq_false (by omega)];rfl
  unfold qno;rw[qyr hv hpl,Option.bind_some,i1,i2];unfold ableX;show _=some (_||(_||(r.2.2.2.2.2.2.1&&_)))
  cases (x.2.2.2.1||(x.1==2)) with
  | true=>rfl
  | false =>
    cases ((x.1==0)&&decide (nN p pl r.pieces.length≥x.2.2.1)) with
    | true=>rfl
    | false =>
      cases (x.1==1)<;>cases (qcd p pl r.pieces.length).any (bec (prN r) x.2.1.toNat (r.pieces.length+1))<;>cases r.2.2.2.2.2.2.1<;>cases (qcd p pl r.pieces.length).any (takesK r)<;>rfl
def ableR (r:Rules) (p:Place) (pl:Int):Bool:=(r.blocked !=2)||r.ends.any (ableX r p pl)
theorem qrq (r:Rules) (p:Place) (pl:Int) (hr:Rng qT r) (hn:p.1.length≤9223372036854775807):qe6 r p pl=some (if qcq r p=0 then if pl=0∨pl=1 then(ableR r p pl,(0,())) else(false,(1,())) else(false,(qcq r p,()))):=by
  unfold qe6;rw[qnT r p hr hn,Option.bind_some];by_cases c:qcq r p=0
  · have hv:=valid_of c;have h6:=hv.r0.ends6;rw[bne_f c,cond_false,if_pos c];by_cases cp:pl=0∨pl=1
    · rw[if_pos cp,show((pl !=0)&&(pl !=1))=false by rcases cp with h | h<;>subst h<;>rfl,cond_false]
      have i1:iterW (qdT r p pl) (((0:Int),()),())=some (bif r.ends.any (ableX r p pl) then .inr ((true,(0:Int),()),()) else .inl ((),())):=by
        refine qQ (β:=((Unit)×(Unit)) ⊕ ((Bool×Int×Unit)×(Unit))) r.ends _ _ (.inr ((true,(0:Int),()),())) (.inl ((),())) (fun i hi=>?_) ?_
        · have hi':i<r.2.2.2.2.2.2.2.1.length:=hi;unfold qdT;simp only;rw[ltd _ i hi',cond_true,at?_eq _ _ (by omega) (by omega),Option.bind_some];simp only[Int.toNat_natCast];rw[able_spec hv cp (x:=r.2.2.2.2.2.2.2.1[i]) (List.getElem_mem (l:=r.ends) hi),Option.bind_some,decide_eq_true (show(i:Int)≥0 by omega),qe (n:=(i:Int)+1) (by omega) (by omega)];rfl
        · unfold qdT;simp only;rw[show decide (((r.ends.length:Nat):Int)<((r.2.2.2.2.2.2.2.1.length:Nat):Int))=false from nltd r.ends];rfl
      rw[i1];unfold ableR;show _=some ((r.2.2.2.2.2.2.2.2.1 !=2)||_,_)
      cases (r.2.2.2.2.2.2.2.2.1 !=2)<;>cases r.ends.any (ableX r p pl)<;>rfl
    · rw[if_neg cp,show((pl !=0)&&(pl !=1))=true by rw[bne_t (by omega),bne_t (by omega)];rfl];rfl
  · rw[bne_t c,if_neg c];rfl
set_option maxHeartbeats 0

structure MS where
  g:List Place×List Mv
  res:Int
  rea:Int
  c:Clk
  o:Offs
  pm:List PM
  last:Int
  j:Jn
abbrev StT:=List Mv×Int×Int×Clk×Offs×List PM×Unit
abbrev qji:=Rules×CRule×Game×StT×Int×Jn×Unit
def tupM (r:Rules) (cr:CRule) (m:MS):qji:=(r,(cr,(gm r m.g,(([],(m.res,(m.rea,(m.c,(m.o,(m.pm,())))))),(m.last,(m.j,()))))))
def dClk:Clk:=((0,(0,())),((0,(0,())),((0,(0,())),(0,(0,(false,(0,())))))))
def dOff:Offs:=((0,(0,())),(((0,(0,())),((0,(0,())),())),()))
noncomputable def ofMove (o:Offs) (pl:Int):Offs:=((qgE o pl).getD (dOff,(0,()))).1
noncomputable def qsd (o:Offs) (k pl n:Int):Offs×Int:=let x:=(qcI o k pl n).getD (dOff,(0,())); (x.1,x.2.1)
noncomputable def qsa (o:Offs) (k pl n:Int):Offs×Int:=let x:=(qaL o k pl n).getD (dOff,(0,())); (x.1,x.2.1)
noncomputable def ofAcc (o:Offs) (k pl n:Int):Offs×Int:=let x:=(qdu o k pl n).getD (dOff,(0,())); (x.1,x.2.1)
noncomputable def qxs (o:Offs) (n:Int):Offs:=((qfd o n).getD (dOff,(0,()))).1
noncomputable def lookC (cr:CRule) (c:Clk) (now:Int):Clk:=((qaX cr c now).getD (dClk,(0,()))).1
theorem qwk (o:Offs) (pl:Int):∃e,qgE o pl=some (ofMove o pl,(e,())):=by
  obtain⟨o',e,h⟩:=qyG o pl;exact⟨e,by unfold ofMove;rw[h];rfl⟩
theorem qpG (o:Offs) (k pl n:Int):qcI o k pl n=some ((qsd o k pl n).1,((qsd o k pl n).2,())):=by
  obtain⟨o',e,h⟩:=qx5 o k pl n;unfold qsd;rw[h];rfl
theorem qqy (o:Offs) (k pl n:Int):qaL o k pl n=some ((qsa o k pl n).1,((qsa o k pl n).2,())):=by
  obtain⟨o',e,h⟩:=qsZ o k pl n;unfold qsa;rw[h];rfl
theorem qyq (o:Offs) (k pl n:Int):qdu o k pl n=some ((ofAcc o k pl n).1,((ofAcc o k pl n).2,()))∧((ofAcc o k pl n).2=0→(k=0∨k=1)∧(pl=0∨pl=1)∧0≤n∧n≤400):=by
  obtain⟨o',e,h,h'⟩:=qum o k pl n;unfold ofAcc;rw[h];exact⟨rfl,h'⟩
theorem qvW (o:Offs) (n:Int):∃e,qfd o n=some (qxs o n,(e,())):=by
  obtain⟨o',e,h⟩:=qyA o n;exact⟨e,by unfold qxs;rw[h];rfl⟩
theorem qnX (cr:CRule) (c:Clk) (now:Int) (hl:cr.1.length≤9223372036854775807):∃e,qaX cr c now=some (lookC cr c now,(e,())):=by
  obtain⟨c',e,h,_⟩:=look_some cr c now hl;exact⟨e,by unfold lookC;rw[h];rfl⟩
noncomputable def moveM (r:Rules) (cr:CRule) (m:MS) (x:Mv) (now:Int):MS:={ m with g:=nextG r m.g x,c:=qgl cr m.c now,o:=ofMove m.o (par m.g.2.length) }
noncomputable def annM (r:Rules) (cr:CRule) (now:Int):Nat→MS→MS
  | 0,m=>m
  | k+1,m=>if qR r m.g.1=0∧m.g.2.length<400 then
      if (nextP r (lastP m.g.1) m.pm).2.1=true then annM r cr now k (moveM r cr { m with pm:=(nextP r (lastP m.g.1) m.pm).2.2.1 } (nextP r (lastP m.g.1) m.pm).1 now)
      else { m with pm:=(nextP r (lastP m.g.1) m.pm).2.2.1 }
    else m
noncomputable def qtU (r:Rules) (cr:CRule) (m:MS) (e:Ev):MS×Int :=
  if par m.g.2.length≠e.2.1 then(m,12) else if e.2.2.2.2.1∉openM r (lastP m.g.1) then(m,13) else if m.g.2.length=400 then(m,2)
  else(annM r cr e.2.2.2.1 (m.pm.length+1) (moveM r cr m e.2.2.2.2.1 e.2.2.2.1),0)
noncomputable def qtG (m:MS) (e:Ev):MS×Int :=
  let x:=if e.1=3 then qsa m.o e.2.2.1 e.2.1 ((m.g.2.length:Nat):Int) else qsd m.o e.2.2.1 e.2.1 ((m.g.2.length:Nat):Int)
  if x.2=0 then({ m with o:=x.1 },0) else(m,x.2)
def backN:Nat→List Place×List Mv→List Place×List Mv
  | 0,s=>s
  | k+1,s=>backN k (backG s)
noncomputable def qpK (m:MS) (e:Ev):MS×Int :=
  let x:=ofAcc m.o e.2.2.1 e.2.1 ((m.g.2.length:Nat):Int)
  if x.2≠0 then(m,x.2) else if e.2.2.1=0 then({ m with o:=x.1,res:=3,rea:=4 },0)
  else
    let g:=backN (qh3 (1-e.2.1) ((m.g.2.length:Nat):Int)).toNat m.g
    ({ m with g:=g,o:=qxs x.1 ((g.2.length:Nat):Int),c:=(m.c.1,(m.c.2.1,(m.c.2.2.1,(par g.2.length,(e.2.2.2.1,m.c.2.2.2.2.2))))),pm:=[] },0)
def fallR (r:Rules) (p:Place) (pl:Int):Int:=if ableR r p (1-pl)=true then 2-pl else 3
noncomputable def qs4 (r:Rules) (cr:CRule) (m:MS) (e:Ev):MS×Int :=
  if e.2.2.1=2 then
    if (lookC cr m.c e.2.2.2.1).2.2.2.2.2.2.1<0 then(m,10)
    else({ m with res:=fallR r (lastP m.g.1) (lookC cr m.c e.2.2.2.1).2.2.2.2.2.2.1,rea:=2,c:=lookC cr m.c e.2.2.2.1 },0)
  else if e.2.2.1≠0∧e.2.2.1≠1 then(m,1) else if par m.g.2.length≠e.2.1 then(m,12)
  else if e.2.2.1=0∧3≤qer m.g.1∨e.2.2.1=1∧20≤(lastP m.g.1).quiet then({ m with res:=3,rea:=5 },0) else(m,10)
def qn3 (m:MS) (e:Ev):MS×Int :=
  if par m.g.2.length=e.2.1 then(m,12) else if (ofL m.pm e.2.1).length=4 then(m,9) else({ m with pm:=m.pm++[(e.2.1,(e.2.2.2.2.1,()))] },0)
noncomputable def kindM (r:Rules) (cr:CRule) (m:MS) (e:Ev):MS×Int :=
  if e.1=0 then qtU r cr m e else if e.1=1∨e.1=3 then qtG m e else if e.1=2 then qpK m e else if e.1=5 then qs4 r cr m e
  else if e.1=6 then qn3 m e else({ m with res:=2-e.2.1,rea:=3 },0)
def overM (r:Rules) (m:MS):MS:=if m.res=0∧qR r m.g.1≠0 then { m with res:=qR r m.g.1,rea:=1 } else m
noncomputable def doneM (r:Rules) (m:MS) (e:Ev):MS:=overM r { m with last:=e.2.2.2.1,j:=nextJ m.j (qiT e) }
noncomputable def doM (r:Rules) (cr:CRule) (m:MS) (e:Ev):MS×Int :=
  if (e.1<0∨6<e.1)∨(e.2.1≠0∧e.2.1≠1) then(m,1) else if e.2.2.2.1<m.last∨100000000<e.2.2.2.1 then(m,11) else if m.res≠0 then(m,14)
  else if m.j.length=1000 then(m,9)
  else if (0≤(lookC cr m.c e.2.2.2.1).2.2.2.2.2.2.1∧e.1≠4)∧¬(e.1=5∧e.2.2.1=2) then(m,11)
  else if (kindM r cr m e).2≠0 then(m,(kindM r cr m e).2) else(doneM r (kindM r cr m e).1 e,0)
structure MOK (r:Rules) (cr:CRule) (m:MS):Prop where
  rng:Rng qT r
  len:cr.1.length≤9223372036854775807
  g:RG r m.g
  cok:chkC cr=0
  clk:m.res=0→GoodC cr m.c m.last
  turn:m.res=0→m.c.2.2.2.1=par m.g.2.length
  opn:m.res=0→qR r m.g.1=0
  pm:pmErr m.pm=0
  few:m.pm.length≤8
  j:JOK m.j
structure MID (r:Rules) (cr:CRule) (m:MS) (now:Int):Prop where
  rng:Rng qT r
  len:cr.1.length≤9223372036854775807
  g:RG r m.g
  clk:GoodC cr m.c now
  turn:m.c.2.2.2.1=par m.g.2.length
  pm:pmErr m.pm=0
  few:m.pm.length≤8
theorem qrN {r:Rules} {cr:CRule} {m:MS} {now:Int} (h:MID r cr m now) {x:Mv} (c:stepG r m.g x=0):qas (tupM r cr m) x now=some (tupM r cr (moveM r cr m x now),()):=by
  obtain⟨e,he⟩:=qwk m.o (par m.g.2.length);obtain⟨hp,_⟩:=qr8 h.len h.clk;have ht:=RG.turn m.g.2.length h.g rfl;unfold qas tupM gm;simp only;rw[qar h.g.ok,Option.bind_some,quq h.g.ok,Option.bind_some,if_pos c,hp,Option.bind_some];rw[show(lastP m.g.1).2.2.1=(lastP m.g.1).turn from rfl,ht,he,Option.bind_some];rfl
theorem qxn {r:Rules} {cr:CRule} {m:MS} {now:Int} (h:MID r cr m now) {x:Mv} (c:stepG r m.g x=0):MID r cr (moveM r cr m x now) now:=by
  obtain⟨_,p1,p2,p3⟩:=qr8 h.len h.clk
  have hlen:(moveM r cr m x now).g.2.length=m.g.2.length+1:=by unfold moveM nextG;simp
  refine⟨h.rng,h.len,h.g.next c,p1,?_,h.pm,h.few⟩;show(qgl cr m.c now).2.2.2.1=_;rw[p2,h.turn,hlen,qw0]
theorem ql8 (pl:Int):∀l:List PM,(ofL l pl).length=l.countP (fun x=>x.1==pl)
  | []=>rfl
  | x::l=>by
    have ih:=ql8 pl l;unfold ofL at *;rw[List.flatMap_cons,List.length_append,ih,List.countP_cons];cases (x.1==pl)
    · simp
    · simp;omega
theorem qwO:∀l:List PM,l.length=l.countP (fun x=>x.1==0)+l.countP (fun x=>x.1==1)+l.countP odd1
  | []=>rfl
  | x::l=>by
    have ih:=qwO l;simp only[List.length_cons,List.countP_cons];rw[show odd1 x=((x.1 !=0)&&(x.1 !=1)) from rfl];by_cases h0:x.1=0
    · simp only[h0];simp;omega
    · by_cases h1:x.1=1
      · simp only[h1];simp;omega
      · simp[h0,h1];omega
theorem qt9 (l:List PM):pmErr l=0↔l.countP (fun x=>x.1==0)≤4∧l.countP (fun x=>x.1==1)≤4∧l.countP odd1=0:=by
  unfold pmErr;rw[ql8,ql8];constructor
  · intro h;split at h
    · cases h
    · rename_i c;split at h
      · cases h
      · rename_i d;refine⟨by omega,by omega,?_⟩;rw[List.countP_eq_zero];intro x hx q;exact d (List.any_eq_true.2 ⟨x,hx,q⟩)
  · rintro ⟨a,b,c⟩
    rw[if_neg (by omega),if_neg];intro d;obtain⟨x,hx,q⟩:=List.any_eq_true.1 d;exact(List.countP_eq_zero.1 c x hx) q
theorem pm_len {l:List PM} (h:pmErr l=0):l.length≤8:=by
  have:=(qt9 l).1 h;have:=qwO l;omega
theorem pm_sub {l l':List PM} (hs:l'.Sublist l) (h:pmErr l=0):pmErr l'=0:=by
  have h1:=(qt9 l).1 h;have a:=hs.countP_le (p:=fun x=>x.1==0);have b:=hs.countP_le (p:=fun x=>x.1==1);have c:=hs.countP_le (p:=odd1);exact(qt9 l').2 ⟨by omega,by omega,by omega⟩
theorem next_sub (r:Rules) (p:Place) (l:List PM):(nextP r p l).2.2.1.Sublist l:=by
  unfold nextP;split
  · unfold resN;split
    · show(l.take _++l.drop _).Sublist l;rw[←List.eraseIdx_eq_take_drop_succ];exact List.eraseIdx_sublist _ _
    · exact List.filter_sublist
  · exact List.filter_sublist
theorem next_mem {r:Rules} {p:Place} {l:List PM} (h:(nextP r p l).2.1=true):(nextP r p l).1∈openM r p∧(nextP r p l).2.2.1.length+1=l.length:=by
  unfold nextP at *;split at h
  · rename_i c;rw[if_pos c];unfold resN at *;split at h
    · rename_i d;rw[if_pos d];refine⟨d,?_⟩;show(l.take _++l.drop _).length+1=_;rw[List.length_append,List.length_take,List.length_drop];omega
    · cases h
  · cases h
theorem quH {r:Rules} {s:List Place×List Mv} {m:Mv} (hr:qR r s.1=0) (hm:m∈openM r (lastP s.1)) (hl:s.2.length<400):stepG r s m=0:=by
  unfold stepG;rw[if_pos hr,if_pos (openM_mem.1 hm).2,if_neg (by omega)]
def flatT (x:qji):ByteArray×Int×Int×(List (Int×Int×Int×(List (Int×Int×Int×Int×Unit))×Unit))×(List Int)×Bool×Bool×(List (Int×Int×Int×Bool×Unit))×Int×Int×Int×(List (Int×Int×Unit))×Int×Int×Game×(List Mv)×Int×Int×Int×Int×Int×Int×Int×Int×Int×Int×Bool×Int×Int×Int×Int×Int×Int×Int×(List PM)×Int×Jn×Unit :=
  (x.1.1,(x.1.2.1,(x.1.2.2.1,(x.1.2.2.2.1,(x.1.2.2.2.2.1,(x.1.2.2.2.2.2.1,(x.1.2.2.2.2.2.2.1,(x.1.2.2.2.2.2.2.2.1,(x.1.2.2.2.2.2.2.2.2.1,(x.1.2.2.2.2.2.2.2.2.2.1,(x.1.2.2.2.2.2.2.2.2.2.2.1,(x.2.1.1,(x.2.1.2.1,(x.2.1.2.2.1,((x.2.2.1.1,(x.2.2.1.2.1,(x.2.2.1.2.2.1,()))),(x.2.2.2.1.1,(x.2.2.2.1.2.1,(x.2.2.2.1.2.2.1,
  (x.2.2.2.1.2.2.2.1.1.1,(x.2.2.2.1.2.2.2.1.1.2.1,(x.2.2.2.1.2.2.2.1.2.1.1,(x.2.2.2.1.2.2.2.1.2.1.2.1,(x.2.2.2.1.2.2.2.1.2.2.1.1,(x.2.2.2.1.2.2.2.1.2.2.1.2.1,(x.2.2.2.1.2.2.2.1.2.2.2.1,(x.2.2.2.1.2.2.2.1.2.2.2.2.1,(x.2.2.2.1.2.2.2.1.2.2.2.2.2.1,(x.2.2.2.1.2.2.2.1.2.2.2.2.2.2.1,
  (x.2.2.2.1.2.2.2.2.1.1.1,(x.2.2.2.1.2.2.2.2.1.1.2.1,(x.2.2.2.1.2.2.2.2.1.2.1.1.1,(x.2.2.2.1.2.2.2.2.1.2.1.1.2.1,(x.2.2.2.1.2.2.2.2.1.2.1.2.1.1,(x.2.2.2.1.2.2.2.2.1.2.1.2.1.2.1,(x.2.2.2.1.2.2.2.2.2.1,x.2.2.2.2)))))))))))))))))))))))))))))))))))
def withP (x:qji) (l:List PM):qji:=(x.1,(x.2.1,(x.2.2.1,((x.2.2.2.1.1,(x.2.2.2.1.2.1,(x.2.2.2.1.2.2.1,(x.2.2.2.1.2.2.2.1,(x.2.2.2.1.2.2.2.2.1,(l,())))))),x.2.2.2.2))))
theorem dm_L1 (e:Ev) (x:qji):qax e ((),(flatT x,()))=Option.bind (Option.bind (qS x.2.2.1) fun a=>bif (a==(0:Int)) then(Option.bind (qu x.2.2.1) fun b=>some (((decide (((b.length:Nat):Int)<(400:Int))),()),())) else some ((false,()),())) fun b =>
    bif b.1.1 then(Option.bind (Option.bind (qk x.2.2.1) fun p=>Option.bind (qa7 x.1 p x.2.2.2.1.2.2.2.2.2.1) fun y=>some ((y.1,(y.2.1,(y.2.2.1,()))),())) fun z=>bif (!z.1.2.1) then some (.inr ((),(flatT (withP x z.1.2.2.1),()))) else Option.bind (qas (withP x z.1.2.2.1) z.1.1 e.2.2.2.1) fun w=>some (.inl ((),(flatT w.1,()))))
    else some (.inr ((),(flatT x,()))):=by
  unfold qax;simp only[qaA,agree_self];rfl

theorem mid_pm {r:Rules} {cr:CRule} {m:MS} {now:Int} (h:MID r cr m now) {l:List PM} (hs:l.Sublist m.pm):MID r cr { m with pm:=l } now :=
  ⟨h.rng,h.len,h.g,h.clk,h.turn,pm_sub hs h.pm,pm_len (pm_sub hs h.pm)⟩
theorem qxa {r:Rules} {cr:CRule} {now:Int} (e:Ev) (he:e.2.2.2.1=now):∀(k:Nat) (m:MS),MID r cr m now→m.pm.length<k →
    iterW (qax e) ((),(flatT (tupM r cr m),()))=some ((),(flatT (tupM r cr (annM r cr now k m)),()))∧MID r cr (annM r cr now k m) now
  | 0,m,_,hk=>absurd hk (Nat.not_lt_zero _)
  | k+1,m,h,hk=>by
    have hL:=dm_L1 e (tupM r cr m);rw[show(tupM r cr m).2.2.1=(r,(m.g.1,(m.g.2,()))) from rfl,show(tupM r cr m).1=r from rfl,show(tupM r cr m).2.2.2.1.2.2.2.2.2.1=m.pm from rfl,qfT h.g.ok,qcH h.g.ok,qar h.g.ok] at hL;simp only[Option.bind_some] at hL;unfold annM;by_cases c0:qR r m.g.1=0
    · rw[c0] at hL;simp only[beq_self_eq_true,cond_true,Option.bind_some] at hL;by_cases c1:m.g.2.length<400
      · rw[show decide (((m.g.2.length:Nat):Int)<400)=true by simp;omega,cond_true,qx8 r _ h.rng h.g.ok.last h.g.ok.ok _ (by have:=h.few;omega),Option.bind_some] at hL;rw[if_neg (fun q=>q h.pm)] at hL;simp only[Option.bind_some] at hL;rw[if_pos ⟨c0,c1⟩];have hmid:=mid_pm h (next_sub r (lastP m.g.1) m.pm);by_cases c2:(nextP r (lastP m.g.1) m.pm).2.1=true
        · rw[c2,Bool.not_true,cond_false,he] at hL;obtain⟨n1,n2⟩:=next_mem c2;have hst:stepG r m.g (nextP r (lastP m.g.1) m.pm).1=0:=quH c0 n1 c1;have hmv:qas (withP (tupM r cr m) (nextP r (lastP m.g.1) m.pm).2.2.1) (nextP r (lastP m.g.1) m.pm).1 now=_:=qrN hmid hst;rw[hmv,Option.bind_some] at hL;rw[if_pos c2];have ih:=qxa e he k _ (qxn hmid hst) (by show(nextP r (lastP m.g.1) m.pm).2.2.1.length<k;omega);rw[ql hL];exact ih
        · have c3:(nextP r (lastP m.g.1) m.pm).2.1=false:=by simpa using c2
          rw[c3,Bool.not_false,cond_true] at hL;rw[if_neg c2];exact⟨qh hL,hmid⟩
      · rw[show decide (((m.g.2.length:Nat):Int)<400)=false by simp;omega,cond_false] at hL;rw[if_neg (fun q=>c1 q.2)];exact⟨qh hL,h⟩
    · rw[beq_f c0,cond_false,Option.bind_some,cond_false] at hL;rw[if_neg (fun q=>c0 q.1)];exact⟨qh hL,h⟩
def unflat (y:ByteArray×Int×Int×(List (Int×Int×Int×(List (Int×Int×Int×Int×Unit))×Unit))×(List Int)×Bool×Bool×(List (Int×Int×Int×Bool×Unit))×Int×Int×Int×(List (Int×Int×Unit))×Int×Int×Game×(List Mv)×Int×Int×Int×Int×Int×Int×Int×Int×Int×Int×Bool×Int×Int×Int×Int×Int×Int×Int×(List PM)×Int×Jn×Unit):qji:=((y.1,(y.2.1,(y.2.2.1,(y.2.2.2.1,(y.2.2.2.2.1,(y.2.2.2.2.2.1,(y.2.2.2.2.2.2.1,(y.2.2.2.2.2.2.2.1,(y.2.2.2.2.2.2.2.2.1,(y.2.2.2.2.2.2.2.2.2.1,(y.2.2.2.2.2.2.2.2.2.2.1,()))))))))))),((y.2.2.2.2.2.2.2.2.2.2.2.1,(y.2.2.2.2.2.2.2.2.2.2.2.2.1,(y.2.2.2.2.2.2.2.2.2.2.2.2.2.1,()))),((y.2.2.2.2.2.2.2.2.2.2.2.2.2.2.1.1,(y.2.2.2.2.2.2.2.2.2.2.2.2.2.2.1.2.1,(y.2.2.2.2.2.2.2.2.2.2.2.2.2.2.1.2.2.1,()))),((y.2.2.2.2.2.2.2.2.2.2.2.2.2.2.2.1,(y.2.2.2.2.2.2.2.2.2.2.2.2.2.2.2.2.1,(y.2.2.2.2.2.2.2.2.2.2.2.2.2.2.2.2.2.1,(((y.2.2.2.2.2.2.2.2.2.2.2.2.2.2.2.2.2.2.1,(y.2.2.2.2.2.2.2.2.2.2.2.2.2.2.2.2.2.2.2.1,())),((y.2.2.2.2.2.2.2.2.2.2.2.2.2.2.2.2.2.2.2.2.1,(y.2.2.2.2.2.2.2.2.2.2.2.2.2.2.2.2.2.2.2.2.2.1,())),((y.2.2.2.2.2.2.2.2.2.2.2.2.2.2.2.2.2.2.2.2.2.2.1,(y.2.2.2.2.2.2.2.2.2.2.2.2.2.2.2.2.2.2.2.2.2.2.2.1,())),(y.2.2.2.2.2.2.2.2.2.2.2.2.2.2.2.2.2.2.2.2.2.2.2.2.1,(y.2.2.2.2.2.2.2.2.2.2.2.2.2.2.2.2.2.2.2.2.2.2.2.2.2.1,(y.2.2.2.2.2.2.2.2.2.2.2.2.2.2.2.2.2.2.2.2.2.2.2.2.2.2.1,(y.2.2.2.2.2.2.2.2.2.2.2.2.2.2.2.2.2.2.2.2.2.2.2.2.2.2.2.1,()))))))),(((y.2.2.2.2.2.2.2.2.2.2.2.2.2.2.2.2.2.2.2.2.2.2.2.2.2.2.2.2.1,(y.2.2.2.2.2.2.2.2.2.2.2.2.2.2.2.2.2.2.2.2.2.2.2.2.2.2.2.2.2.1,())),(((y.2.2.2.2.2.2.2.2.2.2.2.2.2.2.2.2.2.2.2.2.2.2.2.2.2.2.2.2.2.2.1,(y.2.2.2.2.2.2.2.2.2.2.2.2.2.2.2.2.2.2.2.2.2.2.2.2.2.2.2.2.2.2.2.1,())),((y.2.2.2.2.2.2.2.2.2.2.2.2.2.2.2.2.2.2.2.2.2.2.2.2.2.2.2.2.2.2.2.2.1,(y.2.2.2.2.2.2.2.2.2.2.2.2.2.2.2.2.2.2.2.2.2.2.2.2.2.2.2.2.2.2.2.2.2.1,())),())),())),(y.2.2.2.2.2.2.2.2.2.2.2.2.2.2.2.2.2.2.2.2.2.2.2.2.2.2.2.2.2.2.2.2.2.2.1,())))))),y.2.2.2.2.2.2.2.2.2.2.2.2.2.2.2.2.2.2.2.2.2.2.2.2.2.2.2.2.2.2.2.2.2.2.2))))
structure SpecK (r:Rules) (cr:CRule) (m:MS) (now:Int) (x:MS×Int) (y:Option (qji×Int)):Prop where
  val:y=some (tupM r cr x.1,x.2)
  err:x.2≠0→x.1=m
  mid:x.2=0→x.1.res=0→MID r cr x.1 now
  g:RG r x.1.g
  pm:pmErr x.1.pm=0
  kept:x.1.last=m.last∧x.1.j=m.j
theorem SpecK.same {r:Rules} {cr:CRule} {m:MS} {now:Int} (h:MID r cr m now) {k:Int} (hk:k≠0) {y:Option (qji×Int)} (hy:y=some (tupM r cr m,k)):SpecK r cr m now (m,k) y :=
  ⟨hy,fun _=>rfl,fun c=>absurd c hk,h.g,h.pm,⟨rfl,rfl⟩⟩
theorem SpecK.done {r:Rules} {cr:CRule} {m m':MS} {now:Int} (h:MID r cr m' now) (h1:m'.last=m.last) (h2:m'.j=m.j) {y:Option (qji×Int)} (hy:y=some (tupM r cr m',0)):SpecK r cr m now (m',0) y :=
  ⟨hy,fun c=>absurd rfl c,fun _ _=>h,h.g,h.pm,⟨h1,h2⟩⟩
theorem qxO {r:Rules} {cr:CRule} {now:Int}:∀(k:Nat) (m:MS),(annM r cr now k m).last=m.last∧(annM r cr now k m).j=m.j
  | 0,m=>⟨rfl,rfl⟩
  | k+1,m=>by
    unfold annM;split
    · split
      · exact qxO k _
      · exact⟨rfl,rfl⟩
    · exact⟨rfl,rfl⟩
theorem bneI (a b:Int):(a !=b)=decide (a≠b):=by
  by_cases h:a=b
  · rw[bne_f h,decide_eq_false (fun q=>q h)]
  · rw[bne_t h,decide_eq_true h]
theorem dm_eq (x:qji) (e:Ev):qaF x e=Option.bind (qk x.2.2.1) fun p=>bif (p.2.2.1 !=e.2.1) then some (x,12) else Option.bind (qgI x.1 p) fun l=>Option.bind (qs l e.2.2.2.2.1) fun b=>bif (!b) then some (x,13) else
    Option.bind (qu x.2.2.1) fun q=>bif (((q.length:Nat):Int)==(400:Int)) then some (x,2) else Option.bind (qas x e.2.2.2.2.1 e.2.2.2.1) fun w=>Option.bind (iterW (qax e) ((),(flatT w.1,()))) fun y=>some (unflat y.2.1,0):=by
  unfold qaF;simp only[qaA,agree_self]
  cases qk x.2.2.1 with
  | none=>rfl
  | some p=>rfl
theorem qvY {r:Rules} {cr:CRule} {m:MS} {e:Ev} (h:MID r cr m e.2.2.2.1) (h0:qR r m.g.1=0):SpecK r cr m e.2.2.2.1 (qtU r cr m e) (qaF (tupM r cr m) e):=by
  have ht:=RG.turn m.g.2.length h.g rfl;have hv:=h.g.ok.last;rw[dm_eq,show(tupM r cr m).2.2.1=(r,(m.g.1,(m.g.2,()))) from rfl,show(tupM r cr m).1=r from rfl,qar h.g.ok,qcH h.g.ok];simp only[Option.bind_some];rw[show(lastP m.g.1).2.2.1=(lastP m.g.1).turn from rfl,ht,qsb hv];simp only[Option.bind_some];rw[qjH _ _ (by have:=qvh hv;omega)];simp only[Option.bind_some];unfold qtU;by_cases c1:par m.g.2.length=e.2.1
  rotate_left
  · rw[if_pos c1,bne_t c1,cond_true];exact SpecK.same h (by decide) rfl
  rw[if_neg (fun q=>q c1),bne_f c1,cond_false];by_cases c2:e.2.2.2.2.1∈openM r (lastP m.g.1)
  rotate_left
  · rw[if_pos c2,decide_eq_false c2,Bool.not_false,cond_true];exact SpecK.same h (by decide) rfl
  rw[if_neg (fun q=>q c2),decide_eq_true c2,Bool.not_true,cond_false];by_cases c3:m.g.2.length=400
  · rw[if_pos c3,c3];exact SpecK.same h (by decide) rfl
  rw[if_neg c3,beq_f (show ¬((m.g.2.length:Nat):Int)=400 by omega),cond_false];have hst:stepG r m.g e.2.2.2.2.1=0:=quH h0 c2 (by have:=h.g.ok.most;omega);rw[qrN h hst,Option.bind_some];obtain⟨l1,l2⟩:=qxa e rfl (m.pm.length+1) _ (qxn h hst) (by show m.pm.length<m.pm.length+1;omega);rw[l1,Option.bind_some];obtain⟨k1,k2⟩:=qxO (r:=r) (cr:=cr) (now:=e.2.2.2.1) (m.pm.length+1) (moveM r cr m e.2.2.2.2.1 e.2.2.2.1);exact SpecK.done (m:=m) l2 k1 k2 rfl
theorem qvl {r:Rules} {cr:CRule} {m:MS} {e:Ev} (h:MID r cr m e.2.2.2.1):SpecK r cr m e.2.2.2.1 (qtG m e) (qaw (tupM r cr m) e):=by
  have hy:qaw (tupM r cr m) e=Option.bind (bif (e.1==(3:Int)) then qaL m.o e.2.2.1 e.2.1 ((m.g.2.length:Nat):Int) else qcI m.o e.2.2.1 e.2.1 ((m.g.2.length:Nat):Int)) fun x=>bif (x.2.1==(0:Int)) then some (tupM r cr { m with o:=x.1 },x.2.1) else some (tupM r cr m,x.2.1):=by
    unfold qaw;simp only[qn,qm,qi,qg,qaA,agree_self,show(tupM r cr m).2.2.1.1=r from rfl,show(tupM r cr m).2.2.1.2.1=m.g.1 from rfl,show(tupM r cr m).2.2.1.2.2.1=m.g.2 from rfl,qcH h.g.ok,Option.bind_some];rw[show(tupM r cr m).2.2.2.1.2.2.2.2.1=m.o from rfl];simp only[qqy,qpG,Option.bind_some,qaA,agree_self];cases (e.1==(3:Int))
    · simp only[cond_false,Option.bind_some]
      cases ((qsd m.o e.2.2.1 e.2.1 ((m.g.2.length:Nat):Int)).2==(0:Int))<;>rfl
    · simp only[cond_true,Option.bind_some]
      cases ((qsa m.o e.2.2.1 e.2.1 ((m.g.2.length:Nat):Int)).2==(0:Int))<;>rfl
  rw[hy];unfold qtG;by_cases c:e.1=3
  · rw[beq_t c,cond_true,if_pos c,qqy,Option.bind_some];simp only;by_cases c1:(qsa m.o e.2.2.1 e.2.1 ((m.g.2.length:Nat):Int)).2=0
    · rw[if_pos c1,beq_t c1,cond_true,c1];refine SpecK.done (m:=m) ?_ (by rfl) (by rfl) (by rfl);exact⟨h.rng,h.len,h.g,h.clk,h.turn,h.pm,h.few⟩
    · rw[if_neg c1,beq_f c1,cond_false];exact SpecK.same h c1 rfl
  · rw[beq_f c,cond_false,if_neg c,qpG,Option.bind_some];simp only;by_cases c1:(qsd m.o e.2.2.1 e.2.1 ((m.g.2.length:Nat):Int)).2=0
    · rw[if_pos c1,beq_t c1,cond_true,c1];refine SpecK.done (m:=m) ?_ (by rfl) (by rfl) (by rfl);exact⟨h.rng,h.len,h.g,h.clk,h.turn,h.pm,h.few⟩
    · rw[if_neg c1,beq_f c1,cond_false];exact SpecK.same h c1 rfl
theorem da_L1 (z:(Int×Int×Unit)×Unit) (i:Int) (g:Game):qbR z ((i,()),(flG g,()))=bif decide (i<z.1.1) then Option.bind (qcW g) fun w=>some (.inl ((w64 (i+1),()),(flG w.1,()))) else some (.inr ((),(flG g,()))):=rfl
theorem quC {r:Rules} (z:(Int×Int×Unit)×Unit) (n:Nat) (hz:z.1.1=(n:Int)) (hn:n≤1000000):∀(k i:Nat) (s:List Place×List Mv),i+k=n→RG r s→k≤s.2.length →
    iterW (qbR z) (((i:Int),()),(flG (gm r s),()))=some ((),(flG (gm r (backN k s)),()))∧RG r (backN k s)
  | 0,i,s,hi,h,hk=>by
    refine⟨qh ?_,h⟩;rw[da_L1,hz,decide_eq_false (by omega),cond_false];rfl
  | k+1,i,s,hi,h,hk=>by
    have ih:=quC z n hz hn k (i+1) (backG s) (by omega) (h.back (by omega)) (by rw[qpq];omega);have hL:=da_L1 z (i:Int) (gm r s);rw[hz,decide_eq_true (by omega),cond_true,show gm r s=(r,(s.1,(s.2,()))) from rfl,back_spec h.ok,if_neg (by omega),Option.bind_some,qe (by omega) (by omega)] at hL;rw[show gm r s=(r,(s.1,(s.2,()))) from rfl,ql hL];exact ih
theorem plies_rng (pl:Int) (n:Nat):0≤qh3 pl (n:Int)∧qh3 pl (n:Int)≤2∧(qh3 pl (n:Int)).toNat≤n:=by
  unfold qh3;generalize (if (0:Int)>(n:Int) then(0:Int) else(n:Int)).tmod 2=t;by_cases c:(if t=pl then(2:Int) else 1)>(n:Int)∨pl≠0∧pl≠1
  · rw[if_pos c];simp
  · rw[if_neg c];have:¬(if t=pl then(2:Int) else 1)>(n:Int):=fun q=>c (.inl q)
    split at this<;>rename_i q
    · rw[if_pos q];omega
    · rw[if_neg q];omega
theorem qvD:∀(k:Nat) (s:List Place×List Mv),(backN k s).2.length=s.2.length-k
  | 0,s=>rfl
  | k+1,s=>by
    show(backN k (backG s)).2.length=_;rw[qvD k,qpq];omega
theorem qrY {r:Rules}:∀(k:Nat) {s:List Place×List Mv},RG r s→k≤s.2.length→qR r s.1=0→qR r (backN k s).1=0
  | 0,s,h,hk,h0=>h0
  | k+1,s,h,hk,h0=>qrY k (h.back (by omega)) (by rw[qpq];omega) (h.back_open (by omega))
theorem qtm {r:Rules} {cr:CRule} {m:MS} {e:Ev} (h:MID r cr m e.2.2.2.1) (h0:qR r m.g.1=0):SpecK r cr m e.2.2.2.1 (qpK m e) (qaH (tupM r cr m) e):=by
  obtain⟨a1,a2⟩:=qyq m.o e.2.2.1 e.2.1 ((m.g.2.length:Nat):Int);unfold qaH;simp only[qaA,agree_self,show(tupM r cr m).2.2.1.1=r from rfl,show(tupM r cr m).2.2.1.2.1=m.g.1 from rfl,show(tupM r cr m).2.2.1.2.2.1=m.g.2 from rfl,qcH h.g.ok,Option.bind_some];rw[show(tupM r cr m).2.2.2.1.2.2.2.2.1=m.o from rfl];simp only[a1,qry,Option.bind_some,qaA,agree_self];unfold qpK;simp only;by_cases c1:(ofAcc m.o e.2.2.1 e.2.1 ((m.g.2.length:Nat):Int)).2=0
  rotate_left
  · rw[if_pos c1,bne_t c1,cond_true];exact SpecK.same h c1 rfl
  rw[if_neg (fun q=>q c1),bne_f c1,cond_false];by_cases c2:e.2.2.1=0
  · rw[if_pos c2,beq_t c2,cond_true];exact⟨rfl,fun q=>absurd rfl q,fun _ q=>(by cases q),h.g,h.pm,⟨rfl,rfl⟩⟩
  rw[if_neg c2,beq_f c2,cond_false];have hpl:w64 (1-e.2.1)=1-e.2.1:=qe (by have:=(a2 c1).2.1;omega) (by have:=(a2 c1).2.1;omega);rw[hpl];obtain⟨p0,p1,p2⟩:=plies_rng (1-e.2.1) m.g.2.length;obtain⟨l1,l2⟩:=quC (r:=r) ((qh3 (1-e.2.1) ((m.g.2.length:Nat):Int),((0:Int),())),()) (qh3 (1-e.2.1) ((m.g.2.length:Nat):Int)).toNat (by simp only;omega) (by omega) _ 0 m.g (Nat.zero_add _) h.g p2;have hbl:=qvD (qh3 (1-e.2.1) ((m.g.2.length:Nat):Int)).toNat m.g;have hbo:=qrY (qh3 (1-e.2.1) ((m.g.2.length:Nat):Int)).toNat h.g p2 h0;generalize (backN (qh3 (1-e.2.1) ((m.g.2.length:Nat):Int)).toNat m.g)=G at *;have ht:=RG.turn G.2.length l2 rfl;obtain⟨f,hf⟩:=qvW (ofAcc m.o e.2.2.1 e.2.1 ((m.g.2.length:Nat):Int)).1 ((G.2.length:Nat):Int)
  have hc:GoodC cr (m.c.1,(m.c.2.1,(m.c.2.2.1,(par G.2.length,(e.2.2.2.1,m.c.2.2.2.2.2))))) e.2.2.2.1:=by
    have hk:=h.clk;have hv:=hk.v;have hs:=hv.since;have:=hk.now0;have hp:=par_rng G.2.length;have hd:=(qlp hk.ok).del;have hv':VC cr (m.c.1,(m.c.2.1,(m.c.2.2.1,(par G.2.length,(e.2.2.2.1,m.c.2.2.2.2.2))))):=⟨hp,hv.fallen,⟨by show 0≤e.2.2.2.1;omega,hk.now1⟩,hv.p0,hv.p1,hv.m0,hv.m1,hv.l0,hv.l1⟩;refine⟨hk.ok,hv',Int.le_refl _,hk.now1,hk.up,hk.run,?_⟩;have hn:=left_nn hv';show max 0 (e.2.2.2.1-e.2.2.2.1-cr.2.2.1)≤_;omega
  refine SpecK.done (m:=m) (m':={ m with g:=G,o:=qxs (ofAcc m.o e.2.2.1 e.2.1 ((m.g.2.length:Nat):Int)).1 ((G.2.length:Nat):Int),c:=(m.c.1,(m.c.2.1,(m.c.2.2.1,(par G.2.length,(e.2.2.2.1,m.c.2.2.2.2.2))))),pm:=[] }) ⟨h.rng,h.len,l2,hc,rfl,rfl,Nat.zero_le _⟩ rfl rfl ?_;refine(congrArg (fun z=>Option.bind z _) l1).trans ?_;rw[Option.bind_some];simp only[flG,gm];rw[qcH l2.ok,Option.bind_some,hf];simp only[Option.bind_some];rw[qar l2.ok,Option.bind_some];simp only[Option.bind_some];rw[show(lastP G.1).2.2.1=(lastP G.1).turn from rfl,ht];rfl
theorem look_rng {cr:CRule} {c:Clk} {last now:Int} (hl:cr.1.length≤9223372036854775807) (h:GoodC cr c last):(lookC cr c now).2.2.2.2.2.2.1≤1:=by
  obtain⟨e,he⟩:=qnX cr c now hl;have hv:=h.v;have hu:=h.up;have h2:=he;unfold qaX at he;rw[qhc cr c hl,Option.bind_some,if_pos h.ok,if_pos ((qs8 cr c).2 hv)] at he;simp only[show((0:Int)!=0)=false from rfl,cond_false] at he;by_cases c1:qf now c.2.2.2.2.1 100000000=true
  · rw[c1,Bool.not_true,cond_false,hu] at he;simp only[show decide ((-1:Int)<0)=true from rfl,Bool.true_and,imp,cond_true] at he;rw[inb_iff.2 (by have:=hv.turn;omega),qc] at he;cases q:decide (qw cr c now>getD' [c.1.1,c.1.2.1] c.2.2.2.1.toNat 0)
    · rw[q] at he;simp only[cond_false,Option.bind_some,Option.some.injEq,Prod.mk.injEq] at he;rw[←he.1];show c.2.2.2.2.2.2.1≤1;omega
    · rw[q] at he;simp only[cond_true,Option.bind_some,qc,Option.some.injEq,Prod.mk.injEq] at he;rw[←he.1];exact hv.turn.2
  · rw[show qf now c.2.2.2.2.1 100000000=false by simpa using c1,Bool.not_false,cond_true] at he;simp only[Option.some.injEq,Prod.mk.injEq] at he;rw[←he.1];show(0:Int)≤1;omega
theorem fall_spec {r:Rules} {p:Place} (hr:Rng qT r) (c:qH r=0) (hv:Valid r p) {pl:Int} (hpl:pl=0∨pl=1):qhs r p pl=some (fallR r p pl,(0,())):=by
  have hn:p.1.length≤9223372036854775807:=by have:=qbw hv;omega
  have w1:w64 ((1:Int)-pl)=1-pl:=qe (by omega) (by omega);have w2:w64 ((2:Int)-pl)=2-pl:=qe (by omega) (by omega)
  have cp':1-pl=0∨1-pl=1:=by omega
  unfold qhs fallR;rw[w1,w2,qrq r p pl hr hn,qrq r p _ hr hn,qs5 c hv];simp only[if_true,if_pos hpl,if_pos cp',Option.bind_some,bne_self_eq_false,cond_false]
  cases ableR r p (1-pl)<;>rfl
theorem qt8 {r:Rules} {cr:CRule} {m:MS} {e:Ev} {last:Int} (hr:Rng qT r) (hl:cr.1.length≤9223372036854775807) (hg:RG r m.g) (hk:GoodC cr m.c last) (hpm:pmErr m.pm=0)
    (hm:¬(e.2.2.1=2)→MID r cr m e.2.2.2.1):SpecK r cr m e.2.2.2.1 (qs4 r cr m e) (qaT (tupM r cr m) e):=by
  have ht:=RG.turn m.g.2.length hg rfl;obtain⟨le,hle⟩:=qnX cr m.c e.2.2.2.1 hl;unfold qaT qs4;by_cases c1:e.2.2.1=2
  · rw[if_pos c1,beq_t c1,cond_true];simp only[show(tupM r cr m).2.1=cr from rfl,show(tupM r cr m).2.2.2.1.2.2.2.1=m.c from rfl];rw[hle,Option.bind_some];simp only;by_cases c2:(lookC cr m.c e.2.2.2.1).2.2.2.2.2.2.1<0
    · rw[if_pos c2,decide_eq_true c2,cond_true];exact⟨rfl,fun _=>rfl,fun q=>(by cases q),hg,hpm,⟨rfl,rfl⟩⟩
    · rw[if_neg c2,decide_eq_false c2,cond_false];have hf:=look_rng (now:=e.2.2.2.1) hl hk;simp only[show(tupM r cr m).2.2.1.1=r from rfl,show(tupM r cr m).2.2.1.2.1=m.g.1 from rfl,show(tupM r cr m).2.2.1.2.2.1=m.g.2 from rfl,show(tupM r cr m).1=r from rfl];rw[qar hg.ok,Option.bind_some];have hfs:=fall_spec (pl:=(lookC cr m.c e.2.2.2.1).2.2.2.2.2.2.1) hr hg.ok.ok hg.ok.last (by omega);rw[quI,hfs,Option.bind_some];refine⟨rfl,fun q=>absurd rfl q,fun _ q=>?_,hg,hpm,⟨rfl,rfl⟩⟩;exfalso;have q':fallR r (lastP m.g.1) (lookC cr m.c e.2.2.2.1).2.2.2.2.2.2.1=0:=q;unfold fallR at q'
      split at q'<;>omega
  · have h:=hm c1;rw[if_neg c1,beq_f c1,cond_false];simp only[qaA,agree_self,show(tupM r cr m).2.2.1.1=r from rfl,show(tupM r cr m).2.2.1.2.1=m.g.1 from rfl,show(tupM r cr m).2.2.1.2.2.1=m.g.2 from rfl,qpR hg.ok,qar hg.ok,Option.bind_some];rw[show(lastP m.g.1).2.2.1=(lastP m.g.1).turn from rfl,ht];have fin:∀b:Bool,(b=true↔(e.2.2.1=0∧3≤qer m.g.1∨e.2.2.1=1∧20≤(lastP m.g.1).quiet))→(e.2.2.1=0∨e.2.2.1=1)→SpecK r cr m e.2.2.2.1
        (if e.2.2.1≠0∧e.2.2.1≠1 then(m,1) else if par m.g.2.length≠e.2.1 then(m,12) else if e.2.2.1=0∧3≤qer m.g.1∨e.2.2.1=1∧20≤(lastP m.g.1).quiet then({ m with res:=3,rea:=5 },0) else(m,10))
        (bif (par m.g.2.length !=e.2.1) then some (tupM r cr m,(12:Int)) else bif (!b) then some (tupM r cr m,10) else some (tupM r cr { m with res:=3,rea:=5 },0)):=by
      intro b hb hn;rw[if_neg (by omega)];by_cases c2:par m.g.2.length=e.2.1
      rotate_left
      · rw[if_pos c2,bne_t c2,cond_true];exact SpecK.same h (by decide) rfl
      rw[if_neg (fun q=>q c2),bne_f c2,cond_false];cases b
      · rw[if_neg (fun q=>by cases hb.2 q)];exact SpecK.same h (by decide) rfl
      · rw[if_pos (hb.1 rfl)];exact⟨rfl,fun q=>absurd rfl q,fun _ q=>(by cases q),h.g,h.pm,⟨rfl,rfl⟩⟩
    by_cases d0:e.2.2.1=0
    · have:=fin (decide (3≤qer m.g.1)) (by rw[decide_eq_true_eq];omega) (.inl d0);simp only[d0,beq_self_eq_true,gopt,cond_true,Option.bind_some,Bool.true_and];simp only[d0] at this;rw[show decide (((qer m.g.1:Nat):Int)≥3)=decide (3≤qer m.g.1) from by congr 1;apply propext;omega];cases hb:decide (3≤qer m.g.1)
      · rw[hb] at this;exact this
      · rw[hb] at this;exact this
    by_cases d1:e.2.2.1=1
    · have:=fin (decide (20≤(lastP m.g.1).quiet)) (by rw[decide_eq_true_eq];omega) (.inr d1);simp only[d1] at this;simp only[d1,show((1:Int)==0)=false from rfl,gopt,cond_false,Option.bind_some,Bool.false_and,beq_self_eq_true,cond_true];exact this
    · rw[if_pos ⟨d0,d1⟩];simp only[beq_f d0,beq_f d1,gopt,cond_false,Option.bind_some,Bool.false_and,bne_t d0,bne_t d1,Bool.and_self,cond_true];exact SpecK.same h (by decide) rfl
theorem pm_add {l:List PM} (h:pmErr l=0) {pl:Int} (hpl:pl=0∨pl=1) (h4:(ofL l pl).length≠4) (x:Mv):pmErr (l++[(pl,(x,()))])=0:=by
  obtain⟨a,b,c⟩:=(qt9 l).1 h;rw[ql8] at h4;rw[qt9];simp only[List.countP_append,List.countP_singleton];rcases hpl with rfl | rfl
  · exact⟨by show _+1≤4;omega,by show _+0≤4;omega,by show _+0=0;omega⟩
  · exact⟨by show _+0≤4;omega,by show _+1≤4;omega,by show _+0=0;omega⟩
theorem qq9 {r:Rules} {cr:CRule} {m:MS} {e:Ev} (h:MID r cr m e.2.2.2.1) (hp:e.2.1=0∨e.2.1=1):SpecK r cr m e.2.2.2.1 (qn3 m e) (qay (tupM r cr m) e):=by
  have ht:=RG.turn m.g.2.length h.g rfl;unfold qay qn3;simp only[qaA,agree_self,show(tupM r cr m).2.2.1.1=r from rfl,show(tupM r cr m).2.2.1.2.1=m.g.1 from rfl,show(tupM r cr m).2.2.1.2.2.1=m.g.2 from rfl,qar h.g.ok,Option.bind_some];rw[show(lastP m.g.1).2.2.1=(lastP m.g.1).turn from rfl,ht];by_cases c1:par m.g.2.length=e.2.1
  · rw[if_pos c1,beq_t c1,cond_true];exact SpecK.same h (by decide) rfl
  rw[if_neg c1,beq_f c1,cond_false,show(tupM r cr m).2.2.2.1.2.2.2.2.2.1=m.pm from rfl,addP_spec m.pm (by have:=h.few;omega),if_neg (show ¬(pmErr m.pm≠0) from fun q=>q h.pm),if_neg (show ¬(e.2.1≠0∧e.2.1≠1) by omega),Option.bind_some];by_cases c2:(ofL m.pm e.2.1).length=4
  · rw[if_pos c2,if_pos c2];exact SpecK.same h (by decide) rfl
  · rw[if_neg c2,if_neg c2];have hq:=pm_add h.pm hp c2 e.2.2.2.2.1;refine SpecK.done (m:=m) ?_ (by rfl) (by rfl) (by rfl);exact⟨h.rng,h.len,h.g,h.clk,h.turn,hq,pm_len hq⟩
theorem kind_spec {r:Rules} {cr:CRule} {m:MS} {e:Ev} {last:Int} (hr:Rng qT r) (hl:cr.1.length≤9223372036854775807) (hg:RG r m.g) (hk:GoodC cr m.c last) (hpm:pmErr m.pm=0) (hp:e.2.1=0∨e.2.1=1) (h0:qR r m.g.1=0)
    (h6:0≤e.1∧e.1≤6) (hm:¬(e.1=4∨e.1=5∧e.2.2.1=2)→MID r cr m e.2.2.2.1):SpecK r cr m e.2.2.2.1 (kindM r cr m e) (qci (tupM r cr m) e):=by
  have hy:qci (tupM r cr m) e=if e.1=0 then qaF (tupM r cr m) e else if e.1=1∨e.1=3 then qaw (tupM r cr m) e else if e.1=2 then qaH (tupM r cr m) e else if e.1=5 then qaT (tupM r cr m) e
      else if e.1=6 then qay (tupM r cr m) e else some (tupM r cr { m with res:=2-e.2.1,rea:=3 },0):=by
    have w:w64 (2-e.2.1)=2-e.2.1:=qe (by omega) (by omega)
    have et:∀y:Option (qji×Int),(Option.bind y fun r6=>some ((r6.1.1,(r6.1.2.1,((r6.1.2.2.1.1,(r6.1.2.2.1.2.1,(r6.1.2.2.1.2.2.1,()))),r6.1.2.2.2))),r6.2))=y:=fun y=>by cases y<;>rfl
    unfold qci;by_cases c0:e.1=0
    · rw[if_pos c0,beq_t c0,cond_true];exact et _
    rw[if_neg c0,beq_f c0,cond_false];by_cases c1:e.1=1
    · rw[if_pos (.inl c1),beq_t c1];exact et _
    rw[beq_f c1,cond_false];by_cases c3:e.1=3
    · rw[if_pos (.inr c3),beq_t c3];exact et _
    rw[if_neg (by omega),beq_f c3,Option.bind_some];simp only[cond_false];by_cases c2:e.1=2
    · rw[if_pos c2,beq_t c2,cond_true];exact et _
    rw[if_neg c2,beq_f c2,cond_false];by_cases c5:e.1=5
    · rw[if_pos c5,beq_t c5,cond_true];exact et _
    rw[if_neg c5,beq_f c5,cond_false];by_cases c6:e.1=6
    · rw[if_pos c6,beq_t c6,cond_true];exact et _
    rw[if_neg c6,beq_f c6,cond_false,w];rfl
  rw[hy];unfold kindM;by_cases c0:e.1=0
  · rw[if_pos c0,if_pos c0];exact qvY (hm (by omega)) h0
  rw[if_neg c0,if_neg c0];by_cases c1:e.1=1∨e.1=3
  · rw[if_pos c1,if_pos c1];exact qvl (hm (by omega))
  rw[if_neg c1,if_neg c1];by_cases c2:e.1=2
  · rw[if_pos c2,if_pos c2];exact qtm (hm (by omega)) h0
  rw[if_neg c2,if_neg c2];by_cases c5:e.1=5
  · rw[if_pos c5,if_pos c5];exact qt8 hr hl hg hk hpm (fun q=>hm (by omega))
  rw[if_neg c5,if_neg c5];by_cases c6:e.1=6
  · rw[if_pos c6,if_pos c6];exact qq9 (hm (by omega)) hp
  rw[if_neg c6,if_neg c6];exact⟨rfl,fun q=>absurd rfl q,fun _ q=>absurd q (by show ¬(2-e.2.1=0);omega),hg,hpm,⟨rfl,rfl⟩⟩
theorem qui {r:Rules} {cr:CRule} {m:MS} (hg:RG r m.g):qbm (tupM r cr m)=some (tupM r cr (overM r m),()):=by
  unfold qbm overM;simp only[show(tupM r cr m).2.2.1.1=r from rfl,show(tupM r cr m).2.2.1.2.1=m.g.1 from rfl,show(tupM r cr m).2.2.1.2.2.1=m.g.2 from rfl,qfT hg.ok,Option.bind_some,show(tupM r cr m).2.2.2.1.2.1=m.res from rfl];by_cases c:m.res=0
  · by_cases d:qR r m.g.1=0
    · rw[if_neg (fun q=>q.2 d),beq_t c,bne_f d];rfl
    · rw[if_pos ⟨c,d⟩,beq_t c,bne_t d];rfl
  · rw[if_neg (fun q=>c q.1),beq_f c];rfl
theorem qvp (r:Rules) (m:MS):(overM r m).g=m.g∧(overM r m).pm=m.pm∧(overM r m).j=m.j∧(overM r m).last=m.last:=by
  unfold overM
  split<;>exact⟨rfl,rfl,rfl,rfl⟩
theorem do_spec {r:Rules} {cr:CRule} {m:MS} (h:MOK r cr m) {e:Ev} (he:EvR e):qfN (tupM r cr m) e=some (tupM r cr (doM r cr m e).1,(doM r cr m e).2)∧MOK r cr (doM r cr m e).1:=by
  have et:(tupM r cr m)=((tupM r cr m).1,((tupM r cr m).2.1,(((tupM r cr m).2.2.1.1,((tupM r cr m).2.2.1.2.1,((tupM r cr m).2.2.1.2.2.1,()))),(tupM r cr m).2.2.2))):=rfl;obtain⟨le,hle⟩:=qnX cr m.c e.2.2.2.1 h.len;unfold qfN doM;rw[←et];simp only[show(tupM r cr m).2.1=cr from rfl,show(tupM r cr m).2.2.2.1.2.1=m.res from rfl,show(tupM r cr m).2.2.2.1.2.2.2.1=m.c from rfl,show(tupM r cr m).2.2.2.2.1=m.last from rfl,show(tupM r cr m).2.2.2.2.2.1=m.j from rfl];by_cases c1:(e.1<0∨6<e.1)∨(e.2.1≠0∧e.2.1≠1)
  · rw[if_pos c1,show(((decide (e.1<(0:Int)))||(decide (e.1>(6:Int))))||((e.2.1 !=(0:Int))&&(e.2.1 !=(1:Int))))=true by
      simp only[bneI,Bool.or_eq_true,Bool.and_eq_true,decide_eq_true_eq];omega,cond_true]
    exact⟨rfl,h⟩
  rw[if_neg c1,show(((decide (e.1<(0:Int)))||(decide (e.1>(6:Int))))||((e.2.1 !=(0:Int))&&(e.2.1 !=(1:Int))))=false by
      rw[Bool.eq_false_iff];intro q;simp only[bneI,Bool.or_eq_true,Bool.and_eq_true,decide_eq_true_eq] at q;omega,cond_false]
  by_cases c2:e.2.2.2.1<m.last∨100000000<e.2.2.2.1
  · rw[if_pos c2,show((decide (e.2.2.2.1<m.last))||(decide (e.2.2.2.1>(100000000:Int))))=true by simp only[Bool.or_eq_true,decide_eq_true_eq];omega,cond_true];exact⟨rfl,h⟩
  rw[if_neg c2,show((decide (e.2.2.2.1<m.last))||(decide (e.2.2.2.1>(100000000:Int))))=false by rw[Bool.eq_false_iff];intro q;simp only[Bool.or_eq_true,decide_eq_true_eq] at q;omega,cond_false];by_cases c3:m.res=0
  rotate_left
  · rw[if_pos c3,bne_t c3,cond_true];exact⟨rfl,h⟩
  rw[if_neg (fun q=>q c3),bne_f c3,cond_false];by_cases c4:m.j.length=1000
  · rw[if_pos c4,c4];exact⟨rfl,h⟩
  rw[if_neg c4,beq_f (show ¬((m.j.length:Nat):Int)=1000 by omega),cond_false,hle,Option.bind_some];simp only;have hk:=h.clk c3;by_cases c5:(0≤(lookC cr m.c e.2.2.2.1).2.2.2.2.2.2.1∧e.1≠4)∧¬(e.1=5∧e.2.2.1=2)
  · rw[if_pos c5,show(((decide ((lookC cr m.c e.2.2.2.1).2.2.2.2.2.2.1≥(0:Int)))&&(e.1 !=(4:Int)))&&(!((e.1==(5:Int))&&(e.2.2.1==(2:Int)))))=true by
      simp only[bneI,Bool.and_eq_true,decide_eq_true_eq,Bool.not_eq_true',←Bool.not_eq_true,beq_iff_eq];exact c5,cond_true]
    exact⟨rfl,h⟩
  rw[if_neg c5,show(((decide ((lookC cr m.c e.2.2.2.1).2.2.2.2.2.2.1≥(0:Int)))&&(e.1 !=(4:Int)))&&(!((e.1==(5:Int))&&(e.2.2.1==(2:Int)))))=false by
      rw[Bool.eq_false_iff];intro q;simp only[bneI,Bool.and_eq_true,decide_eq_true_eq,Bool.not_eq_true',←Bool.not_eq_true,beq_iff_eq] at q;exact c5 q,cond_false]
  have hs:=kind_spec (e:=e) h.rng h.len h.g hk h.pm (by omega) (h.opn c3) (by omega) (fun q=>by
    have hf:(lookC cr m.c e.2.2.2.1).2.2.2.2.2.2.1<0:=by
      by_cases q1:e.1=4
      · exact absurd (.inl q1) q
      · by_cases q2:e.1=5∧e.2.2.1=2
        · exact absurd (.inr q2) q
        · have:=fun a=>c5 ⟨⟨a,q1⟩,q2⟩;omega
    exact⟨h.rng,h.len,h.g,good_of h.len hle hf hk.run,h.turn c3,h.pm,h.few⟩)
  obtain⟨s1,s2,s3,s4,s5,s6⟩:=hs;rw[s1,Option.bind_some];by_cases c6:(kindM r cr m e).2=0
  rotate_left
  · rw[if_pos c6,bne_t c6,cond_true,s2 c6];exact⟨rfl,h⟩
  rw[if_neg (fun q=>q c6),bne_f c6,cond_false];simp only[show(tupM r cr (kindM r cr m e).1).2.2.2.2.2.1=(kindM r cr m e).1.j from rfl]
  have hj:JOK (kindM r cr m e).1.j:=by rw[s6.2];exact h.j
  obtain⟨j1,j2⟩:=qr1 hj (by rw[s6.2];have:=h.j.1;omega) (entry_ok e he);rw[qya e he,Option.bind_some,j1,Option.bind_some];have ho:=qui (r:=r) (cr:=cr) (m:={ (kindM r cr m e).1 with last:=e.2.2.2.1,j:=nextJ (kindM r cr m e).1.j (qiT e) }) s4;rw[show((tupM r cr (kindM r cr m e).1).1,((tupM r cr (kindM r cr m e).1).2.1,(((tupM r cr (kindM r cr m e).1).2.2.1.1,((tupM r cr (kindM r cr m e).1).2.2.1.2.1,((tupM r cr (kindM r cr m e).1).2.2.1.2.2.1,()))),((tupM r cr (kindM r cr m e).1).2.2.2.1,(e.2.2.2.1,(nextJ (kindM r cr m e).1.j (qiT e),()))))))=tupM r cr { (kindM r cr m e).1 with last:=e.2.2.2.1,j:=nextJ (kindM r cr m e).1.j (qiT e) } from rfl,ho,Option.bind_some];refine⟨rfl,?_⟩;show MOK r cr (doneM r (kindM r cr m e).1 e);unfold doneM
  have hg':∀x:MS,(overM r x).g=x.g∧(overM r x).c=x.c∧(overM r x).pm=x.pm∧(overM r x).j=x.j∧(overM r x).last=x.last∧((overM r x).res=0→x.res=0∧qR r x.g.1=0):=fun x=>by
    unfold overM;split
    · rename_i q;exact⟨rfl,rfl,rfl,rfl,rfl,fun z=>absurd z q.2⟩
    · rename_i q
      exact⟨rfl,rfl,rfl,rfl,rfl,fun z=>⟨z,by
        by_cases w:qR r x.g.1=0
        · exact w
        · exact absurd ⟨z,w⟩ q⟩⟩
  obtain⟨g1,g2,g3,g4,g5,g6⟩:=hg' { (kindM r cr m e).1 with last:=e.2.2.2.1,j:=nextJ (kindM r cr m e).1.j (qiT e) };refine⟨h.rng,h.len,by rw[g1];exact s4,h.cok,fun q=>?_,fun q=>?_,fun q=>?_,by rw[g3];exact s5,by rw[g3];exact pm_len s5,by rw[g4];exact j2⟩
  · rw[g2,g5];exact(s3 c6 (g6 q).1).clk
  · rw[g1,g2];exact(s3 c6 (g6 q).1).turn
  · rw[g1];exact(g6 q).2

noncomputable def startC (cr:CRule) (now:Int):Clk:=(((perAt cr 0).2.1,((perAt cr 0).2.1,())),((0,(0,())),((0,(0,())),(0,(now,(false,(-1,())))))))
theorem qyD (cr:CRule) (now:Int) (hl:cr.1.length≤9223372036854775807):qg5 cr now=some (if chkC cr=0 then if 0≤now∧now≤100000000 then(startC cr now,(0,())) else(dClk,(11,())) else(dClk,(chkC cr,()))):=by
  unfold qg5;rw[qqC cr hl,Option.bind_some];by_cases c:chkC cr=0
  · rw[if_pos c,bne_f c,cond_false];have hcr:=qlp c;have hw:qf now 0 100000000=decide (0≤now∧now≤100000000):=by
      rw[Bool.eq_iff_iff,qdC,decide_eq_true_eq]
    rw[hw];by_cases d:0≤now∧now≤100000000
    · rw[if_pos d,decide_eq_true d,Bool.not_true,cond_false,(qko hcr (k:=0) (by omega) (by have:=hcr.len;omega)).1,Option.bind_some];rfl
    · rw[if_neg d,decide_eq_false d];rfl
  · rw[if_neg c,bne_t c,cond_true];rfl
theorem qyx {cr:CRule} (h:chkC cr=0):qjy cr=some cr:=by
  have hcr:=(qlp h).len;unfold qjy;have:qaq cr.1=some cr.1:=by
    unfold qaq;have hr:room (([]:List (Int×Int×Unit)).length+cr.1.length) 16=true:=qI (by simp only[List.length_nil];omega);rw[hr]
    cases cr.1 with
    | nil=>simp[qc,agree_self]
    | cons a l=>simp[qc]
  rw[this,Option.bind_some]
theorem qrt {cr:CRule} {now:Int} (c:chkC cr=0) (h:0≤now∧now≤100000000):GoodC cr (startC cr now) now:=by
  have hcr:=qlp c;have hlen:=hcr.len;have hd:=hcr.del;obtain⟨_,_,h2,_⟩:=qko hcr (k:=0) (by omega) (by omega)
  have hv:VC cr (startC cr now):=⟨⟨Int.le_refl _,by show(0:Int)≤1;omega⟩,⟨Int.le_refl _,by show(-1:Int)≤1;omega⟩,h,⟨Int.le_refl _,by show(0:Int)≤_;omega⟩,⟨Int.le_refl _,by show(0:Int)≤_;omega⟩,
    ⟨Int.le_refl _,by show(0:Int)≤400;omega⟩,⟨Int.le_refl _,by show(0:Int)≤400;omega⟩,⟨by show 0≤(perAt cr 0).2.1;omega,by show(perAt cr 0).2.1≤_;omega⟩,⟨by show 0≤(perAt cr 0).2.1;omega,by show(perAt cr 0).2.1≤_;omega⟩⟩
  refine⟨c,hv,Int.le_refl _,h.2,rfl,rfl,?_⟩;have hn:=left_nn hv;show max 0 (now-now-cr.2.2.1)≤_;omega
def startB:ByteArray:=ByteArray.mk #[115,116,97,114,116,32]
def qmn (now:Int):ByteArray:=startB++numS now
theorem qsc {n:Int} (h:I64 n):(qmn n).size≤27∧qam startB (numS n)=true:=by
  have h1:=qwN h;have h2:startB.size=6:=rfl;refine⟨by unfold qmn;rw[ByteArray.size_append];omega,?_⟩;unfold qam;rw[Nat.ble_eq];omega
theorem start_okt {n:Int} (h:I64 n):OKT (qmn n):=by
  refine⟨by have:=(qsc h).1;omega,fun c hc=>?_⟩;unfold qmn at hc;rw[qqt] at hc;rcases List.mem_append.1 hc with hc | hc
  · have:c∈[115,116,97,114,116,32]:=hc;simp only[List.mem_cons,List.not_mem_nil,or_false] at this
    rcases this with rfl | rfl | rfl | rfl | rfl | rfl<;>decide
  · have:=num_mem n c hc;omega
theorem jok_nil:JOK []:=⟨Nat.zero_le _,fun i hi=>absurd hi (Nat.not_lt_zero _)⟩
theorem qoM {n:Int} (h:I64 n):qa5 [] (qmn n)=some (nextJ [] (qmn n),(0,()))∧JOK (nextJ [] (qmn n)):=qr1 jok_nil (Nat.zero_lt_succ _) (start_okt h)
def off0:Offs:=((-1,(-1,())),(((-1,(-1,())),((-1,(-1,())),())),()))
noncomputable def rawM (r:Rules) (cr:CRule) (now:Int):MS:={ g:=([qq r],[]),res:=0,rea:=0,c:=startC cr now,o:=off0,pm:=[],last:=now,j:=nextJ [] (qmn now) }
noncomputable def newM (r:Rules) (cr:CRule) (now:Int):MS:=overM r (rawM r cr now)
theorem new_over {r:Rules} {cr:CRule} {now:Int} (c:qH r=0):qbm (tupM r cr (rawM r cr now))=some (tupM r cr (newM r cr now),()):=qui (RG.begin c)
theorem over_ok {r:Rules} {m:MS}:(overM r m).c=m.c∧(overM r m).o=m.o∧((overM r m).res=0→m.res=0∧qR r m.g.1=0):=by
  unfold overM;split
  · rename_i q;exact⟨rfl,rfl,fun z=>absurd z q.2⟩
  · rename_i q
    exact⟨rfl,rfl,fun z=>⟨z,by
      by_cases w:qR r m.g.1=0
      · exact w
      · exact absurd ⟨z,w⟩ q⟩⟩
theorem new_mok {r:Rules} {cr:CRule} {now:Int} (hr:Rng qT r) (hl:cr.1.length≤9223372036854775807) (c:qH r=0) (c1:chkC cr=0) (h:0≤now∧now≤100000000):MOK r cr (newM r cr now):=by
  obtain⟨g1,g2,g3,g4⟩:=qvp r (rawM r cr now);obtain⟨g5,g6,g7⟩:=over_ok (r:=r) (m:=rawM r cr now);unfold newM;refine⟨hr,hl,by rw[g1];exact RG.begin c,c1,fun q=>?_,fun q=>?_,fun q=>?_,by rw[g2];rfl,by rw[g2];exact Nat.zero_le _,by rw[g3];exact(qoM ⟨by omega,by omega⟩).2⟩
  · rw[g5,g4];exact qrt c1 h
  · rw[g5,g1];rfl
  · rw[g1];exact(g7 q).2

theorem look_same {cr:CRule} {c:Clk} {now:Int} (hl:cr.1.length≤9223372036854775807) (h:GoodC cr c now):lookC cr c now=c:=by
  unfold lookC;rw[qtZ hl h];rfl
theorem ann_nil {r:Rules} {cr:CRule} {now:Int} {m:MS} (h:m.pm=[]):annM r cr now 1 m=m:=by
  unfold annM;have hn:∀p:Place,nextP r p []=((0,(0,(0,()))),(false,([],()))):=fun p=>rfl;rw[h,hn];split
  · rw[if_neg (by decide)];cases m;simp only at h;rw[h]
  · rfl
structure Moved (r:Rules) (cr:CRule) (m:MS) (x:Mv) (now:Int) (y:MS×Int):Prop where
  ok:y.2=0
  g:y.1.g=nextG r m.g x
  c:y.1.c=qgl cr m.c now
  pm:y.1.pm=[]
  last:y.1.last=now
  j:y.1.j.length=m.j.length+1
  res:y.1.res=qR r (nextG r m.g x).1
theorem do_moved {r:Rules} {cr:CRule} {m:MS} (h:MOK r cr m) {e:Ev} (h0:m.res=0) (h1:e.1=0) (h2:e.2.1=par m.g.2.length) (h3:m.last≤e.2.2.2.1) (hj:m.j.length<1000) (hg:GoodC cr m.c e.2.2.2.1)
    (hx:qE r (lastP m.g.1) e.2.2.2.2.1=true) (hl:m.g.2.length<400) (hpm:m.pm=[]):Moved r cr m e.2.2.2.2.1 e.2.2.2.1 (doM r cr m e):=by
  have hp:=par_rng m.g.2.length;have hn:=hg.now1;have ho:=h.opn h0
  have hmem:e.2.2.2.2.1∈openM r (lastP m.g.1):=openM_mem.2 ⟨by
    unfold qR at ho;by_cases w:((qc3 r (lastP m.g.1)==0)&&(r.repeats !=0))&&decide (((qer m.g.1:Nat):Int)≥r.repeats)
    · rw[w,cond_true] at ho;cases ho
    · rw[show(((qc3 r (lastP m.g.1)==0)&&(r.repeats !=0))&&decide (((qer m.g.1:Nat):Int)≥r.repeats))=false by simpa using w,cond_false] at ho
      exact ho,hx⟩
  have hk:kindM r cr m e=(moveM r cr m e.2.2.2.2.1 e.2.2.2.1,0):=by
    unfold kindM qtU;rw[if_pos h1,if_neg (fun q=>q h2.symm),if_neg (fun q=>q hmem),if_neg (by omega),hpm];rw[show([]:List PM).length+1=1 from rfl,ann_nil (by exact hpm)]
  have hd:doM r cr m e=(doneM r (moveM r cr m e.2.2.2.2.1 e.2.2.2.1) e,0):=by
    unfold doM;rw[if_neg (by omega),if_neg (by omega),if_neg (fun q=>q h0),if_neg (by omega),look_same h.len hg,if_neg (by have:=hg.up;omega),hk,if_neg (fun q=>q rfl)]
  rw[hd];unfold doneM;obtain⟨g1,g2,g3,g4⟩:=qvp r { moveM r cr m e.2.2.2.2.1 e.2.2.2.1 with last:=e.2.2.2.1,j:=nextJ (moveM r cr m e.2.2.2.2.1 e.2.2.2.1).j (qiT e) };refine⟨rfl,g1,over_ok.1,by rw[g2];exact hpm,g4,by rw[g3];unfold nextJ;simp;rfl,?_⟩;unfold overM;split
  · rfl
  · rename_i q;by_cases w:qR r (nextG r m.g e.2.2.2.2.1).1=0
    · rw[w];exact h0
    · exact absurd ⟨h0,w⟩ q

theorem qwc {r:Rules} {cr:CRule} {m:MS} (h:MOK r cr m):qu (r,(m.g.1,(m.g.2,())))=some m.g.2∧qA m.pm=some m.pm:=⟨qcH h.g.ok,qwa m.pm (by have:=h.few;omega)⟩
def demoX:Rec:=([],(ByteArray.mk #[],([(-1,((-1,(4,(0,()))),(ByteArray.mk #[],())))],(0,()))))
theorem demoX_rng:Rng tyRec demoX:=qlE _ _ (by decide +kernel)
theorem demoX_ok:qgi gamehalltopH10Tic demoX=0:=by decide +kernel
theorem qgT:Rng qT gamehalltopH10Tic:=qlE _ _ (by decide +kernel)
theorem qd7:qH gamehalltopH10Tic=0:=by decide +kernel
theorem qrQ:VR0 gamehalltopH10Tic:=qaQ qd7
abbrev demoM:Mv:=(-1,(4,(0,())))
abbrev demoT:ByteArray:=ByteArray.mk #[83,64,98,50]
theorem qvy:qE gamehalltopH10Tic (qq gamehalltopH10Tic) demoM=true:=by decide +kernel
theorem demo_of (p:Place) (l:List Mv):qjY gamehalltopH10Tic p l demoM=some demoT:=by
  unfold qjY;rw[show decide ((demoM.1:Int)<0)=true from rfl,cond_true];decide +kernel
theorem demo_one:qaU (gamehalltopH10Tic,(demoX,())) (qq gamehalltopH10Tic) 0=some ((gamehalltopH10Tic,(demoX,())),[demoT]):=by
  have hv:=qe7 qrQ;unfold qaU;have ha:at? demoX.2.2.1 0=some (-1,(demoM,(ByteArray.mk #[],()))):=rfl;simp only[qsA,quI,qjp hv,Option.bind_some,ha,demo_of,qaA,agree_self];rw[show(!((ByteArray.mk #[]).toList==(ByteArray.mk #[]).toList))=false by decide +kernel,cond_false,Option.bind_some]
theorem demo_kids:qdy demoX (-1)=some [0]:=by
  rw[qp0 demoX (-1) (by decide)];rfl
theorem qx3:qdy demoX 0=some []:=by
  rw[qp0 demoX 0 (by decide)];rfl
theorem qxZ:qdx (gamehalltopH10Tic,(demoX,())) (qq gamehalltopH10Tic) (-1)=some ((gamehalltopH10Tic,(demoX,())),[demoT]):=by
  have hv:=qe7 qrQ;refine fixW_ind qij (fun x=>x=((gamehalltopH10Tic,(demoX,())),qq gamehalltopH10Tic,(-1:Int),())∨x=((gamehalltopH10Tic,(demoX,())),qjc gamehalltopH10Tic (qq gamehalltopH10Tic) demoM,(0:Int),())) (fun x=>bif x.2.2.1==0 then 0 else 1) (fun x=>((gamehalltopH10Tic,(demoX,())),bif x.2.2.1==0 then [] else [demoT])) ?_ _ (.inl rfl)
  rintro φ x (rfl | rfl) hI
  · have hs:=hI _ (.inr rfl) (by decide);show qac φ (gamehalltopH10Tic,(demoX,())) (qq gamehalltopH10Tic) (-1)=_;unfold qac;have ha:at? demoX.2.2.1 0=some (-1,(demoM,(ByteArray.mk #[],()))):=rfl;simp only[qsA,demo_kids,Option.bind_some];rw[show((((([0]:List Int).length:Nat):Int))==0)=false from rfl,cond_false];rw[show inb 0 ([0]:List Int).length=true from rfl,qc,show getD' ([0]:List Int) 0 0=0 from rfl,demo_one,Option.bind_some];rw[show qo 1 (((([0]:List Int).length:Nat):Int)) ([0]:List Int).length=true from rfl,qc]
    rw[qh (r:=(([demoT],()),((gamehalltopH10Tic.1,(gamehalltopH10Tic.2.1,(gamehalltopH10Tic.2.2.1,(gamehalltopH10Tic.2.2.2.1,(gamehalltopH10Tic.2.2.2.2.1,(gamehalltopH10Tic.2.2.2.2.2.1,(gamehalltopH10Tic.2.2.2.2.2.2.1,(gamehalltopH10Tic.2.2.2.2.2.2.2.1,(gamehalltopH10Tic.2.2.2.2.2.2.2.2.1,(gamehalltopH10Tic.2.2.2.2.2.2.2.2.2.1,(gamehalltopH10Tic.2.2.2.2.2.2.2.2.2.2.1,demoX))))))))))),()))) rfl,Option.bind_some];simp only[qc,qsA,quI,ha,Option.bind_some,qmu hv qvy,hs,qaA,agree_self];rfl
  · show qac φ (gamehalltopH10Tic,(demoX,())) (qjc gamehalltopH10Tic (qq gamehalltopH10Tic) demoM) 0=_;unfold qac;simp only[qsA,qx3,Option.bind_some];rfl
theorem demo_text:qgN gamehalltopH10Tic demoX=some (ByteArray.mk #[83,64,98,50,32,42,10],(0,())):=by
  unfold qgN;rw[qk7 qgT demoX demoX_rng (by decide),demoX_ok,Option.bind_some];rw[show((0:Int)!=0)=false from rfl,cond_false];rw[qh (r:=((),(([]:List Int),()))) rfl,Option.bind_some];rw[show(!(demoX.2.1.toList==(ByteArray.mk #[]).toList))=false by decide +kernel,cond_false,Option.bind_some];rw[qeZ _ qgT,if_pos qd7,Option.bind_some];simp only[quI,qxZ,Option.bind_some,qaA,agree_self];decide +kernel
theorem qyp (l:Jn) (s:ByteArray):(nextJ l s).length=l.length+1:=by unfold nextJ;simp
def evP:Ev:=(0,(0,(0,(10,((-1,(4,(0,()))),())))))
theorem qiL:chkC gamehalltopH10Minute=0:=by decide +kernel
theorem plays_M:(doM gamehalltopH10Tic gamehalltopH10Minute (newM gamehalltopH10Tic gamehalltopH10Minute 0) evP).2=0∧(doM gamehalltopH10Tic gamehalltopH10Minute (newM gamehalltopH10Tic gamehalltopH10Minute 0) evP).1.g.2.length=1∧(doM gamehalltopH10Tic gamehalltopH10Minute (newM gamehalltopH10Tic gamehalltopH10Minute 0) evP).1.c.1.1=60990:=by
  have hm:=new_mok (cr:=gamehalltopH10Minute) (now:=0) qgT (by decide) qd7 qiL ⟨by decide,by decide⟩
  have h0:qR gamehalltopH10Tic [qq gamehalltopH10Tic]=0:=by decide +kernel
  have hn:newM gamehalltopH10Tic gamehalltopH10Minute 0=rawM gamehalltopH10Tic gamehalltopH10Minute 0:=by
    unfold newM overM;rw[if_neg (fun q=>q.2 h0)]
  rw[hn] at hm ⊢;have hg:GoodC gamehalltopH10Minute (rawM gamehalltopH10Tic gamehalltopH10Minute 0).c 10:=by
    have:=qrt (cr:=gamehalltopH10Minute) (now:=0) qiL ⟨by decide,by decide⟩;refine⟨this.ok,this.v,?_,by decide,this.up,this.run,?_⟩
    · show(0:Int)≤10;decide
    · show max 0 ((10:Int)-0-gamehalltopH10Minute.2.2.1)≤leftT (startC gamehalltopH10Minute 0);decide +kernel
  have:=do_moved hm (e:=evP) rfl rfl rfl (by show(0:Int)≤10;decide) (by show(nextJ [] (qmn 0)).length<1000;rw[qyp];decide) hg (by decide +kernel) (by decide) rfl;refine⟨this.ok,?_,?_⟩
  · rw[this.g];rfl
  · rw[this.c];show(qgl gamehalltopH10Minute (startC gamehalltopH10Minute 0) 10).1.1=60990;decide +kernel
theorem qyM:qa9=some true:=by
  have hm:=new_mok (cr:=gamehalltopH10Minute) (now:=0) qgT (by decide) qd7 qiL ⟨by decide,by decide⟩;have z64:I64 0:=⟨by decide,by decide⟩;have he:EvR evP:=⟨z64,z64,z64,⟨by decide,by decide⟩,⟨by decide,by decide⟩,⟨by decide,by decide⟩,⟨by decide,by decide⟩⟩;obtain⟨d1,d2⟩:=do_spec hm he;obtain⟨e1,e2⟩:=qwc d2;obtain⟨p1,p2,p3⟩:=plays_M;unfold qa9;simp only[qaA,agree_self];refine(congrArg (fun z=>Option.bind z _) (qeZ gamehalltopH10Tic qgT)).trans ?_;rw[if_pos qd7,Option.bind_some];simp only[bne_self_eq_false,cond_false];refine(congrArg (fun z=>Option.bind (Option.bind z _) _) (qnY (qaQ qd7))).trans ?_;rw[Option.bind_some,Option.bind_some];simp only[bne_self_eq_false,cond_false]
  refine(congrArg (fun z=>Option.bind z _) (qyD gamehalltopH10Minute 0 (by decide))).trans ?_;rw[if_pos qiL,if_pos ⟨by decide,by decide⟩,Option.bind_some];simp only[bne_self_eq_false,cond_false];refine(congrArg (fun z=>Option.bind z _) (qnY (qaQ qd7))).trans ?_;rw[Option.bind_some];refine(congrArg (fun z=>Option.bind z _) (qyx qiL)).trans ?_;rw[Option.bind_some];refine(congrArg (fun z=>Option.bind z _) (qxK z64)).trans ?_;rw[Option.bind_some];rw[show qam (ByteArray.mk #[115,116,97,114,116,32]) (numS 0)=true from(qsc z64).2,qc];refine(congrArg (fun z=>Option.bind z _) (qoM z64).1).trans ?_;rw[Option.bind_some];refine(congrArg (fun z=>Option.bind z _) (new_over (r:=gamehalltopH10Tic) (cr:=gamehalltopH10Minute) (now:=0) qd7)).trans ?_
  rw[Option.bind_some];refine(congrArg (fun z=>Option.bind z _) d1).trans ?_;rw[Option.bind_some];refine(congrArg (fun z=>Option.bind (Option.bind z _) _) demo_text).trans ?_;rw[Option.bind_some,Option.bind_some];simp only[p1,beq_self_eq_true,cond_true];refine(congrArg (fun z=>Option.bind (Option.bind z _) _) e1).trans ?_;rw[Option.bind_some];refine(congrArg (fun z=>Option.bind (Option.bind z _) _) e2).trans ?_;rw[Option.bind_some,Option.bind_some,p2];decide +kernel

theorem qpx {b:List BE} (hw:OKW b) (hs:Srt' b):chkB b=0:=by
  unfold chkB qaO;have:∀(k i:Nat),i+k=b.length→scan (fun i=>nz (errB b i)) 0 i k=0:=by
    intro k
    induction k with
    | zero=>intro i _;rfl
    | succ k ih =>
      intro i hi
      have hil:i<b.length:=by omega
      have h0:errB b i=0:=by
        unfold errB;rw[qdm b i hil];have h1:=hw b[i] (List.getElem_mem hil);have h2:bad4 b[i]=false:=by
          unfold bad4;simp only[Bool.or_eq_false_iff,decide_eq_false_iff_not];omega
        rw[h2];simp only[Bool.false_eq_true,if_false];by_cases c:0<i
        · rw[qdm b (i-1) (by omega),List.pairwise_iff_getElem.1 hs (i-1) i (by omega) hil (by omega)];simp
        · simp[c]
      unfold scan;simp only[h0];exact ih (i+1) (by omega)
  exact this b.length 0 (by omega)
def hasB (b:List BE) (k:Int×Mv):Bool:=b.any fun x=>decide (keyE x=k)
theorem qhy (b:List BE) (k:Int×Mv):hasB b k=true↔∃x∈b,keyE x=k:=by
  unfold hasB;rw[List.any_eq_true];simp only[decide_eq_true_eq]
theorem has_look (b:List BE) (k:Int×Mv):hasB b k=(lookE b k).isSome:=by
  rw[Bool.eq_iff_iff,qhy];constructor
  · rintro ⟨x,hx,hk⟩
    unfold lookE
    cases hq:b.find? fun x=>decide (keyE x=k) with
    | some y=>rfl
    | none=>exact absurd (decide_eq_true hk) (List.find?_eq_none.1 hq x hx)
  · intro h;unfold lookE at h
    cases hq:b.find? fun x=>decide (keyE x=k) with
    | some y =>
      have h2:=List.find?_some hq;exact⟨y,List.mem_of_find?_eq_some hq,of_decide_eq_true h2⟩
    | none=>rw[hq] at h;cases h
theorem qxv (k:Int×Mv):∀(l:List BE) (f:Int×Mv→Option Int),(l.foldl updE f k).isSome=((f k).isSome||hasB l k)
  | [],f=>by simp[hasB]
  | d::l,f=>by
    rw[List.foldl_cons,qxv k l];unfold updE hasB;rw[List.any_cons];by_cases e:k=keyE d
    · rw[if_pos e,decide_eq_true e.symm];simp
    · rw[if_neg e,decide_eq_false (fun q=>e q.symm),Bool.false_or]
theorem has_ins (l:List BE) (hw:OKW l) (k:Int×Mv):hasB (l.foldl insB []) k=hasB l k:=by
  obtain⟨q1,q2,q3,q4⟩:=ql7 l (a:=[]) List.Pairwise.nil (fun x hx=>by cases hx) hw;rw[has_look,q4,qxv];rfl
theorem has_pos {l:List BE} (hs:Srt' l) (d:BE):hasB l (keyE d)=(decide (posE l d<l.length)&&decide (keyE (l.getD (posE l d) dBE)=keyE d)):=by
  rw[Bool.eq_iff_iff,qhy,Bool.and_eq_true,decide_eq_true_eq,decide_eq_true_eq];constructor
  · rintro ⟨x,hx,hk⟩
    obtain⟨k,hkl,rfl⟩:=List.mem_iff_getElem.1 hx;have h1:=qmm d hs k hkl;rw[qsH hk rfl,ltE_irr] at h1;have h2:posE l d≤k:=by
      have:=of_decide_eq_false h1.symm;omega
    have h3:posE l d=k:=by
      by_cases e:posE l d=k
      · exact e
      · exfalso;have h4:=qmm d hs (posE l d) (by omega);rw[decide_eq_false (Nat.lt_irrefl _)] at h4;have h5:=List.pairwise_iff_getElem.1 hs (posE l d) k (by omega) hkl (by omega);rw[qsH rfl hk] at h5;rw[h5] at h4;cases h4
    exact⟨by omega,by rw[h3,qdm l k hkl];exact hk⟩
  · rintro ⟨h1,h2⟩
    exact⟨l[posE l d],List.getElem_mem h1,by rw[←qdm l _ h1];exact h2⟩
theorem cov1 (b:List BE) (z:Int) (d:Mv) (hl:b.length≤2000) (hs:Srt' b):iterW (qd6 b z d) (((0:Int),((b.length:Nat):Int),()),())=some ((((posE b (z,(d,((0:Int),()))):Nat):Int),()),()):=by
  refine qu1 b.length (fun k=>ltE (b.getD k dBE) (z,(d,((0:Int),())))) (posE b (z,(d,((0:Int),())))) (by omega) (fun k hk=>by rw[qdm b k hk,qmm _ hs k hk]) (qv3 b _) (fun lo hi h1 h2=>?_) (fun lo=>by
    unfold qd6
    simp only[Int.lt_irrefl,decide_false,cond_false])
  unfold qd6;simp only[show decide ((lo:Int)<(hi:Int))=true by simp;omega,cond_true];rw[mid_eq lo hi (by omega),qli b ((lo+hi) / 2) (by omega),Option.bind_some,qgP,Option.bind_some,ord_lt,qdm b ((lo+hi) / 2) (by omega)];rw[qe (n:=(((lo+hi) / 2:Nat):Int)+1) (by omega) (by omega)];cases ltE b[(lo+hi) / 2] (z,(d,((0:Int),())))
  · rfl
  · rfl
theorem cov2 (b:List BE) (z:Int) (d:Mv) (hs:Srt' b):(Option.bind (gat (decide (((posE b (z,(d,((0:Int),()))):Nat):Int)<((b.length:Nat):Int))) dBE b ((posE b (z,(d,((0:Int),()))):Nat):Int)) fun d15 =>
    bif (decide (((posE b (z,(d,((0:Int),()))):Nat):Int)<((b.length:Nat):Int))) then(Option.bind (qbl d15 (z,(d,((0:Int),())))) fun r16=>some ((((posE b (z,(d,((0:Int),()))):Nat):Int),(r16==(0:Int)),()),()))
    else some ((((posE b (z,(d,((0:Int),()))):Nat):Int),false,()),()))=some ((((posE b (z,(d,((0:Int),()))):Nat):Int),hasB b (z,d),()),()):=by
  have hp:=has_pos hs (z,(d,((0:Int),())));have hk:keyE (z,(d,((0:Int),())))=(z,d):=rfl;rw[hk] at hp;by_cases h1:posE b (z,(d,((0:Int),())))<b.length
  · simp only[show decide (((posE b (z,(d,((0:Int),()))):Nat):Int)<((b.length:Nat):Int))=true by simp;omega,gat,cond_true];rw[qli b _ h1,Option.bind_some,qgP,Option.bind_some,ord_0,hk,hp,decide_eq_true h1,Bool.true_and,qdm b _ h1]
  · simp only[show decide (((posE b (z,(d,((0:Int),()))):Nat):Int)<((b.length:Nat):Int))=false by simp;omega,gat,cond_false,Option.bind_some];rw[hp,decide_eq_false h1,Bool.false_and]
def covG (r:Rules) (b:List BE):List Mv→List Place×List Mv→Nat
  | [],_=>0
  | m::k,s=>if hasB b (keyOf (lastP s.1),m)=true then covG r b k (nextG r s m)+1 else 0
theorem qsg {r:Rules} {b:List BE} (hb:b.length≤2000) (hsb:Srt' b) (game:List Mv) (hl:game.length≤1000) :
    ∀(k i:Nat) (s:List Place×List Mv),i+k=game.length→OKG r s→(∃s',runG r (game.drop i) s = .inl s') →
      Option.bind (iterW (qfL game b r) (((i:Int),()),(flp (lastP s.1),()))) (Sum.elim (fun _=>some (((game.length:Nat):Int),((0:Int),()))) some)=some (((i+covG r b (game.drop i) s:Nat):Int),((0:Int),()))
  | 0,i,s,hi,ho,hs=>by
    have:i=game.length:=by omega
    subst this;rw[List.drop_length]
    rw[qh (r := .inl ((),(flp (lastP s.1),()))) (by
      unfold qfL
      simp only[nltd,cond_false])]
    rfl
  | k+1,i,s,hi,ho,hs=>by
    have hil:i<game.length:=by omega
    obtain⟨s',hs⟩:=hs;rw[List.drop_eq_getElem_cons hil] at hs ⊢;unfold runG at hs;by_cases c:stepG r s game[i]=0
    · rw[if_pos c] at hs;have hv:Valid r (lastP s.1):=ho.last
      have e:qfL game b r (((i:Int),()),(flp (lastP s.1),()))=bif (decide ((i:Int)<((game.length:Nat):Int))) then(Option.bind (at? game (i:Int)) fun d=>Option.bind (zobOf (lastP s.1)) fun z =>
        Option.bind (iterW (qd6 b z d) (((0:Int),((b.length:Nat):Int),()),())) fun x14=>Option.bind (Option.bind (gat (decide (x14.1.1<((b.length:Nat):Int))) dBE b x14.1.1) fun d15=>bif (decide (x14.1.1<((b.length:Nat):Int))) then(Option.bind (qbl d15 (z,(d,((0:Int),())))) fun r16=>some ((x14.1.1,(r16==(0:Int)),()),())) else some ((x14.1.1,false,()),())) fun x =>
        bif (!x.1.2.1) then some (Sum.inr (Sum.inr ((i:Int),((0:Int),())))) else Option.bind (qv r (lastP s.1) d) fun p=>some (Sum.inl (((w64 ((i:Int)+1)),()),(flp p,())))) else some (Sum.inr (Sum.inl ((),(flp (lastP s.1),())))):=rfl
      rw[ltd game i hil,cond_true,qli game i hil,Option.bind_some,qpf hv,Option.bind_some,cov1 b _ _ hb hsb,Option.bind_some] at e;simp only at e;rw[cov2 b _ _ hsb,Option.bind_some] at e;unfold covG;cases hh:hasB b (keyOf (lastP s.1),game[i])
      · rw[hh] at e;simp only[Bool.not_false,cond_true] at e;rw[qh e];simp
      · rw[hh] at e;simp only[Bool.not_true,cond_false] at e;rw[qmu hv (qxB c).2,Option.bind_some,qe (by omega) (by omega)] at e;have ih:=qsg hb hsb game hl k (i+1) (nextG r s game[i]) (by omega) (qqw ho c) ⟨s',hs⟩;rw[qr2] at ih;rw[ql e,if_pos rfl,show((i:Int)+1)=((i+1:Nat):Int) by omega,ih];congr 2;omega
    · rw[if_neg c] at hs;cases hs
theorem qyK (r:Rules) (hr:Rng qT r) (b:List BE) (hb:b.length≤1000) (hw:OKW b) (hsb:Srt' b) (game:List Mv) (hl:game.length≤500) :
    qmI r b game=some (if (qez r game).2.2.1=0 then(((covG r b game ([qq r],[]):Nat):Int),((0:Int),())) else((0:Int),((qez r game).2.2.1,()))):=by
  unfold qmI;rw[qlw b hb,Option.bind_some,qpx hw hsb,show((0:Int)!=0)=false from rfl,cond_false,qpc r game hr (by omega),Option.bind_some];by_cases c:(qez r game).2.2.1=0
  · rw[bne_f c,cond_false,if_pos c];obtain⟨hc,s',hs⟩:=qjL c;rw[qeZ r hr,if_pos hc,Option.bind_some];have:=qsg (r:=r) (by omega:b.length≤2000) hsb game (by omega) game.length 0 ([qq r],[]) (by omega) (qfz hc) ⟨s',by rw[List.drop_zero];exact hs⟩;rw[List.drop_zero,Nat.zero_add] at this;exact this
  · rw[bne_t c,cond_true,if_neg c]
def qfm (b:List BE) (K:Int) (mo:List Mv):List BE:=b.filter fun x=>(x.1==K)&&decide (x.2.1∈mo)
theorem qvC {A:Type} (p:A→Bool):∀(m s:List A),m.foldl (fun s d=>if p d=true then s++[d] else s) s=s++m.filter p
  | [],s=>by simp
  | d::m,s=>by
    rw[List.foldl_cons,qvC p m,List.filter_cons];split
    · simp
    · rfl
theorem qlx {A S R:Type} (xs:List A) (f:((S×Int×Unit)×Unit)→Option (((S×Int×Unit)×Unit) ⊕ R)) (g:S→A→S) (fin:S→R) (I:Nat→S→Prop)
    (hs:∀i (hi:i<xs.length) s,I i s→f ((s,(i:Int),()),())=some (.inl ((g s xs[i],((i+1:Nat):Int),()),()))∧I (i+1) (g s xs[i]))
    (he:∀s,I xs.length s→f ((s,(xs.length:Int),()),())=some (.inr (fin s))) (s0:S) (h0:I 0 s0) :
    iterW f ((s0,(0:Int),()),())=some (fin (xs.foldl g s0)):=by
  have:=iter_scan xs f (fun i s=>((s,(i:Int),()),())) (fun s x=>(.inl (g s x):S ⊕ R)) fin I (fun i hi s h=>(hs i hi s h).1) (fun i hi s s' h e=>by
    cases e;exact(hs i hi s h).2) he s0 h0
  rw[qut _ g fin xs s0 (fun _ _ _=>rfl)] at this;exact this
theorem qyT (r:Rules) (b:List BE) (hb:b.length≤1000) (p:Place) (hv:Valid r p):qpb r b p=some (qfm b (keyOf p) (qan r p)):=by
  unfold qpb;rw[qpf hv,Option.bind_some,qjp hv,Option.bind_some]
  have:=qlx b (qhQ b (keyOf p) (qan r p)) (fun s d=>if ((d.1==keyOf p)&&decide (d.2.1∈qan r p))=true then s++[d] else s) (fun s=>((s,()),())) (fun i s=>s.length≤i) (fun i hi s h=>by
    refine⟨?_,?_⟩
    · unfold qhQ;simp only[ltd b i hi,cond_true];rw[qli b i hi,Option.bind_some,qjH _ _ (by have:=qlc hv;omega),qe (n:=(i:Int)+1) (by omega) (by omega)];have hroom:room (s.length+([b[i]]:List BE).length) 40=true:=qI (by simp only[List.length_cons,List.length_nil];omega);cases c1:(b[i].1==keyOf p)
      · simp only[gopt,cond_false,Option.bind_some,Bool.false_and,Bool.false_eq_true,if_false];rfl
      · simp only[gopt,cond_true,Option.bind_some,Bool.true_and];cases c2:decide (b[i].2.1∈qan r p)
        · simp only[cond_false,Option.bind_some,Bool.false_eq_true,if_false];rfl
        · simp only[cond_true,if_pos rfl];rw[hroom,qc];rfl
    · split
      · rw[List.length_append];simp;omega
      · omega) (fun s _=>by unfold qhQ;simp) [] (by simp)
  rw[this,qvC,Option.bind_some,List.nil_append];rfl
theorem zkeyB (r:Rules) (p:Place) (hr:Rng qT r) (hc:qH r=0) (hv:Valid r p):qrZ r p=some (keyOf p,0,()):=by
  unfold qrZ;have h:=qnT r p hr (by have:=qbw hv;omega);rw[h,Option.bind_some,qs5 hc hv,show((0:Int)!=0)=false from rfl,cond_false,qpf hv];rfl
theorem qvT (r:Rules) (hr:Rng qT r) (hc:qH r=0) (b:List BE) (hb:b.length≤1000) (hw:OKW b) (hsb:Srt' b) (p:Place) (hv:Valid r p):qlV r b p=some (qfm b (keyOf p) (qan r p),((0:Int),())):=by
  unfold qlV;rw[qlw b hb,Option.bind_some,qpx hw hsb,show((0:Int)!=0)=false from rfl,cond_false,zkeyB r p hr hc hv,Option.bind_some];simp only[show((0:Int)!=0)=false from rfl,cond_false];rw[qyT r b hb p hv];rfl
def sumW (l:List BE):Int:=l.foldl (fun s x=>s+x.2.2.1) 0
theorem qsU:∀(l:List BE) (s:Int),OKW l→0≤s→s+(l.length:Int)≤l.foldl (fun s x=>s+x.2.2.1) s∧l.foldl (fun s x=>s+x.2.2.1) s≤s+1000000*(l.length:Int)
  | [],s,_,h=>by simp
  | d::l,s,hw,h=>by
    have h1:=hw d List.mem_cons_self;have:=qsU l (s+d.2.2.1) (fun x hx=>hw x (List.mem_cons_of_mem _ hx)) (by omega);rw[List.foldl_cons,List.length_cons];omega
def qhS:List BE→Int→Option Mv
  | [],_=>none
  | d::l,n=>if n-d.2.2.1<0 then some d.2.1 else qhS l (n-d.2.2.1)
theorem qoH:∀(l:List BE) (s n:Int),OKW l→n<l.foldl (fun s x=>s+x.2.2.1) s-s→∃m,qhS l n=some m∨n<0∧l=[]
  | [],s,n,_,h=>⟨(0,(0,(0,()))),.inr ⟨by simp at h;omega,rfl⟩⟩
  | d::l,s,n,hw,h=>by
    unfold qhS;by_cases c:n-d.2.2.1<0
    · rw[if_pos c];exact⟨_,.inl rfl⟩
    · rw[if_neg c];rw[List.foldl_cons] at h;obtain⟨m,hm⟩:=qoH l (s+d.2.2.1) (n-d.2.2.1) (fun x hx=>hw x (List.mem_cons_of_mem _ hx)) (by omega);rcases hm with hm | ⟨hm,_⟩
      · exact⟨m,.inl hm⟩
      · exact absurd hm c
theorem sum_loopA (r2:List BE×Int×Unit) (hl:r2.1.length≤1000) (hw:OKW r2.1) (f:((Int×Int×Unit)×Unit)→Option (((Int×Int×Unit)×Unit) ⊕ ((Int×Unit)×Unit)))
    (hf:∀x3:(Int×Int×Unit)×Unit,f x3=bif (decide (x3.1.2.1<((r2.1.length:Nat):Int))) then req (inb x3.1.2.1 r2.1.length) (some (Sum.inl (((w64 (x3.1.1+(((getD' r2.1 ((x3.1.2.1).toNat) dBE).2).2).1)),(w64 (x3.1.2.1+1)),()),()))) else some (Sum.inr ((x3.1.1,()),()))) :
    iterW f (((0:Int),(0:Int),()),())=some ((sumW r2.1,()),()):=by
  refine qlx r2.1 f (fun s x=>s+x.2.2.1) (fun s=>((s,()),())) (fun i s=>0≤s∧s≤1000000*i) (fun i hi s h=>?_) (fun s _=>by rw[hf];simp) 0 (by simp);have h1:=hw r2.1[i] (List.getElem_mem hi)
  refine⟨?_,by constructor<;>omega⟩
  rw[hf];simp only[ltd r2.1 i hi,cond_true];rw[inbN _ i hi,qc,Int.toNat_natCast,gd_eq _ i hi,qe (n:=(i:Int)+1) (by omega) (by omega),qe (n:=s+r2.1[i].2.2.1) (by omega) (by omega)];rfl
theorem qr4 {X R:Type} (l:List BE) (hl:l.length≤1000) (hw:OKW l) (x:X) (y:R) (g:Mv→R) (Z:X→Unit) (f:((Int×Int×Unit)×X)→Option (((Int×Int×Unit)×X) ⊕ ((Unit×X) ⊕ R)))
    (hf:∀x5:(Int×Int×Unit)×X,f x5=bif (decide (x5.1.2.1<((l.length:Nat):Int))) then(req (inb x5.1.2.1 l.length) (bif (decide ((w64 (x5.1.1-(((getD' l ((x5.1.2.1).toNat) dBE).2).2).1))<0)) then some (Sum.inr (Sum.inr (g (getD' l ((x5.1.2.1).toNat) dBE).2.1)))
      else some (Sum.inl (((w64 (x5.1.1-(((getD' l ((x5.1.2.1).toNat) dBE).2).2).1)),(w64 (x5.1.2.1+1)),()),x5.2)))) else some (Sum.inr (Sum.inl ((),x5.2)))) :
    ∀(k i:Nat) (n:Int),i+k=l.length→0≤n→n≤1000000000000→Option.bind (iterW f ((n,(i:Int),()),x)) (Sum.elim (fun _=>some y) some)=some (match qhS (l.drop i) n with
      | some m=>g m
      | none=>y)
  | 0,i,n,hi,h0,h1=>by
    have:i=l.length:=by omega
    subst this;rw[List.drop_length,qh (r := .inl ((),x)) (by rw[hf];simp)];rfl
  | k+1,i,n,hi,h0,h1=>by
    have hil:i<l.length:=by omega
    have hx:=hw l[i] (List.getElem_mem hil);have e:=hf ((n,(i:Int),()),x);simp only[ltd l i hil,cond_true] at e;rw[inbN _ i hil,qc,Int.toNat_natCast,gd_eq _ i hil,qe (n:=(i:Int)+1) (by omega) (by omega),qe (n:=n-l[i].2.2.1) (by omega) (by omega)] at e;rw[List.drop_eq_getElem_cons hil];unfold qhS;by_cases c:n-l[i].2.2.1<0
    · rw[decide_eq_true c,cond_true] at e;rw[qh e,if_pos c];rfl
    · rw[decide_eq_false c,cond_false] at e;rw[ql e,if_neg c];exact qr4 l hl hw x y g Z f hf k (i+1) _ (by omega) (by omega) (by omega)
theorem there_sub (B:List BE) (K:Int) (mo:List Mv):(qfm B K mo).length≤B.length:=List.length_filter_le _ _
theorem qxU {B:List BE} (hw:OKW B) (K:Int) (mo:List Mv):OKW (qfm B K mo):=fun x hx=>hw x (List.mem_filter.1 hx).1
def zM:Mv:=(0,(0,(0,())))
theorem qvA (r:Rules) (hr:Rng qT r) (hc:qH r=0) (b:List BE) (hb:b.length≤1000) (hw:OKW b) (hsb:Srt' b) (p:Place) (hv:Valid r p) (draw:Int) (hd:draw≤9223372036854775807) :
    qjG r b p draw=some (if draw<0 then(zM,((1:Int),())) else if (qfm b (keyOf p) (qan r p)).length=0 then(zM,((8:Int),())) else match qhS (qfm b (keyOf p) (qan r p)) (draw.tmod (sumW (qfm b (keyOf p) (qan r p)))) with
      | some m=>(m,((0:Int),()))
      | none=>(zM,((8:Int),()))):=by
  unfold qjG;rw[qvT r hr hc b (by omega) hw hsb p hv,Option.bind_some];have hlen:=there_sub b (keyOf p) (qan r p);have hwt:=qxU hw (keyOf p) (qan r p);generalize qfm b (keyOf p) (qan r p)=T at hlen hwt ⊢;simp only[show((0:Int)!=0)=false from rfl,cond_false];by_cases c1:draw<0
  · rw[decide_eq_true c1,cond_true,if_pos c1];rfl
  · rw[decide_eq_false c1,cond_false,if_neg c1];by_cases c2:T.length=0
    · rw[beq_t (by omega),cond_true,if_pos c2];rfl
    · rw[beq_f (by omega),cond_false,if_neg c2];rw[sum_loopA (T,((0:Int),())) (by show T.length≤1000;omega) hwt (qnd (T,((0:Int),()))) (fun _=>rfl),Option.bind_some];obtain⟨s1,s2⟩:=qsU T 0 hwt (Int.le_refl _)
      have s1':(T.length:Int)≤sumW T:=by unfold sumW;omega
      have s2':sumW T≤1000000*(T.length:Int):=by unfold sumW;omega
      show req (sumW T !=0) _=_;rw[bne_t (by omega),qc];have h0:0≤draw.tmod (sumW T):=Int.tmod_nonneg _ (by omega);have h1:draw.tmod (sumW T)<sumW T:=Int.tmod_lt_of_pos _ (by omega);have:=qr4 T (by omega) hwt ((((0:Int),((0:Int),((0:Int),()))),()):Mv×Unit) ((zM,((8:Int),())):Mv×Int×Unit) (fun m=>(m,((0:Int),()))) (fun _=>()) (qnt (T,((0:Int),()))) (fun _=>rfl) T.length 0 (draw.tmod (sumW T)) (by omega) h0 (by omega);rw[List.drop_zero] at this;exact this
theorem qvJ (a b:List Mv) (ha:a.length≤1000000000):qcp a b=some (decide (a=b)):=by
  unfold qcp;by_cases hl:a.length=b.length
  · rw[bne_f (show((a.length:Nat):Int)=((b.length:Nat):Int) by omega),cond_false]
    have hL:=qQ (List.range a.length) (fun i=>!(a.getD i (0,(0,(0,())))==b.getD i (0,(0,(0,()))))) (qbh a b) (.inr false) (.inl ((),())) (fun i hi=>by
      have hi':i<a.length:=by simpa using hi
      unfold qbh;simp only[show decide ((i:Int)<((a.length:Nat):Int))=true by simp;omega,cond_true,List.getElem_range];rw[qoE a i hi',qoE b i (by omega),Option.bind_some,Option.bind_some,qe (n:=(i:Int)+1) (by omega) (by omega)];have:=qxd a[i] (b[i]'(by omega));unfold eqMv at this;rw[this,List.getD_eq_getElem?_getD,List.getD_eq_getElem?_getD,List.getElem?_eq_getElem hi',List.getElem?_eq_getElem (show i<b.length by omega),Option.getD_some,Option.getD_some]
      cases (a[i]==b[i]'(by omega))<;>rfl) (by unfold qbh;simp)
    rw[hL,eqL_of hl]
    cases decide (a=b)<;>rfl
  · rw[bne_t (show ¬((a.length:Nat):Int)=((b.length:Nat):Int) by omega),cond_true];have:¬a=b:=fun h=>hl (by rw[h]);simp[this]
theorem qyj (p:Nat→Bool):∀(k i:Nat),∃o:Option Nat,(∀f,o=some f→i≤f∧f<i+k)∧∀(β:Type) (g:Nat→β) (B:β),scan (fun i=>bif p i then some (g i) else none) B i k=o.elim B g:=by
  intro k
  induction k with
  | zero=>exact fun i=>⟨none,⟨fun f h=>(by cases h),fun β g B=>rfl⟩⟩
  | succ k ih =>
    intro i;cases hp:p i
    · obtain⟨o,h1,h2⟩:=ih (i+1);refine⟨o,fun f hf=>by have:=h1 f hf;omega,fun β g B=>?_⟩;rw[←h2 β g B]
      conv=>lhs;unfold scan
      simp only[hp,cond_false]
    · refine⟨some i,fun f hf=>by cases hf;omega,fun β g B=>?_⟩
      conv=>lhs;unfold scan
      simp only[hp,cond_true];rfl
theorem qvS {r:Rules} {x:Rec} (c:qgi r x=0):Ord x.2.2.1 x.2.2.1.length:=by
  unfold qgi at c
  repeat (first | (split at c;· contradiction) | exact ord_of c)
def qse (ns:List RNode):List (List Mv):=(leaves ns ns.length).map fun (i:Nat)=>wayM ns (i:Int)
theorem qyE {r:Rules} (hr:Rng qT r) (x:Rec) (hx:Rng tyRec x) (h30:x.2.2.1.length≤30):qcM r x=some (if qgi r x≠0 then([],(qgi r x,())) else(qse x.2.2.1,(0,()))):=by
  unfold qcM;rw[qk7 hr x hx h30,Option.bind_some];by_cases c:qgi r x=0
  rotate_left
  · rw[bne_t c,cond_true,if_pos c]
  rw[bne_f c,cond_false,if_neg (fun h=>h c)];have ho:=qvS c
  have:=qfw x.2.2.1.length (qcn x) (fun i a=>a++(bif leafB x.2.2.1 i then [wayM x.2.2.1 (i:Int)] else [])) (fun a=>((a,()),())) (fun i a=>a.length≤i) [] (Nat.le_refl _) (fun i hi a ha=>by
    refine⟨?_,by
      rw[List.length_append];cases leafB x.2.2.1 i
      · simp only[cond_false,List.length_nil];omega
      · simp only[cond_true,List.length_cons,List.length_nil];omega⟩
    unfold qcn;simp only[show decide ((i:Int)<((x.2.2.1.length:Nat):Int))=true by simp;omega,cond_true];rw[qp0 x _ (by omega),Option.bind_some,kids_leaf,qvU x (by omega) (n:=(i:Int)) (by omega) (by omega) (ho.down.mono (by omega)),qe (n:=(i:Int)+1) (by omega) (by omega)];cases leafB x.2.2.1 i
    · simp only[cond_false,Option.bind_some,List.append_nil]
    · simp only[cond_true,Option.bind_some];rw[qI (by simp only[List.length_cons,List.length_nil];omega),qc]
      rfl) (fun a _=>by unfold qcn;simp)
  rw[this,Option.bind_some];have hL:∀n,foldN (fun i a=>a++(bif leafB x.2.2.1 i then [wayM x.2.2.1 (i:Int)] else [])) n []=(leaves x.2.2.1 n).map fun (i:Nat)=>wayM x.2.2.1 (i:Int):=fun n=>by
    induction n with
    | zero=>rfl
    | succ n ih =>
      rw[qwD,List.map_append,←ih];show foldN _ n []++_=_;congr 1
      cases leafB x.2.2.1 n<;>rfl
  rw[hL];rfl
theorem find_spec {r:Rules} (hr:Rng qT r) (x:Rec) (hx:Rng tyRec x) (h30:x.2.2.1.length≤30) (l:List Mv):qd4 r x l=some (if qgi r x≠0 then(0,(qgi r x,())) else scan (fun i=>bif decide (wayM x.2.2.1 (i:Int)=l) then some ((i:Int),(0,())) else none) (0,(8,())) 0 x.2.2.1.length):=by
  unfold qd4;rw[qk7 hr x hx h30,Option.bind_some];by_cases c:qgi r x=0
  rotate_left
  · rw[bne_t c,cond_true,if_pos c]
  rw[bne_f c,cond_false,if_neg (fun h=>h c)];have ho:=qvS c
  have:=qjO x.2.2.1.length (qdk x l) (fun i=>bif decide (wayM x.2.2.1 (i:Int)=l) then some (Sum.inr ((i:Int),(0,()))) else none) (Sum.inl ((),())) (fun i hi=>by
    have hwl:=qm1 _ (i:Int) (Nat.le_refl _) (ho.down.mono (by omega));unfold qdk;simp only[show decide ((i:Int)<((x.2.2.1.length:Nat):Int))=true by simp;omega,cond_true];rw[qvU x (by omega) (n:=(i:Int)) (by omega) (by omega) (ho.down.mono (by omega)),Option.bind_some,qvJ _ _ (by unfold wayM;rw[List.length_reverse,List.length_map];omega),Option.bind_some,qe (n:=(i:Int)+1) (by omega) (by omega)]
    cases decide (wayM x.2.2.1 (i:Int)=l)<;>rfl) (by unfold qdk;simp)
  rw[this,Option.bind_some];obtain⟨o,_,h2⟩:=qyj (fun i=>decide (wayM x.2.2.1 (i:Int)=l)) x.2.2.1.length 0;rw[h2,h2]
  cases o<;>rfl

theorem add_specG {r:Rules} (hr:Rng qT r) (b:List BE) (hb:b.length≤900) (hw:OKW b) (hsb:Srt' b) (game:List Mv) (hg:game.length≤40) (c:(qez r game).2.2.1=0) :
    qtO r b game ((game.length:Nat):Int) 2=some ((enG r 2 game ([qq r],[])).foldl insB b,(0,())):=by
  unfold qtO;rw[qlw b (by omega),Option.bind_some,qpx hw hsb,show((0:Int)!=(0:Int))=false from rfl,cond_false,qpc r game hr (by omega),Option.bind_some];rw[bne_f c,cond_false];obtain⟨hc,s',hs⟩:=qjL c
  rw[show((decide (((game.length:Nat):Int)<0)||decide ((2:Int)<1))||decide ((2:Int)>1000000))=false by
    rw[Bool.eq_false_iff];intro h;simp only[Bool.or_eq_true,decide_eq_true_eq] at h;omega,cond_false]
  rw[cloneB b (by omega),Option.bind_some,qeZ r hr,if_pos hc,Option.bind_some]
  have hif:(if ((game.length:Nat):Int)<((game.length:Nat):Int) then((game.length:Nat):Int) else((game.length:Nat):Int))=((game.length:Nat):Int):=by split<;>rfl
  have hbd:qo 0 (if ((game.length:Nat):Int)<((game.length:Nat):Int) then((game.length:Nat):Int) else((game.length:Nat):Int)) game.length=true:=by
    rw[hif];simp only[qo,Bool.and_eq_true,decide_eq_true_eq];omega
  rw[hbd,qc];have htk:(game.take ((if ((game.length:Nat):Int)<((game.length:Nat):Int) then((game.length:Nat):Int) else((game.length:Nat):Int))).toNat).drop 0=game:=by
    rw[hif,List.drop_zero,Int.toNat_natCast,List.take_length]
  obtain⟨q,hq⟩:=qw7 (r:=r) game ((game.length:Nat):Int) 2 game htk (by omega) (by omega) game.length 0 ([qq r],[]) b (by omega) (qfz hc) (by rw[List.drop_zero];exact⟨s',hs⟩) hsb hw (by omega);have hq':iterW (qgK game ((game.length:Nat):Int) 2 r) ((b,(0:Int),()),((qq r).1,((qq r).2.1.1,((qq r).2.1.2.1,(qq r).2.2))),())=_:=hq;rw[hq',Option.bind_some,List.drop_zero];have h4:=(ql7 (enG r 2 game ([qq r],[])) (a:=b) hsb hw (qvr (by omega) _ _)).2.2.1;rw[qsy] at h4;unfold qgV;simp only[show decide ((((List.foldl insB b (enG r 2 game ([qq r],[]))).length:Nat):Int)>1000)=false by simp;omega,cond_false,Option.bind_some]
theorem quV {r:Rules} {b:List BE}:∀(k:List Mv) (s:List Place×List Mv),(∀e∈enG r 2 k s,hasB b (keyE e)=true)→covG r b k s=k.length
  | [],s,_=>rfl
  | m::k,s,h=>by
    unfold covG;have h1:hasB b (keyOf (lastP s.1),m)=true:=h (keyOf (lastP s.1),(m,(2,()))) (by unfold enG;exact List.mem_cons_self);rw[if_pos h1,quV k _ (fun e he=>h e (by unfold enG;exact List.mem_cons_of_mem _ he))];rfl
theorem enG_mem {r:Rules} {w:Int}:∀(k:List Mv) (s sF:List Place×List Mv),runG r k s = .inl sF→∀e∈enG r w k s,∃i,∃hi:i<k.length,∃s',runG r (k.take i) s = .inl s'∧e=(keyOf (lastP s'.1),(k[i],(w,())))
  | [],s,sF,_,e,he=>by cases he
  | m::k,s,sF,h,e,he=>by
    unfold runG at h;by_cases c:stepG r s m=0
    · rw[if_pos c] at h;unfold enG at he;rcases List.mem_cons.1 he with rfl | he
      · exact⟨0,by simp,s,rfl,rfl⟩
      · obtain⟨i,hi,s',h1,h2⟩:=enG_mem k _ sF h e he;refine⟨i+1,by simpa using hi,s',?_,h2⟩;rw[List.take_succ_cons];unfold runG;rw[if_pos c];exact h1
    · rw[if_neg c] at h;cases h
theorem qps:∀(l:List BE) (n:Int) (m:Mv),qhS l n=some m→∃e∈l,e.2.1=m
  | [],n,m,h=>by cases h
  | d::l,n,m,h=>by
    unfold qhS at h;by_cases c:n-d.2.2.1<0
    · rw[if_pos c] at h;exact⟨d,List.mem_cons_self,Option.some.inj h⟩
    · rw[if_neg c] at h;obtain⟨e,he,h2⟩:=qps l _ m h;exact⟨e,List.mem_cons_of_mem _ he,h2⟩
abbrev S0 (r:Rules):List Place×List Mv:=([qq r],[])
def EL (r:Rules) (LL:List (List Mv)):List BE:=(LL.map fun l=>enG r 2 l (S0 r)).flatten
theorem fold_EL (r:Rules):∀(LL:List (List Mv)) (b:List BE),LL.foldl (fun b l=>(enG r 2 l (S0 r)).foldl insB b) b=(EL r LL).foldl insB b
  | [],b=>rfl
  | l::LL,b=>by
    rw[List.foldl_cons,fold_EL r LL];unfold EL;rw[List.map_cons,List.flatten_cons,List.foldl_append]
theorem EL_mem {r:Rules} {LL:List (List Mv)} {e:BE}:e∈EL r LL↔∃l∈LL,e∈enG r 2 l (S0 r):=by
  unfold EL;simp only[List.mem_flatten,List.mem_map];constructor
  · rintro ⟨q,⟨l,hl,rfl⟩,he⟩
    exact⟨l,hl,he⟩
  · rintro ⟨l,hl,he⟩
    exact⟨_,⟨l,hl,rfl⟩,he⟩
theorem EL_ok (r:Rules) (LL:List (List Mv)):OKW (EL r LL):=fun x hx=>by
  obtain⟨l,_,he⟩:=EL_mem.1 hx;exact qvr (by omega) _ _ x he
structure qlt (r:Rules) (LL:List (List Mv)):Prop where
  many:LL.length≤20
  run:∀l∈LL,(qez r l).2.2.1=0
  len:∀l∈LL,l.length≤20
  pos:∀l∈LL,0<l.length
abbrev bookL (r:Rules) (LL:List (List Mv)):List BE:=LL.foldl (fun b l=>(enG r 2 l (S0 r)).foldl insB b) []
theorem getL {A:Type} {LL:List A} {k:Nat} (hk:k<LL.length) (d:A):getD' LL ((k:Int).toNat) d=LL[k]:=by
  rw[Int.toNat_natCast];unfold getD';rw[List.getD_eq_getElem?_getD,List.getElem?_eq_getElem hk];rfl
theorem tb_L1 {r:Rules} (hr:Rng qT r) {LL:List (List Mv)} (h:qlt r LL):iterW (qag (LL,((0:Int),())) r) ((([]:List BE),(0:Int),()),())=some (.inl ((bookL r LL,()),()))∧OKW (bookL r LL)∧Srt' (bookL r LL)∧(bookL r LL).length≤400:=by
  have hm:=h.many;have hlen:∀(L:List (List Mv)) (b:List BE),(∀l∈L,l.length≤20)→OKW b→Srt' b→OKW (L.foldl (fun b l=>(enG r 2 l (S0 r)).foldl insB b) b)∧Srt' (L.foldl (fun b l=>(enG r 2 l (S0 r)).foldl insB b) b)∧(L.foldl (fun b l=>(enG r 2 l (S0 r)).foldl insB b) b).length≤b.length+20*L.length:=by
    intro L
    induction L with
    | nil=>intro b _ h1 h2;exact⟨h1,h2,by simp⟩
    | cons l L ih =>
      intro b hl h1 h2;obtain⟨i1,i2,i3,_⟩:=ql7 (enG r 2 l (S0 r)) (a:=b) h2 h1 (qvr (by omega) _ _);rw[qsy] at i3;have hl0:=hl l List.mem_cons_self;obtain⟨j1,j2,j3⟩:=ih _ (fun l' hl'=>hl l' (List.mem_cons_of_mem _ hl')) i2 i1;refine⟨j1,j2,?_⟩;rw[List.foldl_cons,List.length_cons];omega
  obtain⟨a1,a2,a3⟩:=hlen LL [] h.len (fun x hx=>by cases hx) List.Pairwise.nil;refine⟨?_,a1,a2,by simp only[List.length_nil] at a3;show(LL.foldl (fun b l=>(enG r 2 l (S0 r)).foldl insB b) []).length≤400;omega⟩
  refine qlx LL (qag (LL,((0:Int),())) r) (fun b l=>(enG r 2 l (S0 r)).foldl insB b) (fun b => .inl ((b,()),())) (fun i b=>OKW b∧Srt' b∧b.length≤20*i) (fun i hi b hb=>?_) (fun b _=>by
    unfold qag
    simp only[show decide (((LL.length:Nat):Int)<((LL.length:Nat):Int))=false by simp,cond_false]) ([]:List BE) ⟨fun x hx=>(by cases hx),List.Pairwise.nil,Nat.le_refl _⟩
  obtain⟨b1,b2,b3⟩:=hb;have hmem:=List.getElem_mem hi;have hl0:=h.len _ hmem;obtain⟨i1,i2,i3,_⟩:=ql7 (enG r 2 LL[i] (S0 r)) (a:=b) b2 b1 (qvr (by omega) _ _);rw[qsy] at i3;refine⟨?_,i2,i1,by omega⟩;unfold qag;simp only[show decide ((i:Int)<((LL.length:Nat):Int))=true by simp;omega,cond_true,getL hi];rw[inb_iff.2 ⟨by omega,by omega⟩,qc,add_specG hr b (by omega) b1 b2 LL[i] (by omega) (h.run _ hmem),Option.bind_some];simp only[bne_self_eq_false,cond_false];rw[qe (n:=(i:Int)+1) (by omega) (by omega)];rfl
theorem qtW {r:Rules} {LL:List (List Mv)} (k:Int×Mv):hasB (bookL r LL) k=hasB (EL r LL) k:=by
  unfold bookL;rw[fold_EL,has_ins _ (EL_ok r LL)]
theorem tb_L2 {r:Rules} (hr:Rng qT r) {LL:List (List Mv)} (h:qlt r LL):iterW (qaf (LL,((0:Int),())) r ((bookL r LL,()),())) ((0,()),())=some (.inl ((),())):=by
  obtain⟨_,h1,h2,h3⟩:=tb_L1 hr h;have hm:=h.many
  have:=qQ LL (fun _=>false) (qaf (LL,((0:Int),())) r ((bookL r LL,()),())) (.inr false) (.inl ((),())) (fun i hi=>by
    have hmem:=List.getElem_mem hi;have hl0:=h.len _ hmem;unfold qaf;simp only[show decide ((i:Int)<((LL.length:Nat):Int))=true by simp;omega,cond_true,getL hi]
    rw[inb_iff.2 ⟨by omega,by omega⟩,qc,qyK r hr _ (by omega) h1 h2 LL[i] (by omega),Option.bind_some,if_pos (h.run _ hmem),quV LL[i] _ (fun e he=>by
      rw[qtW,qhy]
      exact⟨e,EL_mem.2 ⟨_,hmem,he⟩,rfl⟩)]
    simp only[bne_self_eq_false,Bool.or_self,cond_false];rw[qe (n:=(i:Int)+1) (by omega) (by omega)]
    rfl) (by
    unfold qaf
    simp only[show decide (((LL.length:Nat):Int)<((LL.length:Nat):Int))=false by simp,cond_false])
  rw[this,List.any_eq_false.2 (fun _ _=>by simp),cond_false]
def hit (r:Rules) (m:Mv) (l:List Mv) (i:Nat):Bool:=decide (l.getD i zM=m)&&(keyOf (qq r)==keyOf (qez r (l.take i)).1)
def g4 (r:Rules) (m:Mv) (l:List Mv) (i:Nat) (h:Int):Int:=if (h !=0&&hit r m l i)=true then 0 else h
def h4 (r:Rules) (m:Mv) (l:List Mv) (h:Int):Int:=foldN (g4 r m l) l.length h
theorem fold4 {r:Rules} {m:Mv} {l:List Mv}:∀(n:Nat) (h:Int),(h=0∨∃i,i<n∧hit r m l i=true)→foldN (g4 r m l) n h=0
  | 0,h,hh=>by
    rcases hh with hh | ⟨i,hi,_⟩
    · exact hh
    · omega
  | n+1,h,hh=>by
    show g4 r m l n (foldN (g4 r m l) n h)=0;unfold g4;by_cases c:foldN (g4 r m l) n h=0
    · have:=c;unfold g4 at this;rw[this];simp
    · have c':=c;rcases hh with hh | ⟨i,hi,hit'⟩
      · exact absurd (fold4 n h (.inl hh)) c
      · by_cases e:i=n
        · subst e;rw[hit'];have:=bne_t c;unfold g4 at this;rw[this];simp
        · exact absurd (fold4 n h (.inr ⟨i,by omega,hit'⟩)) c
def h3 (r:Rules) (m:Mv) (LL:List (List Mv)) (h:Int):Int:=foldN (fun k h=>h4 r m (LL.getD k []) h) LL.length h
theorem fold3 {r:Rules} {m:Mv} {LL:List (List Mv)}:∀(n:Nat) (h:Int),(∃k,k<n∧∃i,i<(LL.getD k []).length∧hit r m (LL.getD k []) i=true)→foldN (fun k h=>h4 r m (LL.getD k []) h) n h=0
  | 0,h,⟨k,hk,_⟩=>by omega
  | n+1,h,⟨k,hk,hh⟩=>by
    show h4 r m (LL.getD n []) (foldN (fun k h=>h4 r m (LL.getD k []) h) n h)=0;unfold h4;by_cases e:k=n
    · subst e;exact fold4 _ _ (.inr hh)
    · refine fold4 _ _ (.inl ?_);exact fold3 n h ⟨k,by omega,hh⟩
theorem tb_L4 {r:Rules} (hr:Rng qT r) {LL:List (List Mv)} (h:qlt r LL) (hc:qH r=0) (m:Mv) (k:Nat) (hk:k<LL.length) (h0:Int) :
    iterW (qaG (LL,((0:Int),())) ((h0,((k:Int),())),()) r (qq r,((0:Int),())) (m,((0:Int),()))) ((h0,(0,())),())=some ((h4 r m LL[k] h0,()),()):=by
  have hmem:=List.getElem_mem hk;have hl0:=h.len _ hmem;obtain⟨_,sF,hsF⟩:=qjL (h.run _ hmem)
  refine qfw LL[k].length _ (g4 r m LL[k]) (fun a=>((a,()),())) (fun _ _=>True) h0 trivial (fun i hi a _=>⟨?_,trivial⟩) (fun a _=>by
    unfold qaG
    simp only[getL hk,show decide (((LL[k].length:Nat):Int)<((LL[k].length:Nat):Int))=false by simp,cond_false])
  obtain⟨s2,hs2⟩:=runG_take i hsF;have hrr:qez r (LL[k].take i)=(lastP s2.1,(qR r s2.1,(0,()))):=by
    unfold qez;rw[if_pos hc,show qiB r (LL[k].take i) = .inl s2 from hs2]
  have hv2:Valid r (lastP s2.1):=(qxx _ _ _ (qfz hc) hs2).1.last;have hvb:Valid r (qq r):=qe7 (qaQ hc);have hrun:=qpc r (LL[k].take i) hr (by rw[List.length_take];omega);unfold qaG;simp only[getL hk,show decide ((i:Int)<((LL[k].length:Nat):Int))=true by simp;omega,cond_true];rw[show qo 0 (i:Int) LL[k].length=true by simp only[qo,Bool.and_eq_true,decide_eq_true_eq];omega,qc,Int.toNat_natCast,List.drop_zero];simp only[agree_self];refine(congrArg (fun z=>Option.bind (Option.bind z _) _) (hrun.trans (congrArg some hrr))).trans ?_;rw[Option.bind_some,Option.bind_some];refine(congrArg (fun z=>Option.bind z _) (zkeyB r (qq r) hr hc hvb)).trans ?_;rw[Option.bind_some];refine(congrArg (fun z=>Option.bind z _) (zkeyB r (lastP s2.1) hr hc hv2)).trans ?_
  rw[Option.bind_some]
  have hgd:LL[k].getD i zM=LL[k][i]:=by rw[List.getD_eq_getElem?_getD,List.getElem?_eq_getElem hi];rfl
  rw[qe (n:=(i:Int)+1) (by omega) (by omega)];by_cases c:a=0
  · subst c;rfl
  · simp only[bne_t c,gat,cond_true,Bool.true_and];rw[qpJ LL[k] i hi,Option.bind_some];have e:g4 r m LL[k] i a=if (decide (LL[k][i]=m)&&(keyOf (qq r)==keyOf (lastP s2.1)))=true then 0 else a:=by
      unfold g4 hit;rw[hgd,hrr,bne_t c,Bool.true_and]
    rw[e];have e2:((LL[k][i].1==m.1)&&((LL[k][i].2.1==m.2.1)&&((LL[k][i].2.2.1==m.2.2.1)&&true)))=decide (LL[k][i]=m):=qwP _ _;rw[e2]
    cases (decide (LL[k][i]=m)&&(keyOf (qq r)==keyOf (lastP s2.1)))<;>rfl
theorem tb_L3 {r:Rules} (hr:Rng qT r) {LL:List (List Mv)} (h:qlt r LL) (hc:qH r=0) (m:Mv) (h0:Int) :
    iterW (qaM (LL,((0:Int),())) r (qq r,((0:Int),())) (m,((0:Int),()))) ((h0,(0,())),())=some ((h3 r m LL h0,()),()):=by
  have hm:=h.many
  refine qfw LL.length _ (fun k h=>h4 r m (LL.getD k []) h) (fun a=>((a,()),())) (fun _ _=>True) h0 trivial (fun k hk a _=>⟨?_,trivial⟩) (fun a _=>by
    unfold qaM
    simp only[show decide (((LL.length:Nat):Int)<((LL.length:Nat):Int))=false by simp,cond_false])
  have hgd:LL.getD k []=LL[k]:=by rw[List.getD_eq_getElem?_getD,List.getElem?_eq_getElem hk];rfl
  unfold qaM;simp only[show decide ((k:Int)<((LL.length:Nat):Int))=true by simp;omega,cond_true];rw[inb_iff.2 ⟨by omega,by omega⟩,qc];refine(congrArg (fun z=>Option.bind (Option.bind z _) _) (tb_L4 hr h hc m k hk a)).trans ?_;rw[Option.bind_some,Option.bind_some,qe (n:=(k:Int)+1) (by omega) (by omega),hgd]
theorem way_pos {ns:List RNode} (h:Ord ns ns.length) {i:Nat} (hi:i<ns.length):0<(wayM ns (i:Int)).length:=by
  unfold wayM;rw[List.length_reverse,List.length_map,ql1 (by omega) (h.down.mono (by omega))];simp
theorem take20b {A:Type} (l:List A):(l.take (if (20:Int)<((l.length:Nat):Int) then(20:Int) else((l.length:Nat):Int)).toNat).drop 0=l.take 20:=by
  rw[List.drop_zero];split
  · rfl
  · rw[Int.toNat_natCast,List.take_length,List.take_of_length_le (by omega)]
theorem lines_ok {r:Rules} {x:Rec} (h30:x.2.2.1.length≤20) (c:qgi r x=0):qlt r (qse x.2.2.1):=by
  have ho:=qvS c;have hn:qaO (nErr r x.2.2.1) x.2.2.1.length=0:=by
    unfold qgi at c
    repeat (first | (split at c;· contradiction) | exact c)
  have key:∀l∈qse x.2.2.1,∃i:Nat,i<x.2.2.1.length∧l=wayM x.2.2.1 (i:Int):=fun l hl=>by
    unfold qse at hl;obtain⟨i,hi,rfl⟩:=List.mem_map.1 hl;unfold leaves at hi;exact⟨i,List.mem_range.1 (List.mem_filter.1 hi).1,rfl⟩
  refine⟨?_,fun l hl=>?_,fun l hl=>?_,fun l hl=>?_⟩
  · unfold qse;rw[List.length_map];have:=qym x.2.2.1 x.2.2.1.length;omega
  · obtain⟨i,hi,rfl⟩:=key l hl;have h1:=qcA hn i hi;rw[run_err];unfold nErr at h1
    repeat (first | (split at h1;· contradiction) | exact h1)
  · obtain⟨i,hi,rfl⟩:=key l hl;have hwl:=qm1 _ (i:Int) (Nat.le_refl _) (ho.down.mono (by omega));unfold wayM;rw[List.length_reverse,List.length_map];omega
  · obtain⟨i,hi,rfl⟩:=key l hl;exact way_pos ho hi
theorem there_ne {r:Rules} {LL:List (List Mv)} (h:qlt r LL) (h0:LL.length≠0):(qfm (bookL r LL) (keyOf (qq r)) (qan r (qq r))).length≠0:=by
  obtain⟨l,hl⟩:∃l,l∈LL:=by
    cases LL with
    | nil=>exact absurd rfl h0
    | cons l _=>exact⟨l,List.mem_cons_self⟩
  have hp:=h.pos l hl;obtain⟨hc,sF,hsF⟩:=qjL (h.run l hl)
  cases l with
  | nil=>simp at hp
  | cons m k =>
    have hs:stepG r (S0 r) m=0:=by
      unfold qiB runG at hsF;by_cases c:stepG r (S0 r) m=0
      · exact c
      · rw[if_neg c] at hsF;cases hsF
    have hb:hasB (bookL r LL) (keyOf (qq r),m)=true:=by
      rw[qtW,qhy];exact⟨(keyOf (qq r),(m,(2,()))),EL_mem.2 ⟨_,hl,by unfold enG;exact List.mem_cons_self⟩,rfl⟩
    obtain⟨x,hx,hk⟩:=(qhy _ _).1 hb;have hk1:x.1=keyOf (qq r):=congrArg Prod.fst hk;have hk2:x.2.1=m:=congrArg Prod.snd hk;have hmem:x∈qfm (bookL r LL) (keyOf (qq r)) (qan r (qq r)):=by
      unfold qfm;refine List.mem_filter.2 ⟨hx,?_⟩;rw[hk1,beq_self_eq_true,Bool.true_and,decide_eq_true_eq,hk2,qhG];exact(qxB hs).2
    intro e;have:=List.length_eq_zero_iff.1 e;rw[this] at hmem;cases hmem
theorem qyg {r:Rules} {LL:List (List Mv)} (h:qlt r LL) (n:Int) (m:Mv) (hm:qhS (qfm (bookL r LL) (keyOf (qq r)) (qan r (qq r))) n=some m) (h0:Int):h3 r m LL h0=0:=by
  obtain⟨e,he,hem⟩:=qps _ _ _ hm;unfold qfm at he;obtain⟨h1,h2⟩:=List.mem_filter.1 he;have h3':e.1=keyOf (qq r):=by
    rw[Bool.and_eq_true] at h2;simpa using h2.1
  have hb:hasB (bookL r LL) (keyOf (qq r),m)=true:=by
    rw[qhy];refine⟨e,h1,?_⟩;show(e.1,e.2.1)=_;rw[h3',hem]
  rw[qtW,qhy] at hb;obtain⟨e',he',hk'⟩:=hb;obtain⟨l,hl,hen⟩:=EL_mem.1 he';obtain⟨hc,sF,hsF⟩:=qjL (h.run l hl);obtain⟨i,hi,s',hs',rfl⟩:=enG_mem l (S0 r) sF hsF e' hen;have k1:keyOf (lastP s'.1)=keyOf (qq r):=congrArg Prod.fst hk';have k2:l[i]=m:=congrArg Prod.snd hk';obtain⟨k,hk,rfl⟩:=List.mem_iff_getElem.1 hl
  have hgd:LL.getD k []=LL[k]:=by rw[List.getD_eq_getElem?_getD,List.getElem?_eq_getElem hk];rfl
  unfold h3;refine fold3 _ _ ⟨k,hk,i,by rw[hgd];exact hi,?_⟩;rw[hgd];unfold hit;have hrr:qez r (LL[k].take i)=(lastP s'.1,(qR r s'.1,(0,()))):=by
    unfold qez;rw[if_pos hc,show qiB r (LL[k].take i) = .inl s' from hs']
  rw[hrr,show LL[k].getD i zM=LL[k][i] by rw[List.getD_eq_getElem?_getD,List.getElem?_eq_getElem hi];rfl,k2,k1];simp
theorem gamehalltopTopBook_true (r:Rules) (x:Rec) (draw:Int) (hr:Rng qT r) (hx:Rng tyRec x) (hd:Rng (.int .i64) draw):qcJ r x draw=some true:=by
  unfold qcJ;rw[qyM,Option.bind_some];simp only[Bool.not_true,cond_false];have hxl:=hx.2.2.1.1;have hxl:x.2.2.1.length≤9223372036854775807:=hxl
  rw[show qo 0 (if (20:Int)<((x.2.2.1.length:Nat):Int) then(20:Int) else((x.2.2.1.length:Nat):Int)) x.2.2.1.length=true by simp only[qo,Bool.and_eq_true,decide_eq_true_eq];split<;>omega,qc]
  simp only[take20b]
  cases decide ((((r.2.2.2.2.1.length:Nat):Int))>20) with
  | true=>rfl
  | false =>
    rw[cond_false];obtain⟨y,hy,hye⟩:∃y:Rec,y=(x.1,(x.2.1,(x.2.2.1.take 20,x.2.2.2)))∧y.2.2.1.length≤20:=⟨_,rfl,by show(x.2.2.1.take 20).length≤20;rw[List.length_take];omega⟩;have hyr:Rng tyRec y:=by
      subst hy;refine⟨hx.1,hx.2.1,⟨?_,fun d hd=>hx.2.2.1.2 d (List.mem_of_mem_take hd)⟩,hx.2.2.2⟩;show(x.2.2.1.take 20).length≤_;rw[List.length_take];exact Nat.le_trans (Nat.min_le_right _ _) hxl
    refine(congrArg (fun z=>Option.bind z _) (show _=qcM r y by rw[hy])).trans ?_;rw[qyE hr y hyr (by omega),Option.bind_some];by_cases c:qgi r y=0
    rotate_left
    · simp only[if_pos c,bne_t c,Bool.true_or,cond_true]
    simp only[c,ne_eq,not_true_eq_false,if_false,bne_self_eq_false,Bool.false_or];have hL:=lines_ok hye c;generalize qse y.2.2.1=LL at hL ⊢;by_cases c0:LL.length=0
    · simp only[beq_t (show((LL.length:Nat):Int)=0 by omega),Bool.true_or,cond_true]
    simp only[beq_f (show ¬((LL.length:Nat):Int)=0 by omega),Bool.false_or];by_cases c1:draw<0
    · rw[decide_eq_true c1,cond_true]
    rw[decide_eq_false c1,cond_false];obtain⟨l1,b1,b2,b3⟩:=tb_L1 hr hL;refine(congrArg (fun z=>Option.bind z _) l1).trans ?_;rw[Option.bind_some,Sum.elim_inl];refine(congrArg (fun z=>Option.bind z _) (tb_L2 hr hL)).trans ?_;rw[Option.bind_some,Sum.elim_inl];obtain⟨l,hl⟩:∃l,l∈LL:=by
      cases LL with
      | nil=>exact absurd rfl c0
      | cons l _=>exact⟨l,List.mem_cons_self⟩
    obtain⟨hc,_⟩:=qjL (hL.run l hl);have hvb:Valid r (qq r):=qe7 (qaQ hc);refine(congrArg (fun z=>Option.bind z _) (qeZ r hr)).trans ?_;rw[if_pos hc,Option.bind_some];have hne:=there_ne hL c0;have hwt:=qxU b1 (keyOf (qq r)) (qan r (qq r));have hch:=qvA r hr hc (bookL r LL) (by omega) b1 b2 (qq r) hvb draw hd.2;obtain⟨s1,s2⟩:=qsU (qfm (bookL r LL) (keyOf (qq r)) (qan r (qq r))) 0 hwt (Int.le_refl _);have hfind:=fun n m hm h0=>qyg hL n m hm h0;generalize qfm (bookL r LL) (keyOf (qq r)) (qan r (qq r))=T at hne hwt hch s1 s2 hfind
    have s1':(T.length:Int)≤sumW T:=by unfold sumW;omega
    have h0:0≤draw.tmod (sumW T):=Int.tmod_nonneg _ (by omega);have h1:draw.tmod (sumW T)<sumW T:=Int.tmod_lt_of_pos _ (by omega);obtain⟨m,hm⟩:=qoH T 0 (draw.tmod (sumW T)) hwt (by unfold sumW at h1 ⊢;omega);rcases hm with hm | ⟨hm,_⟩
    rotate_left
    · omega
    rw[if_neg c1,if_neg hne,hm] at hch;refine(congrArg (fun z=>Option.bind z _) hch).trans ?_;rw[Option.bind_some];simp only[bne_self_eq_false,Bool.or_self,cond_false];obtain⟨q,hq⟩:∃q,qd4 r y [m]=some q:=by
      rw[find_spec hr y hyr (by omega)];exact⟨_,rfl⟩
    refine(congrArg (fun z=>Option.bind z _) (show _=some q by rw[←hy];exact hq)).trans ?_;rw[Option.bind_some];refine(congrArg (fun z=>Option.bind z _) (tb_L3 hr hL hc m q.2.1)).trans ?_;rw[Option.bind_some,hfind _ m hm];rfl
end Go.Proofs.YtijkabgijfdpfaaGreatDoor
