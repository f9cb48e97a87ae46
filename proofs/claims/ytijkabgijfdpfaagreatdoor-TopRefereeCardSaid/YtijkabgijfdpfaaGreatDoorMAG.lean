/- Several texts in one: MatchD, PremM, MatchE, ClaimA, ClaimM, MatchF, MatchG, MatchH, MatchI, HtenP, RefA, RefB, RefC, RefD, TopRefereeL. -/
import Derived.Test.YtijkabgijfdpfaaGreatDoorMAF
import Derived.Lib.ItoaLen
import Derived.Lib.AtoiAll
import Derived.Lib.ItoaMem
import Derived.Laws.RangeString
import Derived.Test.YtijkabgijfdpfaaGreatDoorMAE
namespace Go.Proofs.YtijkabgijfdpfaaGreatDoor
open Go.Den
set_option linter.unusedVariables false
set_option linter.unusedSimpArgs false
set_option maxRecDepth 100000

theorem qo8 {u:Nat} (h:u<10):(UInt8.ofNat (48+u)).toNat=48+u:=by
  rw[UInt8.toNat_ofNat'];omega
theorem qv1 (u:Nat):∀c∈Go.Lib.decDigits u,48≤c.toNat∧c.toNat≤57:=by
  induction u using Nat.strongRecOn with
  | _ u ih =>
    intro c hc;rw[Go.Lib.decDigits] at hc;split at hc
    · rename_i h;rw[List.mem_singleton.1 hc,qo8 h];omega
    · rename_i h;rcases List.mem_append.1 hc with hc | hc
      · exact ih (u / 10) (by omega) c hc
      · rw[List.mem_singleton.1 hc,qo8 (by omega)];omega
theorem dec_ne (u:Nat):Go.Lib.decDigits u≠[]:=by
  rw[Go.Lib.decDigits]
  split<;>simp
theorem parse_dec (u:Nat) (hu:u<18446744073709551616):∀r,Go.Lib.parseUint10 0 (Go.Lib.decDigits u++r)=Go.Lib.parseUint10 u r:=by
  induction u using Nat.strongRecOn with
  | _ u ih =>
    intro r;rw[Go.Lib.decDigits];split
    · rename_i h;rw[List.singleton_append]
      conv=>lhs;unfold Go.Lib.parseUint10
      rw[qo8 h,if_pos (by omega),if_neg (by omega),if_neg (by omega)];congr 1;omega
    · rename_i h;rw[List.append_assoc,ih (u / 10) (by omega) (by omega),List.singleton_append]
      conv=>lhs;unfold Go.Lib.parseUint10
      rw[qo8 (by omega),if_pos (by omega),if_neg (by omega),if_neg (by omega)];congr 1;omega
theorem mag_dec (u:Nat) (hu:u<18446744073709551616):Go.Lib.parseMag (Go.Lib.decDigits u) = .ok u:=by
  unfold Go.Lib.parseMag;rw[if_neg (dec_ne u)];have:=parse_dec u hu [];rw[List.append_nil] at this;rw[this];rfl
def I64 (n:Int):Prop := -9223372036854775808≤n∧n≤9223372036854775807
theorem atoi_itoa {n:Int} (h:I64 n):Go.Lib.atoiAll (Go.Lib.itoa n) = .ok n:=by
  unfold Go.Lib.itoa;obtain⟨h0,h1⟩:=h;by_cases c:n<0
  · rw[if_pos c];unfold Go.Lib.atoiAll;simp only[show(45:UInt8).toNat=45 from rfl];rw[if_pos (by simp),mag_dec _ (by omega)];simp only[not_true_eq_false,false_and,if_false,true_and];rw[if_neg (by omega)];simp only[if_true];congr 1;omega
  · rw[if_neg c]
    cases hd:Go.Lib.decDigits n.toNat with
    | nil=>exact absurd hd (dec_ne _)
    | cons a r =>
      have ha:=qv1 n.toNat a (by rw[hd];exact List.mem_cons_self);unfold Go.Lib.atoiAll;simp only;rw[if_neg (by omega),←hd,mag_dec _ (by omega)];simp only;rw[if_neg (by omega),if_neg (by omega),if_neg (by omega)];congr 1;omega
def numS (n:Int):ByteArray:=⟨(Go.Lib.itoa n).toArray⟩
theorem qjM {n:Int} (h:I64 n):itoaS n=some (numS n):=by
  unfold itoaS;rw[decide_eq_true h.1,decide_eq_true h.2];rfl
theorem qs6 (n:Int):(numS n).data.toList=Go.Lib.itoa n:=by unfold numS;simp
theorem qvI (n:Int):∀c∈(numS n).data.toList,c.toNat=45∨48≤c.toNat∧c.toNat≤57:=by
  rw[qs6];intro c hc;unfold Go.Lib.itoa at hc;split at hc
  · rcases List.mem_cons.1 hc with rfl | hc
    · exact .inl rfl
    · exact .inr (qv1 _ c hc)
  · exact .inr (qv1 _ c hc)
theorem qsi {n:Int} (h:I64 n):(numS n).size≤21:=by
  rw[qhF,qs6];exact Go.Lib.itoa_length_le n h.1 h.2
theorem atoi_num {n:Int} (h:I64 n):atoiS (numS n)=some (n,(false,())):=by
  unfold atoiS;rw[Nat.ble_eq_true_of_le (by have:=qsi h;omega),qs6,atoi_itoa h];rfl
def OKT (s:ByteArray):Prop:=s.size≤200∧∀c∈s.data.toList,32≤c.toNat∧c.toNat≤126
theorem qw7 {s:ByteArray} (h:OKT s):qaq s=0:=by
  unfold qaq;rw[if_neg (by have:=h.1;omega)];have:∀(f pos:Nat),Go.Lib.idxFuncFrom qjC true s f pos = -1:=by
    intro f
    induction f with
    | zero=>intro pos;rfl
    | succ f ih =>
      intro pos;unfold Go.Lib.idxFuncFrom;by_cases hp:pos<s.size
      · have hm:=h.2 s[pos] (by
          rw[List.mem_iff_getElem]
          exact⟨pos,by rw[←qhF];exact hp,rfl⟩)
        have hd:=decode_ascii s pos hp (by omega);rw[if_pos hp,hd,ih];have:qjC (s[pos]'hp).toNat=false:=by
          unfold qjC;simp only[Bool.or_eq_false_iff,decide_eq_false_iff_not];omega
        rw[this];rfl
      · rw[if_neg hp]
  unfold Go.Lib.idxFunc;rw[this];rfl
abbrev Ev:=Int×Int×Int×Int×Mv×Unit
structure EvR (e:Ev):Prop where
  kind:I64 e.1
  player:I64 e.2.1
  n:I64 e.2.2.1
  now:I64 e.2.2.2.1
  a:I64 e.2.2.2.2.1.1
  b:I64 e.2.2.2.2.1.2.1
  c:I64 e.2.2.2.2.1.2.2.1
def evL (e:Ev):List Int:=[e.1,e.2.1,e.2.2.1,e.2.2.2.1,e.2.2.2.2.1.1,e.2.2.2.2.1.2.1,e.2.2.2.2.1.2.2.1]
theorem EvR.all {e:Ev} (h:EvR e):∀n∈evL e,I64 n:=by
  intro n hn;simp only[evL,List.mem_cons,List.not_mem_nil,or_false] at hn;rcases hn with rfl | rfl | rfl | rfl | rfl | rfl | rfl
  · exact h.kind
  · exact h.player
  · exact h.n
  · exact h.now
  · exact h.a
  · exact h.b
  · exact h.c
def qbQ (e:Ev):ByteArray:=joinB 32 ((evL e).map numS)
theorem qlD (e:Ev) (h:EvR e):((evL e).map numS).length=7∧∀x∈(evL e).map numS,x.size≤21:=by
  refine⟨rfl,fun x hx=>?_⟩;obtain⟨n,hn,rfl⟩:=List.mem_map.1 hx;exact qsi (h.all n hn)
theorem qnB (e:Ev) (h:EvR e):(qbQ e).size≤154:=by
  have:=qrW 32 21 ((evL e).map numS) (qlD e h).2;rw[(qlD e h).1] at this;exact this
theorem qxU (e:Ev) (h:EvR e):qj5 e=some (qbQ e):=by
  unfold qj5;have step:∀(i:Nat) (hi:i<7) (l:List ByteArray),l.length≤7→qdE e ((l,(i:Int),()),())=some (.inl ((l++[numS ((evL e)[i]'hi)],((i+1:Nat):Int),()),())):=by
    intro i hi l hl;unfold qdE;have hg:getD' [e.1,e.2.1,e.2.2.1,e.2.2.2.1,e.2.2.2.2.1.1,e.2.2.2.2.1.2.1,e.2.2.2.2.1.2.2.1] ((i:Int)).toNat (0:Int)=(evL e)[i]'hi:=by
      rw[Int.toNat_natCast];show getD' (evL e) i 0=_;rw[gd_eq (evL e) i hi]
    have hn:I64 ((evL e)[i]'hi):=h.all _ (List.getElem_mem (l:=evL e) hi);simp only[show decide ((i:Int)<7)=true by simp;omega,cond_true];rw[show inb (i:Int) 7=true from inb_iff.2 ⟨by omega,by omega⟩,qb,hg,qjM hn,Option.bind_some,qT (by simp only[List.length_cons,List.length_nil];omega),qb,qe (by omega) (by omega)];rfl
  have all:∀(k i:Nat),i+k=7→iterW (qdE e) ((((evL e).take i).map numS,(i:Int),()),())=some (((evL e).map numS,()),()):=by
    intro k
    induction k with
    | zero =>
      intro i hi
      have:i=7:=by omega
      subst this;refine ql ?_;rw[List.take_of_length_le (by exact Nat.le_refl _)];rfl
    | succ k ih =>
      intro i hi
      have hi7:i<7:=by omega
      rw[qm (step i hi7 _ (by rw[List.length_map,List.length_take];show min i 7≤7;omega))];have:=ih (i+1) (by omega);rw[List.take_succ_eq_append_getElem (show i<(evL e).length from hi7),List.map_append] at this;exact this
  have h0:=all 7 0 (by omega);rw[List.take_zero] at h0;have h0':iterW (qdE e) ((([]:List ByteArray),(0:Int),()),())=_:=h0;rw[h0',Option.bind_some];have hsz:=qnB e h;have hj:=qxl 32 ((evL e).map numS) (by rw[(qlD e h).1];omega) (by unfold qbQ at hsz;omega);have hj':joinS ((((evL e).map numS,()),()):(List ByteArray×Unit)×Unit).1.1 (ByteArray.mk #[32])=some (qbQ e):=hj;rw[hj'];rfl
theorem qwK (c d:UInt8):∀l:List ByteArray,d∈(joinB c l).data.toList→d=c∨∃x∈l,d∈x.data.toList
  | [],h=>by rw[qtz] at h;cases h
  | [x],h=>by rw[qqv] at h;exact .inr ⟨x,by simp,h⟩
  | x::y::l,h=>by
    rw[qnP,qkx,qkx] at h;rcases List.mem_append.1 h with h | h
    · rcases List.mem_append.1 h with h | h
      · exact .inr ⟨x,by simp,h⟩
      · exact .inl (List.mem_singleton.1 h)
    · rcases qwK c d (y::l) h with h | ⟨z,hz,h⟩
      · exact .inl h
      · exact .inr ⟨z,List.mem_cons_of_mem _ hz,h⟩
theorem entry_ok (e:Ev) (h:EvR e):OKT (qbQ e):=by
  refine⟨by have:=qnB e h;omega,fun c hc=>?_⟩;rcases qwK 32 c _ hc with rfl | ⟨x,hx,hc⟩
  · decide
  · obtain⟨n,_,rfl⟩:=List.mem_map.1 hx;have:=qvI n c hc;omega
abbrev Jn:=List (ByteArray×Int×Unit)
noncomputable def sumJ (b:Int) (s:ByteArray):Int:=(qdO b s).getD 0
theorem qwW (b:Int) (s:ByteArray) (hs:s.size≤1000000):qdO b s=some (sumJ b s):=by
  have:∃v,qdO b s=some v:=by
    unfold qdO;have key:∀(k i:Nat) (h:Int),i+k=s.size→∃h',iterW (qcr s) ((h,(i:Int),()),())=some ((h',()),()):=by
      intro k
      induction k with
      | zero =>
        intro i h hi
        have:i=s.size:=by omega
        subst this;refine⟨h,ql ?_⟩;unfold qcr;simp
      | succ k ih =>
        intro i h hi;obtain⟨c,hc⟩:∃c,strAt s (i:Int)=some c:=by
          have hi2:i<s.size:=by omega
          refine⟨s[i],?_⟩;unfold strAt;rw[show decide ((0:Int)≤(i:Int))=true by simp,cond_true,Int.toNat_natCast];simp[hi2]
        have e:qcr s ((h,(i:Int),()),())=some (.inl ((wu64 ((ixor .u64 h (wu64 ((c.toNat:Nat):Int)))*1099511628211),((i+1:Nat):Int),()),())):=by
          unfold qcr;simp only[show decide ((i:Int)<((s.size:Nat):Int))=true by simp;omega,cond_true];rw[hc,Option.bind_some,qe (by omega) (by omega)];rfl
        rw[qm e];exact ih (i+1) _ (by omega)
    obtain⟨h',hh⟩:=key s.size 0 (ixor .u64 b 14695981039346656037) (by omega);have hh':iterW (qcr s) (((ixor .u64 b 14695981039346656037),(0:Int),()),())=_:=hh;rw[hh',Option.bind_some];exact⟨_,rfl⟩
  obtain⟨v,hv⟩:=this;unfold sumJ;rw[hv];rfl
def lastJ (l:Jn):Int:=match l.getLast? with
  | some x=>x.2.1
  | none=>0
theorem qr9 (l:Jn) (hl:l.length≤1000000):qdS l=some (lastJ l):=by
  unfold qdS lastJ;by_cases h:l=[]
  · subst h;rfl
  · have h0:0<l.length:=List.length_pos_iff.2 h;rw[beq_f (by omega),cond_false,qe (by omega) (by omega),show((l.length:Nat):Int)-1=((l.length-1:Nat):Int) by omega,qsY l _ (by omega),Option.bind_some,List.getLast?_eq_getElem?,List.getElem?_eq_getElem (by omega)]
def JOK (l:Jn):Prop:=l.length≤1000∧∀i (hi:i<l.length),OKT l[i].1∧l[i].2.1=sumJ (lastJ (l.take i)) l[i].1
theorem good_ok {l:Jn} (h:JOK l):qhJ l=some ((l.length:Nat):Int):=by
  unfold qhJ;have hlen:=h.1;have step:∀i (hi:i<l.length),qbD l (((i:Int),()),())=some (.inl ((((i+1:Nat):Int),()),())):=by
    intro i hi;obtain⟨h1,h2⟩:=h.2 i hi;unfold qbD;have hne:((i:Int)==1000)=false:=beq_f (by omega);simp only[ltd l i hi,cond_true];rw[qsY l i hi,Option.bind_some];have hb:qi 0 (i:Int) l.length=true:=by
      simp only[qi,Bool.and_eq_true,decide_eq_true_eq];omega
    simp only[hne,Bool.not_false,imp,cond_true,hb,qb,gopt,Int.toNat_natCast,List.drop_zero];rw[qr9 _ (by rw[List.length_take];omega),Option.bind_some];have hw:qej (lastJ (l.take i)) l[i]=some 0:=by
      unfold qej;rw[qw7 h1,show((0:Int)!=0)=false from rfl,cond_false,qwW _ _ (by have:=h1.1;omega),Option.bind_some,h2,bne_f rfl,cond_false]
    rw[hw,Option.bind_some,qe (by omega) (by omega)];rfl
  have key:∀(k i:Nat),i+k=l.length→iterW (qbD l) (((i:Int),()),())=some (.inl ((),())):=by
    intro k
    induction k with
    | zero =>
      intro i hi
      have:i=l.length:=by omega
      subst this;refine ql ?_;unfold qbD;simp
    | succ k ih =>
      intro i hi;rw[qm (step i (by omega))];exact ih (i+1) (by omega)
  have h0:=key l.length 0 (by omega);have h0':iterW (qbD l) (((0:Int),()),())=_:=h0;rw[h0',Option.bind_some,Sum.elim_inl]
theorem qqq {l:Jn} (h:JOK l):qcV l=some 0:=by
  unfold qcV;have:=h.1;rw[show decide (((l.length:Nat):Int)>1000)=false by rw[decide_eq_false_iff_not];omega,cond_false,good_ok h,Option.bind_some,show decide (((l.length:Nat):Int)<((l.length:Nat):Int))=false by simp,cond_false]
theorem cloneJ (s:Jn) (h:s.length≤1000000):qX s=some s:=by
  unfold qX;have:room (([]:Jn).length+s.length) 24=true:=qT (by simp;omega);rw[this]
  cases s with
  | nil=>simp[qb,agree_self]
  | cons a l=>simp[qb]
noncomputable def nextJ (l:Jn) (s:ByteArray):Jn:=l++[(s,(sumJ (lastJ l) s,()))]
theorem qry {l:Jn} (h:JOK l) (hl:l.length<1000) {s:ByteArray} (hs:OKT s):qL l s=some (nextJ l s,(0,()))∧JOK (nextJ l s):=by
  have hlen:=h.1;constructor
  · unfold qL;rw[qqq h,Option.bind_some,show((0:Int)!=0)=false from rfl,cond_false,qw7 hs,show((0:Int)!=0)=false from rfl,cond_false,beq_f (by omega),cond_false,cloneJ l (by omega),Option.bind_some,qr9 l (by omega),Option.bind_some,qwW _ _ (by have:=hs.1;omega),Option.bind_some,qT (by simp only[List.length_cons,List.length_nil];omega),qb];rfl
  · refine⟨by unfold nextJ;rw[List.length_append,List.length_singleton];omega,fun i hi=>?_⟩;unfold nextJ at hi ⊢;rw[List.length_append,List.length_singleton] at hi;by_cases c:i<l.length
    · rw[List.getElem_append_left c,List.take_append_of_le_length (by omega)];exact h.2 i c
    · have:i=l.length:=by omega
      subst this;rw[List.getElem_append_right (by omega),List.take_left']
      · simp only[Nat.sub_self,List.getElem_cons_zero];exact⟨hs,trivial⟩
      · rfl

abbrev PM:=Int×Mv×Unit
abbrev dPM:PM:=(0,((0,(0,(0,()))),()))
theorem qfI {A:Type} (xs:List A) (i:Nat) (h:i<xs.length):at? xs (i:Int)=some xs[i]:=by
  rw[at?_eq xs _ (Int.natCast_nonneg i) (Int.ofNat_lt.2 h)];simp only[Int.toNat_natCast]
theorem qum {A C:Type} (l:List A) (G:A→List C):∀n,n≤l.length→(List.range n).flatMap (fun i=>(l[i]?).toList.flatMap G)=(l.take n).flatMap G
  | 0,_=>by simp
  | n+1,h=>by
    rw[List.range_succ,List.flatMap_append,qum l G n (by omega),List.take_succ_eq_append_getElem (by omega),List.flatMap_append];simp[List.getElem?_eq_getElem (show n<l.length by omega)]
theorem qrp {A C R:Type} (xs:List A) (B:Nat) (f:(((List C)×Int×Unit)×Unit)→Option ((((List C)×Int×Unit)×Unit) ⊕ R)) (G:A→List C) (fin:List C→R) (a0:List C) (hG:∀x∈xs,(G x).length≤B)
    (hs:∀i (hi:i<xs.length) (a:List C),a.length≤a0.length+i*B→f ((a,(i:Int),()),())=some (.inl ((a++G xs[i],((i:Int)+1),()),()))) (he:∀a,f ((a,(xs.length:Int),()),())=some (.inr (fin a))) :
    iterW f ((a0,(0:Int),()),())=some (fin (a0++xs.flatMap G)):=by
  have:=qhp xs.length B f (fun i=>(xs[i]?).toList.flatMap G) fin a0 (fun i hi=>by
    simp only[List.getElem?_eq_getElem hi,Option.toList_some,List.flatMap_cons,List.flatMap_nil,List.append_nil];exact hG _ (List.getElem_mem hi)) (fun i hi a ha=>by
    simp only[List.getElem?_eq_getElem hi,Option.toList_some,List.flatMap_cons,List.flatMap_nil,List.append_nil]
    exact hs i hi a ha) he
  rw[this,qum xs G _ (Nat.le_refl _),List.take_length]
def ofL (l:List PM) (pl:Int):List Mv:=l.flatMap fun x=>bif x.1==pl then [x.2.1] else []
def woL (l:List PM) (pl:Int):List PM:=l.filter fun x=>!(x.1==pl)
def odd1 (x:PM):Bool:=(x.1 !=0)&&(x.1 !=1)
def pmErr (l:List PM):Int:=if 4<(ofL l 0).length∨4<(ofL l 1).length then 2 else if l.any odd1=true then 4 else 0
theorem qvu (l:List PM) (pl:Int) (hl:l.length≤1000000):qg1 l pl=some (ofL l pl):=by
  unfold qg1
  have:=qrp l 1 (qgn l pl) (fun x=>bif x.1==pl then [x.2.1] else []) (fun a=>((a,()),())) [] (fun x _=>by
    cases (x.1==pl)
    · exact Nat.zero_le _
    · exact Nat.le_refl _) (fun i hi a ha=>by
    simp only[List.length_nil] at ha;unfold qgn;simp only[show decide ((i:Int)<((l.length:Nat):Int))=true by simp;omega,cond_true];rw[qfI l i hi,Option.bind_some,qe (n:=(i:Int)+1) (by omega) (by omega)];cases (l[i].1==pl)
    · simp only[cond_false,Option.bind_some,List.append_nil]
    · simp only[cond_true];rw[qT (by simp only[List.length_cons,List.length_nil];omega),qb]
      rfl) (fun a=>by unfold qgn;simp)
  rw[this,Option.bind_some];rfl
theorem qpq (l:List PM) (hl:l.length≤1000000):qex l=some (pmErr l):=by
  unfold qex pmErr;rw[qvu l 0 hl,Option.bind_some,qvu l 1 hl,Option.bind_some]
  have hL:=qR l odd1 (qc2 l) (.inr 4) (.inl ((),())) (fun i hi=>by
    unfold qc2 odd1;simp only[show decide ((i:Int)<((l.length:Nat):Int))=true by simp;omega,cond_true];rw[qfI l i hi,Option.bind_some,qe (n:=(i:Int)+1) (by omega) (by omega),show decide ((i:Int)≥0)=true by simp]
    cases ((l[i].1 !=0)&&(l[i].1 !=1))<;>rfl) (by unfold qc2;simp)
  rw[hL];by_cases h:4<(ofL l 0).length∨4<(ofL l 1).length
  · rw[if_pos h];by_cases h0:4<(ofL l 0).length
    · rw[show decide ((((ofL l 0).length:Nat):Int)>4)=true by simp only[decide_eq_true_eq];omega];rfl
    · rw[show decide ((((ofL l 0).length:Nat):Int)>4)=false by simp only[decide_eq_false_iff_not];omega,show decide ((((ofL l 1).length:Nat):Int)>4)=true by simp only[decide_eq_true_eq];omega];rfl
  · rw[if_neg h,show decide ((((ofL l 0).length:Nat):Int)>4)=false by simp only[decide_eq_false_iff_not];omega,show decide ((((ofL l 1).length:Nat):Int)>4)=false by simp only[decide_eq_false_iff_not];omega];simp only[cond_false,Option.bind_some]
    cases l.any odd1<;>rfl
theorem qn6 (s:List PM) (h:s.length≤1000000):qq s=some s:=by
  unfold qq;have:room (([]:List PM).length+s.length) 32=true:=qT (by simp;omega);rw[this]
  cases s with
  | nil=>simp[qb,agree_self]
  | cons a l=>simp[qb]
theorem concatPM (a b:List PM) (ha:a.length≤1000) (hb:b.length≤1000):qan [a,b]=some (a++b):=by
  have w1:w64 (0+((a.length:Nat):Int))=(a.length:Int):=by rw[Int.zero_add];exact qe (by omega) (by omega)
  have w2:w64 ((a.length:Int)+((b.length:Nat):Int))=((a.length+b.length:Nat):Int):=by rw[qe (by omega) (by omega)];omega
  have w3:w64 ((0:Int)+1)=1:=by decide
  have w4:w64 ((1:Int)+1)=2:=by decide
  have g0:at? [a,b] 0=some a:=rfl;have g1:at? [a,b] 1=some b:=rfl;have l1:iterW (qx [a,b]) (((0:Int),(0:Int),()),())=some (((((a.length+b.length:Nat):Int)),()),()):=by
    have s0:qx [a,b] (((0:Int),(0:Int),()),())=some (.inl ((((a.length:Nat):Int),(1:Int),()),())):=by
      unfold qx;simp only[g0,w1,w3,Option.bind_some];rw[show decide (((a.length:Nat):Int)<0)=false by simp];rfl
    have s1:qx [a,b] ((((a.length:Nat):Int),(1:Int),()),())=some (.inl ((((a.length+b.length:Nat):Int),(2:Int),()),())):=by
      unfold qx;simp only[g1,w2,w4,Option.bind_some];rw[show decide (((a.length+b.length:Nat):Int)<0)=false by simp;omega];rfl
    have s2:qx [a,b] ((((a.length+b.length:Nat):Int),(2:Int),()),())=some (.inr ((((a.length+b.length:Nat):Int),()),())):=rfl;rw[qm s0,qm s1,ql s2]
  have l2:iterW (qz [a,b]) ((([]:List PM),(0:Int),()),())=some ((a++b,()),()):=by
    have s0:qz [a,b] ((([]:List PM),(0:Int),()),())=some (.inl ((a,(1:Int),()),())):=by
      unfold qz;simp only[g0,w3,Option.bind_some];rw[qT (by simp;omega)];rfl
    have s1:qz [a,b] ((a,(1:Int),()),())=some (.inl ((a++b,(2:Int),()),())):=by
      unfold qz;simp only[g1,w4,Option.bind_some];rw[qT (by omega)];rfl
    have s2:qz [a,b] ((a++b,(2:Int),()),())=some (.inr ((a++b,()),())):=rfl;rw[qm s0,qm s1,ql s2]
  unfold qan;simp only[l1,Option.bind_some];rw[show decide (((a.length+b.length:Nat):Int)<0)=false by simp;omega]
  have w5:w64 (((a.length+b.length:Nat):Int)-0)=((a.length+b.length:Nat):Int):=by rw[Int.sub_zero];exact qe (by omega) (by omega)
  simp only[w5,cond_false];by_cases c:a.length+b.length=0
  · rw[c];simp only[Int.natCast_zero,show decide ((0:Int)>0)=false by decide,cond_false,Option.bind_some];rw[l2];rfl
  · have c1:decide (((a.length+b.length:Nat):Int)>0)=true:=by simp;omega
    have c2:decide (0<((a.length+b.length:Nat):Int))=true:=by simp;omega
    have c3:room ((((a.length+b.length:Nat):Int)).toNat) 32=true:=qT (by omega)
    have c4:∀l:List PM,qi 0 0 l.length=true:=fun l=>by simp[qi]
    simp only[c1,c2,c3,c4,cond_true,Bool.and_self,qb,Option.bind_some,List.take_zero];rw[l2];rfl
def fstI (p:Nat→Bool):Nat→Nat→Nat
  | i,0=>i
  | i,k+1=>bif p i then i else fstI p (i+1) k
theorem fst_rng (p:Nat→Bool):∀(k i:Nat),i≤fstI p i k∧fstI p i k≤i+k∧(fstI p i k<i+k→p (fstI p i k)=true)∧∀j,i≤j→j<fstI p i k→p j=false
  | 0,i=>⟨Nat.le_refl _,Nat.le_refl _,fun h=>absurd h (Nat.lt_irrefl _),fun j h1 h2=>absurd h2 (Nat.not_lt.2 h1)⟩
  | k+1,i=>by
    have ih:=fst_rng p k (i+1);unfold fstI;cases h:p i
    · simp only[cond_false];refine⟨by omega,by omega,fun hl=>ih.2.2.1 (by omega),fun j h1 h2=>?_⟩;by_cases e:j=i
      · subst e;exact h
      · exact ih.2.2.2 j (by omega) h2
    · simp only[cond_true];exact⟨Nat.le_refl _,by omega,fun _=>h,fun j h1 h2=>absurd h2 (Nat.not_lt.2 h1)⟩
theorem qwI {β:Type} (p:Nat→Bool) (g:Nat→β) (B:β):∀(k i:Nat),scan (fun i=>bif p i then some (g i) else none) B i k=if fstI p i k<i+k then g (fstI p i k) else B
  | 0,i=>by
    unfold fstI scan;rw[if_neg (show ¬i<i+0 by omega)]
  | k+1,i=>by
    conv=>lhs;unfold scan
    unfold fstI;cases h:p i
    · simp only[cond_false];rw[qwI p g B k (i+1),show i+1+k=i+(k+1) by omega]
    · simp only[cond_true];rw[if_pos (by omega)]
def fstP (l:List PM) (pl:Int):Nat:=fstI (fun i=>(l.getD i dPM).1==pl) 0 l.length
theorem qsH (l:List PM) (i:Nat) (h:i<l.length):l.getD i dPM=l[i]:=by simp[List.getD_eq_getElem?_getD,h]
theorem wo_L2 (l:List PM) (pl:Int) (hl:l.length≤1000000):∀(k w j:Nat) (ys:List PM),j+k=l.length→w≤j→ys.length=l.length→ys.take w=(l.take j).filter (fun x=>!(x.1==pl))→ys.drop j=l.drop j →
    ∃(w':Nat) (zs:List PM),iterW (qbc pl) (((w:Int),(j:Int),()),(ys,()))=some (((w':Int),()),(zs,()))∧w'≤l.length∧zs.length=l.length∧zs.take w'=woL l pl:=by
  intro k
  induction k with
  | zero =>
    intro w j ys hj hw hy h1 h2
    have:j=l.length:=by omega
    subst this;refine⟨w,ys,ql ?_,hw,hy,by rw[h1,List.take_length];rfl⟩;unfold qbc;simp only[show decide (((l.length:Nat):Int)<((ys.length:Nat):Int))=false by simp;omega,cond_false]
  | succ k ih =>
    intro w j ys hj hw hy h1 h2
    have hjl:j<l.length:=by omega
    have hjy:j<ys.length:=by omega
    have hyj:ys[j]=l[j]:=by
      have e1:(ys.drop j)[0]?=(l.drop j)[0]?:=by rw[h2]
      rw[List.getElem?_drop,List.getElem?_drop,Nat.add_zero,List.getElem?_eq_getElem hjy,List.getElem?_eq_getElem hjl] at e1;exact Option.some.inj e1
    have hdr:∀zs:List PM,zs.drop j=l.drop j→zs.drop (j+1)=l.drop (j+1):=fun zs h=>by
      rw[←List.drop_drop,←List.drop_drop,h]
    have hg:getD' ys j dPM=l[j]:=by unfold getD';rw[qsH ys j hjy,hyj]
    have htk:(l.take (j+1)).filter (fun x=>!(x.1==pl))=(l.take j).filter (fun x=>!(x.1==pl))++(if (!(l[j].1==pl))=true then [l[j]] else []):=by
      rw[List.take_succ_eq_append_getElem hjl,List.filter_append,List.filter_cons,List.filter_nil]
    by_cases hk:(l[j].1==pl)=true
    · obtain⟨w',zs,q1,q2⟩:=ih w (j+1) ys (by omega) (by omega) hy (by rw[htk,hk,h1];simp) (hdr ys h2);refine⟨w',zs,?_,q2⟩;rw[qm (y:=(((w:Int),((j+1:Nat):Int),()),(ys,())))]
      · exact q1
      · unfold qbc;simp only[show decide ((j:Int)<((ys.length:Nat):Int))=true by simp;omega,cond_true];rw[inb_iff.2 ⟨by omega,by omega⟩,qb,Int.toNat_natCast];rw[hg,hk,Bool.not_true,cond_false,Option.bind_some,qe (n:=(j:Int)+1) (by omega) (by omega)];rfl
    · have hk:=Bool.eq_false_iff.2 hk
      have hws:w<ys.length:=by omega
      obtain⟨w',zs,q1,q2⟩:=ih (w+1) (j+1) (ys.set w l[j]) (by omega) (by omega) (by rw[List.length_set];exact hy) (by
        rw[htk,hk,←h1,List.take_succ_eq_append_getElem (by rw[List.length_set];exact hws),List.getElem_set_self,List.take_set_of_le (Nat.le_refl _)]
        simp) (by
        rw[List.drop_set_of_lt (by omega)]
        exact hdr ys h2)
      refine⟨w',zs,?_,q2⟩;rw[qm (y:=((((w+1:Nat):Int),((j+1:Nat):Int),()),(ys.set w l[j],())))]
      · exact q1
      · unfold qbc;simp only[show decide ((j:Int)<((ys.length:Nat):Int))=true by simp;omega,cond_true];rw[inb_iff.2 ⟨by omega,by omega⟩,qb,Int.toNat_natCast];rw[hg,hk,Bool.not_false,cond_true,inb_iff.2 ⟨by omega,by omega⟩,qb,Option.bind_some,qe (n:=(j:Int)+1) (by omega) (by omega),qe (n:=(w:Int)+1) (by omega) (by omega),Int.toNat_natCast];rfl
theorem qoh (l:List PM) (pl:Int) (hl:l.length≤1000000):qct l pl=some (woL l pl):=by
  unfold qct;rw[qn6 l hl,Option.bind_some];have key:∀k i:Nat,i+k=l.length→(∀j,j<i→((l.getD j dPM).1==pl)=false)→Option.bind (iterW (qay l pl) (((i:Int),()),())) (Sum.elim (fun _=>some l) some)=some (woL l pl):=by
    have pre:∀i,i≤l.length→(∀j,j<i→((l.getD j dPM).1==pl)=false)→(l.take i).filter (fun x=>!(x.1==pl))=l.take i:=fun i hi h=>by
      rw[List.filter_eq_self];intro x hx;obtain⟨j,hj,rfl⟩:=List.mem_iff_getElem.1 hx;rw[List.length_take] at hj;rw[List.getElem_take,←qsH l j (by omega),h j (by omega)];rfl
    intro k
    induction k with
    | zero =>
      intro i hi h
      have:i=l.length:=by omega
      subst this;rw[ql (r := .inl ((),())) (by unfold qay;simp)];have:=pre l.length (Nat.le_refl _) h;rw[List.take_length] at this;show some l=some (woL l pl);unfold woL;rw[this]
    | succ k ih =>
      intro i hi h
      have hil:i<l.length:=by omega
      have hg:getD' l i dPM=l.getD i dPM:=rfl;cases hp:((l.getD i dPM).1==pl)
      · rw[qm (y:=((((i+1:Nat):Int),()),()))]
        · exact ih (i+1) (by omega) fun j hj=>by
            by_cases e:j=i
            · subst e;exact hp
            · exact h j (by omega)
        · unfold qay;simp only[show decide ((i:Int)<((l.length:Nat):Int))=true by simp;omega,cond_true];rw[inb_iff.2 ⟨by omega,by omega⟩,qb,Int.toNat_natCast,hg,hp,cond_false,qe (n:=(i:Int)+1) (by omega) (by omega)];rfl
      · obtain⟨w',zs,q1,q2,q3,q4⟩:=wo_L2 l pl hl (l.length-(i+1)) i (i+1) l (by omega) (by omega) rfl (by
          rw[List.take_succ_eq_append_getElem hil,List.filter_append,List.filter_cons,List.filter_nil,←qsH l i hil,hp,pre i (by omega) h]
          simp) rfl
        have hf:qay l pl (((i:Int),()),())=some (.inr (.inr (woL l pl))):=by
          unfold qay;simp only[show decide ((i:Int)<((l.length:Nat):Int))=true by simp;omega,cond_true];rw[inb_iff.2 ⟨by omega,by omega⟩,qb,Int.toNat_natCast,hg,hp,cond_true,beq_f (show ¬(i:Int) = -1 by omega),cond_false,qe (n:=(i:Int)+1) (by omega) (by omega)];rw[show((i:Int)+1)=((i+1:Nat):Int) by omega,q1,Option.bind_some];simp only[Int.toNat_natCast];rw[show qi (w':Int) ((zs.length:Nat):Int) zs.length=true by simp only[qi,Bool.and_eq_true,decide_eq_true_eq];omega,qb];rw[show ∀ys:List PM,qi 0 (w':Int) (zs.take w'++ys).length=true from fun ys=>by
            simp only[qi,Bool.and_eq_true,decide_eq_true_eq,List.length_append,List.length_take]
            omega,qb,←q4]
          rw[show ∀ys:List PM,(zs.take w'++ys).take w'=zs.take w' from fun ys=>by
            rw[List.take_append_of_le_length (by rw[List.length_take];omega),List.take_take,Nat.min_self]]
          rfl
        rw[ql hf];rfl
  exact key l.length 0 (by omega) (fun j hj=>by omega)
def openM (r:Rules) (p:Place):List Mv:=if qdg r p=0 then qjn r p else []
theorem qro {r:Rules} {p:Place} (h:Valid r p):qg3 r p=some (openM r p):=by
  unfold qg3 openM;rw[qpx h,Option.bind_some];by_cases c:qdg r p=0
  · rw[bne_f c,cond_false,if_pos c,qmL h];rfl
  · rw[bne_t c,cond_true,if_neg c]
theorem openM_mem {r:Rules} {p:Place} {m:Mv}:m∈openM r p↔qdg r p=0∧qF r p m=true:=by
  unfold openM;by_cases c:qdg r p=0
  · rw[if_pos c,qlr];exact⟨fun h=>⟨c,h⟩,fun h=>h.2⟩
  · rw[if_neg c];exact⟨fun h=>(by cases h),fun h=>absurd h.1 c⟩
theorem qtW {r:Rules} {p:Place} (h:Valid r p):(openM r p).length≤100000:=by
  unfold openM;split
  · exact qpH h
  · simp
def resN (r:Rules) (p:Place) (l:List PM) (i:Nat):Mv×Bool×List PM×Unit :=
  if (l.getD i dPM).2.1∈openM r p then((l.getD i dPM).2.1,(true,(l.take i++l.drop (i+1),()))) else((0,(0,(0,()))),(false,(woL l p.turn,())))
def nextP (r:Rules) (p:Place) (l:List PM):Mv×Bool×List PM×Unit :=
  if fstP l p.turn<l.length then resN r p l (fstP l p.turn) else((0,(0,(0,()))),(false,(woL l p.turn,())))
theorem next_spec {r:Rules} {p:Place} (h:Valid r p) (l:List PM) (hl:l.length≤1000):qhm r p l=some (nextP r p l):=by
  unfold qhm
  have hL:=qn8 l.length (qd2 l p r) (fun i=>bif (l.getD i dPM).1==p.turn then some (Sum.inr (resN r p l i)) else none) (.inl ((),())) (fun i hi=>by
    unfold qd2 resN;simp only[show decide ((i:Int)<((l.length:Nat):Int))=true by simp;omega,cond_true];rw[qfI l i hi,Option.bind_some,qe (n:=(i:Int)+1) (by omega) (by omega),qsH l i hi];show(bif (l[i].1==p.turn) then _ else _)=_;cases hp:(l[i].1==p.turn)
    · rfl
    · simp only[cond_true];rw[show decide ((i:Int)<0)=false by simp];simp only[Bool.not_false,cond_false,qY,agree_self]
      have hgat:∀z,gat true z l (i:Int)=some l[i]:=fun z=>by show at? l (i:Int)=_;exact qfI l i hi
      rw[hgat,Option.bind_some,qro h,Option.bind_some,qnH _ _ (by have:=qtW h;omega),Option.bind_some,Option.bind_some];simp only;by_cases hm:l[i].2.1∈openM r p
      · rw[decide_eq_true hm,if_pos hm];simp only[Bool.not_true,cond_false];rw[show qi 0 (i:Int) l.length=true by simp only[qi,Bool.and_eq_true,decide_eq_true_eq];omega,show qi ((i:Int)+1) ((l.length:Nat):Int) l.length=true by simp only[qi,Bool.and_eq_true,decide_eq_true_eq];omega];simp only[qb,qY,agree_self,Option.bind_some,Int.toNat_natCast,List.drop_zero,List.take_length];rw[concatPM _ _ (by rw[List.length_take];omega) (by rw[List.length_drop];omega)];rw[show((i:Int)+1).toNat=i+1 by omega];rfl
      · rw[decide_eq_false hm,if_neg hm];simp only[Bool.not_false,cond_true];rw[show p.2.2.1=p.turn from rfl,qoh l _ (by omega)]
        rfl) (by unfold qd2;simp)
  rw[hL,qwI,Nat.zero_add];unfold nextP;show Option.bind (some (if fstP l p.turn<l.length then Sum.inr (resN r p l (fstP l p.turn)) else Sum.inl ((),()))) _=_;by_cases c:fstP l p.turn<l.length
  · rw[if_pos c,if_pos c];rfl
  · rw[if_neg c,if_neg c];simp only[Option.bind_some,Sum.elim_inl];have hg:∀z:PM,gat false z l (-1)=some z:=fun z=>rfl;rw[hg,Option.bind_some];rw[show p.2.2.1=p.turn from rfl,qoh l _ (by omega)];rfl
theorem addP_spec (l:List PM) (hl:l.length≤1000) (pl:Int) (m:Mv):qjY l pl m=some (if pmErr l≠0 then([],(pmErr l,())) else if pl≠0∧pl≠1 then([],(1,())) else if (ofL l pl).length=4 then([],(9,())) else(l++[(pl,(m,()))],(0,()))):=by
  unfold qjY;rw[qpq l (by omega),Option.bind_some];by_cases c:pmErr l=0
  rotate_left
  · rw[bne_t c,cond_true,if_pos c]
  rw[bne_f c,cond_false,if_neg (fun h=>h c)];by_cases c1:pl≠0∧pl≠1
  · rw[if_pos c1,bne_t c1.1,bne_t c1.2];rfl
  rw[if_neg c1,show((pl !=0)&&(pl !=1))=false by
    rw[Bool.and_eq_false_iff];by_cases e:pl=0
    · exact .inl (bne_f e)
    · exact .inr (bne_f (by omega)),cond_false,qvu l pl (by omega),Option.bind_some]
  by_cases c2:(ofL l pl).length=4
  · rw[if_pos c2,c2];rfl
  rw[if_neg c2,beq_f (show ¬(((ofL l pl).length:Nat):Int)=4 by omega),cond_false];simp only[qY,agree_self];rw[qn6 l (by omega),Option.bind_some,qT (by simp only[List.length_cons,List.length_nil];omega),qb,Option.bind_some]
def faultP (r:Rules) (p:Place) (l:List PM):Int:=if qcL r p≠0 then qcL r p else pmErr l
theorem qvW (r:Rules) (p:Place) (l:List PM) (hr:Rng qbJ r) (hn:p.1.length≤9223372036854775807) (hl:l.length≤1000):qd5 r p l=some (faultP r p l):=by
  unfold qd5 faultP;rw[qrJ r p hr hn,Option.bind_some];by_cases c:qcL r p=0
  · rw[bne_f c,cond_false,if_neg (fun h=>h c),qpq l (by omega),Option.bind_some]
  · rw[bne_t c,cond_true,if_pos c]
theorem qxL (r:Rules) (p:Place) (hr:Rng qbJ r) (hv:Valid r p) (c:qaa r=0) (l:List PM) (hl:l.length≤1000):qbk r p l=some (if pmErr l≠0 then((0,(0,(0,()))),(false,([],(pmErr l,())))) else((nextP r p l).1,((nextP r p l).2.1,((nextP r p l).2.2.1,(0,()))))):=by
  unfold qbk;rw[qvW r p l hr (by have:=qcI hv;omega) hl,Option.bind_some];unfold faultP;rw[qwE c hv];simp only[ne_eq,not_true_eq_false,if_false];by_cases h:pmErr l=0
  · rw[bne_f h,cond_false,next_spec hv l hl,Option.bind_some,if_neg (by simp[h])]
  · rw[bne_t h,cond_true,if_pos h]

theorem qaR {r:Rules} {s:List Place×List Mv} (h:OKG r s):qr (r,(s.1,(s.2,())))=some s.2:=by
  have hm:=h.most;have hc:qcJ s.2=some s.2:=by
    unfold qcJ
    cases hs:s.2 with
    | nil =>
      rw[show(([]:List Mv).isEmpty)=true from rfl,cond_true,qT (by simp),qb];exact agree_self _
    | cons m l =>
      rw[hs] at hm;rw[show(m::l).isEmpty=false from rfl,cond_false,qT (by simp at hm ⊢;omega),qb,List.nil_append]
  unfold qr;simp only[hc,Option.bind_some]
structure RG (r:Rules) (s:List Place×List Mv):Prop where
  ok:OKG r s
  reach:qrc r s.2 = .inl s
theorem qsF {r:Rules} (m:Mv):∀(k:List Mv) (s:List Place×List Mv),runG r (k++[m]) s=match runG r k s with
    | .inl s'=>if stepG r s' m=0 then .inl (nextG r s' m) else .inr (stepG r s' m)
    | .inr e => .inr e
  | [],s=>rfl
  | x::k,s=>by
    rw[List.cons_append];unfold runG;split
    · exact qsF m k _
    · rfl
theorem RG.next {r:Rules} {s:List Place×List Mv} {m:Mv} (h:RG r s) (c:stepG r s m=0):RG r (nextG r s m):=⟨qwa h.ok c,by
  show runG r (s.2++[m]) _=_;have:runG r s.2 ([qaC r],[]) = .inl s:=h.reach;rw[qsF,this]
  simp only[c,if_true]⟩
theorem RG.begin {r:Rules} (c:qaa r=0):RG r ([qaC r],[]):=⟨qmX c,rfl⟩
def backG (s:List Place×List Mv):List Place×List Mv:=(s.1.dropLast,s.2.dropLast)
theorem back_next (r:Rules) (s:List Place×List Mv) (m:Mv):backG (nextG r s m)=s:=by
  unfold backG nextG;simp
theorem RG.last_step {r:Rules} {s:List Place×List Mv} (h:RG r s) (h0:0<s.2.length):RG r (backG s)∧∃m,s=nextG r (backG s) m∧stepG r (backG s) m=0:=by
  have hne:s.2≠[]:=fun e=>by rw[e] at h0;simp at h0
  have hk:s.2=s.2.dropLast++[s.2.getLast hne]:=(List.dropLast_concat_getLast hne).symm;have hr:=h.reach;unfold qrc at hr;rw[hk,qsF] at hr
  cases hq:runG r s.2.dropLast ([qaC r],[]) with
  | inr e=>rw[hq] at hr;cases hr
  | inl s' =>
    rw[hq] at hr;simp only at hr;split at hr
    · rename_i c;have e:nextG r s' (s.2.getLast hne)=s:=Sum.inl.inj hr
      have hb:backG s=s':=by rw[←e];exact back_next r s' _
      obtain⟨o1,o2⟩:=run_ok _ _ _ (qmX h.ok.ok) hq;rw[List.nil_append] at o2;refine⟨⟨by rw[hb];exact o1,?_⟩,_,by rw[hb];exact e.symm,by rw[hb];exact c⟩;rw[hb,o2];exact hq
    · cases hr
theorem RG.back {r:Rules} {s:List Place×List Mv} (h:RG r s) (h0:0<s.2.length):RG r (backG s):=(h.last_step h0).1
theorem RG.back_open {r:Rules} {s:List Place×List Mv} (h:RG r s) (h0:0<s.2.length):qE r (backG s).1=0:=by
  obtain⟨_,m,_,c⟩:=h.last_step h0;exact(step_0 c).1
theorem qo7 (s:List Place×List Mv):(backG s).2.length=s.2.length-1:=by unfold backG;simp
def par (n:Nat):Int:=((n % 2:Nat):Int)
theorem qwz (n:Nat):par (n+1)=1-par n:=by unfold par;omega
theorem par_rng (n:Nat):0≤par n∧par n≤1:=by unfold par;omega
theorem qxp (r:Rules) (s:List Place×List Mv) (m:Mv):lastP (nextG r s m).1=qlE r (lastP s.1) m:=by
  unfold nextG lastP;simp only[List.length_append,List.length_singleton,Nat.add_sub_cancel];exact gd_app2 _ _
theorem RG.turn {r:Rules}:∀(n:Nat) {s:List Place×List Mv},RG r s→s.2.length=n→(lastP s.1).turn=par n
  | 0,s,h,hn=>by
    have he:s.2=[]:=List.length_eq_zero_iff.1 hn;have hr:=h.reach;rw[he] at hr;have:s=([qaC r],[]):=(Sum.inl.inj hr).symm;rw[this];rfl
  | n+1,s,h,hn=>by
    obtain⟨hb,m,e,_⟩:=h.last_step (by omega);have:=RG.turn n hb (by rw[qo7];omega);rw[e,qxp,qwz,←this];rfl
theorem back_spec {r:Rules} {s:List Place×List Mv} (h:OKG r s):qdD (r,(s.1,(s.2,())))=some (if s.2.length=0 then((r,(s.1,(s.2,()))),8) else((r,((backG s).1,((backG s).2,()))),0)):=by
  obtain⟨l,ms⟩:=s;have hl:l.length=ms.length+1:=h.len;have hm:ms.length≤400:=h.most;unfold qdD;simp only;by_cases c:ms.length=0
  · rw[if_pos c,c];rfl
  · rw[if_neg c,beq_f (show ¬((ms.length:Nat):Int)=0 by omega),cond_false]
    have w1:w64 (((l.length:Nat):Int)-1)=((l.length-1:Nat):Int):=by rw[qe (by omega) (by omega)];omega
    have w2:w64 (((ms.length:Nat):Int)-1)=((ms.length-1:Nat):Int):=by rw[qe (by omega) (by omega)];omega
    have b1:qi 0 ((l.length-1:Nat):Int) l.length=true:=by simp only[qi,Bool.and_eq_true,decide_eq_true_eq];omega
    have b2:qi 0 ((ms.length-1:Nat):Int) ms.length=true:=by simp only[qi,Bool.and_eq_true,decide_eq_true_eq];omega
    simp only[w1,w2,b1,b2,qb,qY,agree_self,Option.bind_some,Int.toNat_natCast];unfold backG;rw[List.dropLast_eq_take,List.dropLast_eq_take]

def bec (pr:Nat→Nat) (g:Nat):Nat→Nat→Bool
  | 0,_=>false
  | m+1,k=>k==g||(decide (0<pr k)&&bec pr g m (pr k-1))
def passG (pr:Nat→Nat) (f:Nat→Bool) (k:Nat):Nat→Bool:=fun j=>if j=k then(f k||(decide (0<pr k)&&f (pr k-1))) else f j
def passL (pr:Nat→Nat) (l:List Nat) (f:Nat→Bool):Nat→Bool:=l.foldl (passG pr) f
def closN (pr:Nat→Nat) (n g:Nat):Nat→Nat→Bool
  | 0=>fun j=>j==g
  | t+1=>passL pr (List.range n) (closN pr n g t)
def sumN (f:Nat→Int):Nat→Int
  | 0=>0
  | n+1=>sumN f n+f n
theorem qxh {f g:Nat→Int}:∀n,(∀i,i<n→f i=g i)→sumN f n=sumN g n
  | 0,_=>rfl
  | n+1,h=>by unfold sumN;rw[qxh n (fun i hi=>h i (by omega)),h n (by omega)]
theorem qwV (f:Nat→Int) (B:Int):∀n,(∀i,i<n→0≤f i∧f i≤B)→0≤sumN f n∧sumN f n≤n*B
  | 0,_=>by simp[sumN]
  | n+1,h=>by
    have h1:=qwV f B n (fun i hi=>h i (by omega));have h2:=h n (by omega);unfold sumN;rw[show((n+1:Nat):Int)*B=(n:Int)*B+B by rw[Int.natCast_add,Int.add_mul];simp];omega
def tup {A:Type} (f:Nat→A):A×A×A×A×A×A×Unit:=(f 0,f 1,f 2,f 3,f 4,f 5,())

def ownB (pl c:Int):Bool:=decide (c>0)&&((w64 (c-1)).tmod 2==pl)
def kc (c:Int):Nat:=((c-1) / 2).toNat
theorem kc_eq {c:Int} (h:0<c) (h':c≤12):w64 ((w64 (c-1)).tdiv 2)=((kc c:Nat):Int):=by
  unfold kc;rw[qe (n:=c-1) (by omega) (by omega),Int.tdiv_eq_ediv_of_nonneg (by omega),qe (by omega) (by omega)];omega
theorem qwq {pl c:Int} (h:ownB pl c=true):0<c:=by
  unfold ownB at h;rw[Bool.and_eq_true,decide_eq_true_eq] at h;exact h.1
def handP (p:Place) (pl:Int):List Int:=getD' [p.2.1.1,p.2.1.2.1] pl.toNat []
def hk (p:Place) (pl:Int) (k:Nat):Int:=getD' (handP p pl) k 0
def nN (p:Place) (pl:Int) (n:Nat):Int:=((p.1.countP (ownB pl):Nat):Int)+sumN (hk p pl) n
def qcx (p:Place) (pl:Int) (n:Nat):List Nat:=(p.1.filter (ownB pl)).map kc++(List.range n).filter (fun k=>decide (hk p pl k>0))
def qdA (p:Place) (pl:Int) (n:Nat):List Int:=(qcx p pl n).map fun k:Nat=>(k:Int)
theorem handP_len {r:Rules} {p:Place} (hv:Valid r p) {pl:Int} (hpl:pl=0∨pl=1):(handP p pl).length=r.pieces.length:=by
  rcases hpl with h | h
  · subst h;exact hv.l0
  · subst h;exact hv.l1
theorem hk_rng {r:Rules} {p:Place} (hv:Valid r p) {pl:Int} (hpl:pl=0∨pl=1) (k:Nat):0≤hk p pl k∧hk p pl k≤1000:=by
  unfold hk;by_cases c:k<(handP p pl).length
  · rw[gd_eq _ k c];rcases hpl with h | h
    · subst h;exact hv.hand0 _ (List.getElem_mem (l:=p.2.1.1) (by exact c))
    · subst h;exact hv.hand1 _ (List.getElem_mem (l:=p.2.1.2.1) (by exact c))
  · simp[getD',List.getElem?_eq_none (Nat.not_lt.1 c)]
theorem quA {r:Rules} {p:Place} (hv:Valid r p):p.1.length≤64:=by
  have h1:=hv.cells;have h2:=hv.r0.area;have h3:((p.1.length:Nat):Int)=r.width*r.height:=h1;omega
theorem cell12 {r:Rules} {p:Place} (hv:Valid r p) {c:Int} (hc:c∈p.1):0≤c∧c≤2*((r.pieces.length:Nat):Int)∧c≤12:=by
  have h1:=hv.cell c hc;have h2:=hv.r0.t6;omega
theorem himp (b:Bool):imp b true=true:=by cases b<;>rfl
theorem take_le {A:Type} (q:A→Bool) (l:List A) (i:Nat):((l.take i).filter q).length≤i:=Nat.le_trans (List.length_filter_le _ _) (by simp;omega)
theorem qxG {r:Rules} {p:Place} (hv:Valid r p) {pl:Int} (hpl:pl=0∨pl=1):qj2 p pl=some (qdA p pl r.pieces.length,(nN p pl r.pieces.length,())):=by
  have hc64:=quA hv;have ht6:=hv.r0.t6;have hH:=handP_len hv hpl;have h1:iterW (qc8 p pl) ((([]:List Int),(0:Int),(0:Int),()),())=some ((((p.1.filter (ownB pl)).map (fun c=>((kc c:Nat):Int))),(((p.1.countP (ownB pl):Nat):Int)),()),()):=by
    have:=qcQ (f:=qc8 p pl) p.1.length (fun i=>((((p.1.take i).filter (ownB pl)).map (fun c=>((kc c:Nat):Int)),(((p.1.take i).countP (ownB pl):Nat):Int),(i:Int),()),())) ((((p.1.filter (ownB pl)).map (fun c=>((kc c:Nat):Int))),(((p.1.countP (ownB pl):Nat):Int)),()),()) (fun i hi=>by
      have hm:p.1[i]∈p.1:=List.getElem_mem _;have h12:=cell12 hv hm
      have hcl:(p.1.take i).countP (ownB pl)≤i:=by rw[List.countP_eq_length_filter];exact take_le _ _ _
      unfold qc8;simp only[ltd p.1 i hi,cond_true];rw[at?_eq _ _ (by omega) (by omega)];simp only[Option.bind_some,Int.toNat_natCast,himp,qb];rw[show(decide (p.1[i]>0)&&((w64 (p.1[i]-1)).tmod 2==pl))=ownB pl p.1[i] from rfl,List.take_succ_eq_append_getElem hi,List.filter_append,List.map_append,List.countP_append];rw[qe (n:=(i:Int)+1) (by omega) (by omega)]
      cases hq:ownB pl p.1[i] with
      | true =>
        have hp0:=qwq hq;rw[kc_eq hp0 h12.2.2,qe (n:=(((p.1.take i).countP (ownB pl):Nat):Int)+1) (by omega) (by omega),cond_true];rw[qT (by rw[List.length_map];have:=take_le (ownB pl) p.1 i;simp only[List.length_singleton];omega),qb];simp[hq]
      | false =>
        simp[hq]) (by
      unfold qc8
      simp only[nltd,cond_false,List.take_length])
    exact this
  have h2:iterW (qdf p pl) ((((p.1.filter (ownB pl)).map (fun c=>((kc c:Nat):Int))),(((p.1.countP (ownB pl):Nat):Int)),(0:Int),()),())=some ((qdA p pl r.pieces.length,nN p pl r.pieces.length,()),()):=by
    have hcp:p.1.countP (ownB pl)≤64:=Nat.le_trans List.countP_le_length hc64;have hfl:(p.1.filter (ownB pl)).length≤64:=Nat.le_trans (List.length_filter_le _ _) hc64
    have:=qcQ (f:=qdf p pl) r.pieces.length (fun i=>((qdA p pl i,nN p pl i,(i:Int),()),())) ((qdA p pl r.pieces.length,nN p pl r.pieces.length,()),()) (fun i hi=>by
      have hk1:=hk_rng hv hpl i;have hs:=qwV (hk p pl) 1000 i (fun j _=>hk_rng hv hpl j);unfold qdf;simp only[show getD' [p.2.1.1,p.2.1.2.1] pl.toNat []=handP p pl from rfl];simp only[ltd (handP p pl) i (by omega),cond_true];rw[at?_eq _ _ (by omega) (by omega)];simp only[Option.bind_some,Int.toNat_natCast];rw[show(handP p pl)[i]'(by omega)=hk p pl i from(gd_eq _ i (by omega) 0).symm];rw[qe (n:=(i:Int)+1) (by omega) (by omega)]
      have e1:nN p pl (i+1)=nN p pl i+hk p pl i:=by unfold nN;rw[sumN];omega
      have hn:0≤nN p pl i∧nN p pl i≤6064:=by unfold nN;omega
      have e2:qdA p pl (i+1)=bif decide (hk p pl i>0) then qdA p pl i++[(i:Int)] else qdA p pl i:=by
        unfold qdA qcx;rw[List.range_succ,List.filter_append]
        cases hq:decide (hk p pl i>0)<;>simp[hq]
      rw[e1,e2]
      cases hq:decide (hk p pl i>0) with
      | true =>
        have hl:(qdA p pl i).length≤100:=by
          unfold qdA qcx;rw[List.length_map,List.length_append,List.length_map];have:((List.range i).filter (fun k=>decide (hk p pl k>0))).length≤(List.range i).length:=List.length_filter_le _ _;rw[List.length_range] at this;omega
        rw[cond_true,qT (by simp only[List.length_singleton];omega),qb,qe (n:=nN p pl i+hk p pl i) (by omega) (by omega)];rfl
      | false =>
        have hz:hk p pl i=0:=by rw[decide_eq_false_iff_not] at hq;omega
        rw[hz,Int.add_zero]
        rfl) (by
      unfold qdf;simp only[show getD' [p.2.1.1,p.2.1.2.1] pl.toNat []=handP p pl from rfl]
      rw[show((r.pieces.length:Nat):Int)=(((handP p pl).length:Nat):Int) by rw[hH],nltd,cond_false])
    have e0:qdA p pl 0=(p.1.filter (ownB pl)).map (fun c=>((kc c:Nat):Int)):=by
      unfold qdA qcx;simp
    have e1:nN p pl 0=((p.1.countP (ownB pl):Nat):Int):=by unfold nN;simp[sumN]
    rw[←e0,←e1];exact this
  unfold qj2;rw[h1,Option.bind_some,show inb pl 2=true from inb_iff.2 (by omega),qb,h2,Option.bind_some]
theorem qwH {r:Rules} {p:Place} (hv:Valid r p) {pl:Int} {k:Nat} (hk':k∈qcx p pl r.pieces.length):k<r.pieces.length:=by
  unfold qcx at hk';rcases List.mem_append.1 hk' with h | h
  · obtain⟨c,hc,e⟩:=List.mem_map.1 h;obtain⟨h1,h2⟩:=List.mem_filter.1 hc;have h3:=cell12 hv h1;have h4:=qwq h2;rw[←e];unfold kc;omega
  · exact List.mem_range.1 (List.mem_filter.1 h).1
def dQ:Piece:=(0,0,0,[],())
def qkF (r:Rules) (k:Nat):Piece:=getD' r.pieces k dQ
def prN (r:Rules) (k:Nat):Nat:=(qkF r k).2.2.1.toNat
theorem quN (r:Rules) {k:Nat} (h:k<r.pieces.length):qkF r k∈r.pieces:=by unfold qkF;rw[gd_eq _ k h];exact List.getElem_mem _
theorem qtf (r:Rules) {k:Nat} (h:k<r.pieces.length):at? r.2.2.2.1 (k:Int)=some (qkF r k):=by
  rw[at?_eq _ _ (by omega) (by show(k:Int)<((r.pieces.length:Nat):Int);omega)];unfold qkF;rw[gd_eq _ k h];rfl
theorem qxM {r:Rules} (hv:VR0 r) (g:Nat):∀m i k:Nat,i+m=r.pieces.length+1→k<r.pieces.length→Option.bind (α:=((Unit)×(Unit)) ⊕ Bool) (iterW (qa7 r (g:Int)) (((k:Int),(i:Int),()),())) (Sum.elim (fun x4=>some false) some)=some (bec (prN r) g m k):=by
  have ht6:=hv.t6;have hw:w64 (((r.2.2.2.1.length:Nat):Int)+1)=((r.pieces.length:Nat):Int)+1:=qe (by show _≤((r.pieces.length:Nat):Int)+1;omega) (by show((r.pieces.length:Nat):Int)+1≤_;omega);intro m
  induction m with
  | zero =>
    intro i k hi hk
    rw[ql (r := .inl ((),())) (by
      unfold qa7;simp only;rw[hw,decide_eq_false (by omega)]
      rfl)]
    rfl
  | succ m ih =>
    intro i k hi hk;have hp:=hv.prom _ (quN r hk);by_cases e:k=g
    · rw[ql (r := .inr true) (by
        unfold qa7;simp only
        rw[hw,decide_eq_true (by omega),cond_true,beq_t (by omega),cond_true])]
      unfold bec;rw[beq_t e];rfl
    · by_cases c:(qkF r k).2.2.1=0
      · rw[ql (r := .inr false) (by
          unfold qa7;simp only
          rw[hw,decide_eq_true (by omega),cond_true,beq_f (by omega),cond_false,qtf r hk,Option.bind_some,beq_t c,cond_true])]
        unfold bec;rw[beq_f e,decide_eq_false (show ¬0<prN r k by unfold prN;omega)];rfl
      · have e2:w64 ((qkF r k).2.2.1-1)=((prN r k-1:Nat):Int):=by
          unfold prN;rw[qe (by omega) (by omega)];omega
        have hlt:prN r k-1<r.pieces.length:=by unfold prN;omega
        rw[qm (y:=((((prN r k-1:Nat):Int),((i+1:Nat):Int),()),())) (by
          unfold qa7;simp only;rw[hw,decide_eq_true (by omega),cond_true,beq_f (by omega),cond_false,qtf r hk,Option.bind_some,beq_f c,cond_false,Option.bind_some,e2,qe (n:=(i:Int)+1) (by omega) (by omega)]
          rfl),ih (i+1) (prN r k-1) (by omega) hlt]
        conv=>rhs;unfold bec
        rw[beq_f e,decide_eq_true (show 0<prN r k by unfold prN;omega)];rfl
theorem quO {r:Rules} (hv:VR0 r) (g k:Nat) (hk:k<r.pieces.length):qjk r (k:Int) (g:Int)=some (bec (prN r) g (r.pieces.length+1) k):=qxM hv g _ 0 k (by omega) hk

theorem qxA (q:Piece) (hq:q.2.2.2.1.length≤16) (i:Nat):iterW (qgp q (((i:Int),()),())) (((0:Int),()),())=some (bif q.2.2.2.1.any (fun w=>w.2.2.2.1 !=0) then .inr (.inr (.inr ((true,()),()))) else .inl ((),())):=by
  refine qR (β:=((Unit)×(Unit)) ⊕ (((Int×Unit)×(Unit)) ⊕ (((Unit)×(Unit)) ⊕ ((Bool×Unit)×(Unit))))) q.2.2.2.1 (fun w=>w.2.2.2.1 !=0) _ (.inr (.inr (.inr ((true,()),())))) (.inl ((),())) (fun j hj=>?_) ?_
  · unfold qgp;simp only;rw[ltd _ j hj,cond_true,at?_eq _ _ (by omega) (by omega),Option.bind_some,decide_eq_true (show(j:Int)≥0 by omega),decide_eq_true (show(i:Int)≥0 by omega),qe (n:=(j:Int)+1) (by omega) (by omega)];simp only[Int.toNat_natCast]
    cases (q.2.2.2.1[j].2.2.2.1 !=0)<;>rfl
  · unfold qgp;simp only;rw[nltd];rfl
def takesK (r:Rules) (k:Nat):Bool:=(qkF r k).2.2.2.1.any fun w=>w.2.2.2.1 !=0
def ableX (r:Rules) (p:Place) (pl:Int) (x:End):Bool:=(x.2.2.2.1||(x.1==2))||((((x.1==0)&&decide (nN p pl r.pieces.length≥x.2.2.1))||((x.1==1)&&(qcx p pl r.pieces.length).any (bec (prN r) x.2.1.toNat (r.pieces.length+1))))||(r.keeps&&(qcx p pl r.pieces.length).any (takesK r)))
theorem able_spec {r:Rules} {p:Place} (hv:Valid r p) {pl:Int} (hpl:pl=0∨pl=1) {x:End} (hx:x∈r.ends):qmZ r p x pl=some (ableX r p pl x):=by
  have hE:=hv.r0.ends x hx;have ht1:=hv.r0.t1;have ht6:=hv.r0.t6;have hx1:0≤x.2.1:=by
    have:=hE.2.2
    split at this<;>omega
  have hg:x.2.1=((x.2.1.toNat:Nat):Int):=by omega
  have hTl:(qcx p pl r.pieces.length).length≤100:=by
    have hfl:(p.1.filter (ownB pl)).length≤64:=Nat.le_trans (List.length_filter_le _ _) (quA hv);have:((List.range r.pieces.length).filter (fun k=>decide (hk p pl k>0))).length≤(List.range r.pieces.length).length:=List.length_filter_le _ _;rw[List.length_range] at this;unfold qcx;rw[List.length_append,List.length_map];omega
  have hlen:(qdA p pl r.pieces.length).length=(qcx p pl r.pieces.length).length:=List.length_map _;have hget:∀i (hi:i<(qcx p pl r.pieces.length).length),getD' (qdA p pl r.pieces.length) i 0=(((qcx p pl r.pieces.length)[i]:Nat):Int):=fun i hi=>by
    rw[gd_eq _ i (by omega)];unfold qdA;rw[List.getElem_map]
  have i1:iterW (qfQ (qdA p pl r.pieces.length,(nN p pl r.pieces.length,())) r x) (((0:Int),()),())=some (bif (qcx p pl r.pieces.length).any (bec (prN r) x.2.1.toNat (r.pieces.length+1)) then .inr ((true,()),()) else .inl ((),())):=by
    refine qR (β:=((Unit)×(Unit)) ⊕ ((Bool×Unit)×(Unit))) (qcx p pl r.pieces.length) _ _ (.inr ((true,()),())) (.inl ((),())) (fun i hi=>?_) ?_
    · unfold qfQ;simp only;rw[decide_eq_true (show(i:Int)<(((qdA p pl r.pieces.length).length:Nat):Int) by omega),cond_true,inbN _ i (by omega),qb,Int.toNat_natCast,hget i hi,hg,quO hv.r0 _ _ (qwH hv (List.getElem_mem _)),Option.bind_some,decide_eq_true (show(i:Int)≥0 by omega),qe (n:=(i:Int)+1) (by omega) (by omega)];rfl
    · unfold qfQ;simp only;rw[decide_eq_false (by omega)];rfl
  have i2:iterW (qgl (qdA p pl r.pieces.length,(nN p pl r.pieces.length,())) r) (((0:Int),()),())=some (bif (qcx p pl r.pieces.length).any (takesK r) then .inr ((true,()),()) else .inl ((),())):=by
    refine qR (β:=((Unit)×(Unit)) ⊕ ((Bool×Unit)×(Unit))) (qcx p pl r.pieces.length) _ _ (.inr ((true,()),())) (.inl ((),())) (fun i hi=>?_) ?_
    · have hlt:=qwH hv (List.getElem_mem hi);have hwl:=hv.r0.ways _ (quN r hlt);unfold qgl;simp only;rw[decide_eq_true (show(i:Int)<(((qdA p pl r.pieces.length).length:Nat):Int) by omega),cond_true,inbN _ i (by omega),qb,Int.toNat_natCast,hget i hi,qtf r hlt,Option.bind_some,qe (n:=(i:Int)+1) (by omega) (by omega)];rw[qxA _ hwl i];show _=bif (qkF r (qcx p pl r.pieces.length)[i]).2.2.2.1.any (fun w=>w.2.2.2.1 !=0) then _ else _
      cases (qkF r (qcx p pl r.pieces.length)[i]).2.2.2.1.any (fun w=>w.2.2.2.1 !=0)<;>rfl
    · unfold qgl;simp only;rw[decide_eq_false (by omega)];rfl
  unfold qmZ;rw[qxG hv hpl,Option.bind_some,i1,i2];unfold ableX;show _=some (_||(_||(r.2.2.2.2.2.2.1&&_)))
  cases (x.2.2.2.1||(x.1==2)) with
  | true=>rfl
  | false =>
    cases ((x.1==0)&&decide (nN p pl r.pieces.length≥x.2.2.1)) with
    | true=>rfl
    | false =>
      cases (x.1==1)<;>cases (qcx p pl r.pieces.length).any (bec (prN r) x.2.1.toNat (r.pieces.length+1))<;>cases r.2.2.2.2.2.2.1<;>cases (qcx p pl r.pieces.length).any (takesK r)<;>rfl
def ableR (r:Rules) (p:Place) (pl:Int):Bool:=(r.blocked !=2)||r.ends.any (ableX r p pl)
theorem qrh (r:Rules) (p:Place) (pl:Int) (hr:Rng qbJ r) (hn:p.1.length≤9223372036854775807):qfw r p pl=some (if qcL r p=0 then if pl=0∨pl=1 then(ableR r p pl,(0,())) else(false,(1,())) else(false,(qcL r p,()))):=by
  unfold qfw;rw[qrJ r p hr hn,Option.bind_some];by_cases c:qcL r p=0
  · have hv:=valid_of c;have h6:=hv.r0.ends6;rw[bne_f c,cond_false,if_pos c];by_cases cp:pl=0∨pl=1
    · rw[if_pos cp,show((pl !=0)&&(pl !=1))=false by rcases cp with h | h<;>subst h<;>rfl,cond_false]
      have i1:iterW (qd9 r p pl) (((0:Int),()),())=some (bif r.ends.any (ableX r p pl) then .inr ((true,(0:Int),()),()) else .inl ((),())):=by
        refine qR (β:=((Unit)×(Unit)) ⊕ ((Bool×Int×Unit)×(Unit))) r.ends _ _ (.inr ((true,(0:Int),()),())) (.inl ((),())) (fun i hi=>?_) ?_
        · have hi':i<r.2.2.2.2.2.2.2.1.length:=hi;unfold qd9;simp only;rw[ltd _ i hi',cond_true,at?_eq _ _ (by omega) (by omega),Option.bind_some];simp only[Int.toNat_natCast];rw[able_spec hv cp (x:=r.2.2.2.2.2.2.2.1[i]) (List.getElem_mem (l:=r.ends) hi),Option.bind_some,decide_eq_true (show(i:Int)≥0 by omega),qe (n:=(i:Int)+1) (by omega) (by omega)];rfl
        · unfold qd9;simp only;rw[show decide (((r.ends.length:Nat):Int)<((r.2.2.2.2.2.2.2.1.length:Nat):Int))=false from nltd r.ends];rfl
      rw[i1];unfold ableR;show _=some ((r.2.2.2.2.2.2.2.2.1 !=2)||_,_)
      cases (r.2.2.2.2.2.2.2.2.1 !=2)<;>cases r.ends.any (ableX r p pl)<;>rfl
    · rw[if_neg cp,show((pl !=0)&&(pl !=1))=true by rw[bne_t (by omega),bne_t (by omega)];rfl];rfl
  · rw[bne_t c,if_neg c];rfl
set_option maxHeartbeats 0

structure MS where
  g:List Place×List Mv
  res:Int
  rea:Int
  c:Clk
  o:Offs
  pm:List PM
  last:Int
  j:Jn
abbrev StT:=List Mv×Int×Int×Clk×Offs×List PM×Unit
abbrev qjD:=Rules×CRule×Game×StT×Int×Jn×Unit
def tupM (r:Rules) (cr:CRule) (m:MS):qjD:=(r,(cr,(gm r m.g,(([],(m.res,(m.rea,(m.c,(m.o,(m.pm,())))))),(m.last,(m.j,()))))))
def dClk:Clk:=((0,(0,())),((0,(0,())),((0,(0,())),(0,(0,(false,(0,())))))))
def dOff:Offs:=((0,(0,())),(((0,(0,())),((0,(0,())),())),()))
noncomputable def ofMove (o:Offs) (pl:Int):Offs:=((qgU o pl).getD (dOff,(0,()))).1
noncomputable def qri (o:Offs) (k pl n:Int):Offs×Int:=let x:=(qdk o k pl n).getD (dOff,(0,())); (x.1,x.2.1)
noncomputable def qrT (o:Offs) (k pl n:Int):Offs×Int:=let x:=(qaV o k pl n).getD (dOff,(0,())); (x.1,x.2.1)
noncomputable def ofAcc (o:Offs) (k pl n:Int):Offs×Int:=let x:=(qdT o k pl n).getD (dOff,(0,())); (x.1,x.2.1)
noncomputable def qwf (o:Offs) (n:Int):Offs:=((qfD o n).getD (dOff,(0,()))).1
noncomputable def lookC (cr:CRule) (c:Clk) (now:Int):Clk:=((qaD cr c now).getD (dClk,(0,()))).1
theorem qvX (o:Offs) (pl:Int):∃e,qgU o pl=some (ofMove o pl,(e,())):=by
  obtain⟨o',e,h⟩:=qxC o pl;exact⟨e,by unfold ofMove;rw[h];rfl⟩
theorem qpv (o:Offs) (k pl n:Int):qdk o k pl n=some ((qri o k pl n).1,((qri o k pl n).2,())):=by
  obtain⟨o',e,h⟩:=qxu o k pl n;unfold qri;rw[h];rfl
theorem qp1 (o:Offs) (k pl n:Int):qaV o k pl n=some ((qrT o k pl n).1,((qrT o k pl n).2,())):=by
  obtain⟨o',e,h⟩:=qsR o k pl n;unfold qrT;rw[h];rfl
theorem qxX (o:Offs) (k pl n:Int):qdT o k pl n=some ((ofAcc o k pl n).1,((ofAcc o k pl n).2,()))∧((ofAcc o k pl n).2=0→(k=0∨k=1)∧(pl=0∨pl=1)∧0≤n∧n≤400):=by
  obtain⟨o',e,h,h'⟩:=qu3 o k pl n;unfold ofAcc;rw[h];exact⟨rfl,h'⟩
theorem qvS (o:Offs) (n:Int):∃e,qfD o n=some (qwf o n,(e,())):=by
  obtain⟨o',e,h⟩:=qxT o n;exact⟨e,by unfold qwf;rw[h];rfl⟩
theorem qnJ (cr:CRule) (c:Clk) (now:Int) (hl:cr.1.length≤9223372036854775807):∃e,qaD cr c now=some (lookC cr c now,(e,())):=by
  obtain⟨c',e,h,_⟩:=look_some cr c now hl;exact⟨e,by unfold lookC;rw[h];rfl⟩
noncomputable def moveM (r:Rules) (cr:CRule) (m:MS) (x:Mv) (now:Int):MS:={ m with g:=nextG r m.g x,c:=qgD cr m.c now,o:=ofMove m.o (par m.g.2.length) }
noncomputable def annM (r:Rules) (cr:CRule) (now:Int):Nat→MS→MS
  | 0,m=>m
  | k+1,m=>if qE r m.g.1=0∧m.g.2.length<400 then
      if (nextP r (lastP m.g.1) m.pm).2.1=true then annM r cr now k (moveM r cr { m with pm:=(nextP r (lastP m.g.1) m.pm).2.2.1 } (nextP r (lastP m.g.1) m.pm).1 now)
      else { m with pm:=(nextP r (lastP m.g.1) m.pm).2.2.1 }
    else m
noncomputable def qnW (r:Rules) (cr:CRule) (m:MS) (e:Ev):MS×Int :=
  if par m.g.2.length≠e.2.1 then(m,12) else if e.2.2.2.2.1∉openM r (lastP m.g.1) then(m,13) else if m.g.2.length=400 then(m,2)
  else(annM r cr e.2.2.2.1 (m.pm.length+1) (moveM r cr m e.2.2.2.2.1 e.2.2.2.1),0)
noncomputable def qmn (m:MS) (e:Ev):MS×Int :=
  let x:=if e.1=3 then qrT m.o e.2.2.1 e.2.1 ((m.g.2.length:Nat):Int) else qri m.o e.2.2.1 e.2.1 ((m.g.2.length:Nat):Int)
  if x.2=0 then({ m with o:=x.1 },0) else(m,x.2)
def backN:Nat→List Place×List Mv→List Place×List Mv
  | 0,s=>s
  | k+1,s=>backN k (backG s)
noncomputable def qi6 (m:MS) (e:Ev):MS×Int :=
  let x:=ofAcc m.o e.2.2.1 e.2.1 ((m.g.2.length:Nat):Int)
  if x.2≠0 then(m,x.2) else if e.2.2.1=0 then({ m with o:=x.1,res:=3,rea:=4 },0)
  else
    let g:=backN (qil (1-e.2.1) ((m.g.2.length:Nat):Int)).toNat m.g
    ({ m with g:=g,o:=qwf x.1 ((g.2.length:Nat):Int),c:=(m.c.1,(m.c.2.1,(m.c.2.2.1,(par g.2.length,(e.2.2.2.1,m.c.2.2.2.2.2))))),pm:=[] },0)
def fallR (r:Rules) (p:Place) (pl:Int):Int:=if ableR r p (1-pl)=true then 2-pl else 3
noncomputable def qmO (r:Rules) (cr:CRule) (m:MS) (e:Ev):MS×Int :=
  if e.2.2.1=2 then
    if (lookC cr m.c e.2.2.2.1).2.2.2.2.2.2.1<0 then(m,10)
    else({ m with res:=fallR r (lastP m.g.1) (lookC cr m.c e.2.2.2.1).2.2.2.2.2.2.1,rea:=2,c:=lookC cr m.c e.2.2.2.1 },0)
  else if e.2.2.1≠0∧e.2.2.1≠1 then(m,1) else if par m.g.2.length≠e.2.1 then(m,12)
  else if e.2.2.1=0∧3≤qeG m.g.1∨e.2.2.1=1∧20≤(lastP m.g.1).quiet then({ m with res:=3,rea:=5 },0) else(m,10)
def qgW (m:MS) (e:Ev):MS×Int :=
  if par m.g.2.length=e.2.1 then(m,12) else if (ofL m.pm e.2.1).length=4 then(m,9) else({ m with pm:=m.pm++[(e.2.1,(e.2.2.2.2.1,()))] },0)
noncomputable def kindM (r:Rules) (cr:CRule) (m:MS) (e:Ev):MS×Int :=
  if e.1=0 then qnW r cr m e else if e.1=1∨e.1=3 then qmn m e else if e.1=2 then qi6 m e else if e.1=5 then qmO r cr m e
  else if e.1=6 then qgW m e else({ m with res:=2-e.2.1,rea:=3 },0)
def overM (r:Rules) (m:MS):MS:=if m.res=0∧qE r m.g.1≠0 then { m with res:=qE r m.g.1,rea:=1 } else m
noncomputable def doneM (r:Rules) (m:MS) (e:Ev):MS:=overM r { m with last:=e.2.2.2.1,j:=nextJ m.j (qbQ e) }
noncomputable def doM (r:Rules) (cr:CRule) (m:MS) (e:Ev):MS×Int :=
  if (e.1<0∨6<e.1)∨(e.2.1≠0∧e.2.1≠1) then(m,1) else if e.2.2.2.1<m.last∨100000000<e.2.2.2.1 then(m,11) else if m.res≠0 then(m,14)
  else if m.j.length=1000 then(m,9)
  else if (0≤(lookC cr m.c e.2.2.2.1).2.2.2.2.2.2.1∧e.1≠4)∧¬(e.1=5∧e.2.2.1=2) then(m,11)
  else if (kindM r cr m e).2≠0 then(m,(kindM r cr m e).2) else(doneM r (kindM r cr m e).1 e,0)
structure MOK (r:Rules) (cr:CRule) (m:MS):Prop where
  rng:Rng qbJ r
  len:cr.1.length≤9223372036854775807
  g:RG r m.g
  cok:chkC cr=0
  clk:m.res=0→GoodC cr m.c m.last
  turn:m.res=0→m.c.2.2.2.1=par m.g.2.length
  opn:m.res=0→qE r m.g.1=0
  pm:pmErr m.pm=0
  few:m.pm.length≤8
  j:JOK m.j
structure MID (r:Rules) (cr:CRule) (m:MS) (now:Int):Prop where
  rng:Rng qbJ r
  len:cr.1.length≤9223372036854775807
  g:RG r m.g
  clk:GoodC cr m.c now
  turn:m.c.2.2.2.1=par m.g.2.length
  pm:pmErr m.pm=0
  few:m.pm.length≤8
theorem qrk {r:Rules} {cr:CRule} {m:MS} {now:Int} (h:MID r cr m now) {x:Mv} (c:stepG r m.g x=0):qav (tupM r cr m) x now=some (tupM r cr (moveM r cr m x now),()):=by
  obtain⟨e,he⟩:=qvX m.o (par m.g.2.length);obtain⟨hp,_⟩:=qrm h.len h.clk;have ht:=RG.turn m.g.2.length h.g rfl;unfold qav tupM gm;simp only;rw[qZ h.g.ok,Option.bind_some,qvb h.g.ok,Option.bind_some,if_pos c,hp,Option.bind_some];rw[show(lastP m.g.1).2.2.1=(lastP m.g.1).turn from rfl,ht,he,Option.bind_some];rfl
theorem qwk {r:Rules} {cr:CRule} {m:MS} {now:Int} (h:MID r cr m now) {x:Mv} (c:stepG r m.g x=0):MID r cr (moveM r cr m x now) now:=by
  obtain⟨_,p1,p2,p3⟩:=qrm h.len h.clk
  have hlen:(moveM r cr m x now).g.2.length=m.g.2.length+1:=by unfold moveM nextG;simp
  refine⟨h.rng,h.len,h.g.next c,p1,?_,h.pm,h.few⟩;show(qgD cr m.c now).2.2.2.1=_;rw[p2,h.turn,hlen,qwz]
theorem qnf (pl:Int):∀l:List PM,(ofL l pl).length=l.countP (fun x=>x.1==pl)
  | []=>rfl
  | x::l=>by
    have ih:=qnf pl l;unfold ofL at *;rw[List.flatMap_cons,List.length_append,ih,List.countP_cons];cases (x.1==pl)
    · simp
    · simp;omega
theorem qwv:∀l:List PM,l.length=l.countP (fun x=>x.1==0)+l.countP (fun x=>x.1==1)+l.countP odd1
  | []=>rfl
  | x::l=>by
    have ih:=qwv l;simp only[List.length_cons,List.countP_cons];rw[show odd1 x=((x.1 !=0)&&(x.1 !=1)) from rfl];by_cases h0:x.1=0
    · simp only[h0];simp;omega
    · by_cases h1:x.1=1
      · simp only[h1];simp;omega
      · simp[h0,h1];omega
theorem qtN (l:List PM):pmErr l=0↔l.countP (fun x=>x.1==0)≤4∧l.countP (fun x=>x.1==1)≤4∧l.countP odd1=0:=by
  unfold pmErr;rw[qnf,qnf];constructor
  · intro h;split at h
    · cases h
    · rename_i c;split at h
      · cases h
      · rename_i d;refine⟨by omega,by omega,?_⟩;rw[List.countP_eq_zero];intro x hx q;exact d (List.any_eq_true.2 ⟨x,hx,q⟩)
  · rintro ⟨a,b,c⟩
    rw[if_neg (by omega),if_neg];intro d;obtain⟨x,hx,q⟩:=List.any_eq_true.1 d;exact(List.countP_eq_zero.1 c x hx) q
theorem pm_len {l:List PM} (h:pmErr l=0):l.length≤8:=by
  have:=(qtN l).1 h;have:=qwv l;omega
theorem pm_sub {l l':List PM} (hs:l'.Sublist l) (h:pmErr l=0):pmErr l'=0:=by
  have h1:=(qtN l).1 h;have a:=hs.countP_le (p:=fun x=>x.1==0);have b:=hs.countP_le (p:=fun x=>x.1==1);have c:=hs.countP_le (p:=odd1);exact(qtN l').2 ⟨by omega,by omega,by omega⟩
theorem next_sub (r:Rules) (p:Place) (l:List PM):(nextP r p l).2.2.1.Sublist l:=by
  unfold nextP;split
  · unfold resN;split
    · show(l.take _++l.drop _).Sublist l;rw[←List.eraseIdx_eq_take_drop_succ];exact List.eraseIdx_sublist _ _
    · exact List.filter_sublist
  · exact List.filter_sublist
theorem next_mem {r:Rules} {p:Place} {l:List PM} (h:(nextP r p l).2.1=true):(nextP r p l).1∈openM r p∧(nextP r p l).2.2.1.length+1=l.length:=by
  unfold nextP at *;split at h
  · rename_i c;rw[if_pos c];unfold resN at *;split at h
    · rename_i d;rw[if_pos d];refine⟨d,?_⟩;show(l.take _++l.drop _).length+1=_;rw[List.length_append,List.length_take,List.length_drop];omega
    · cases h
  · cases h
theorem quc {r:Rules} {s:List Place×List Mv} {m:Mv} (hr:qE r s.1=0) (hm:m∈openM r (lastP s.1)) (hl:s.2.length<400):stepG r s m=0:=by
  unfold stepG;rw[if_pos hr,if_pos (openM_mem.1 hm).2,if_neg (by omega)]
def flatT (x:qjD):ByteArray×Int×Int×(List (Int×Int×Int×(List (Int×Int×Int×Int×Unit))×Unit))×(List Int)×Bool×Bool×(List (Int×Int×Int×Bool×Unit))×Int×Int×Int×(List (Int×Int×Unit))×Int×Int×Game×(List Mv)×Int×Int×Int×Int×Int×Int×Int×Int×Int×Int×Bool×Int×Int×Int×Int×Int×Int×Int×(List PM)×Int×Jn×Unit :=
  (x.1.1,(x.1.2.1,(x.1.2.2.1,(x.1.2.2.2.1,(x.1.2.2.2.2.1,(x.1.2.2.2.2.2.1,(x.1.2.2.2.2.2.2.1,(x.1.2.2.2.2.2.2.2.1,(x.1.2.2.2.2.2.2.2.2.1,(x.1.2.2.2.2.2.2.2.2.2.1,(x.1.2.2.2.2.2.2.2.2.2.2.1,(x.2.1.1,(x.2.1.2.1,(x.2.1.2.2.1,((x.2.2.1.1,(x.2.2.1.2.1,(x.2.2.1.2.2.1,()))),(x.2.2.2.1.1,(x.2.2.2.1.2.1,(x.2.2.2.1.2.2.1,
  (x.2.2.2.1.2.2.2.1.1.1,(x.2.2.2.1.2.2.2.1.1.2.1,(x.2.2.2.1.2.2.2.1.2.1.1,(x.2.2.2.1.2.2.2.1.2.1.2.1,(x.2.2.2.1.2.2.2.1.2.2.1.1,(x.2.2.2.1.2.2.2.1.2.2.1.2.1,(x.2.2.2.1.2.2.2.1.2.2.2.1,(x.2.2.2.1.2.2.2.1.2.2.2.2.1,(x.2.2.2.1.2.2.2.1.2.2.2.2.2.1,(x.2.2.2.1.2.2.2.1.2.2.2.2.2.2.1,
  (x.2.2.2.1.2.2.2.2.1.1.1,(x.2.2.2.1.2.2.2.2.1.1.2.1,(x.2.2.2.1.2.2.2.2.1.2.1.1.1,(x.2.2.2.1.2.2.2.2.1.2.1.1.2.1,(x.2.2.2.1.2.2.2.2.1.2.1.2.1.1,(x.2.2.2.1.2.2.2.2.1.2.1.2.1.2.1,(x.2.2.2.1.2.2.2.2.2.1,x.2.2.2.2)))))))))))))))))))))))))))))))))))
def withP (x:qjD) (l:List PM):qjD:=(x.1,(x.2.1,(x.2.2.1,((x.2.2.2.1.1,(x.2.2.2.1.2.1,(x.2.2.2.1.2.2.1,(x.2.2.2.1.2.2.2.1,(x.2.2.2.1.2.2.2.2.1,(l,())))))),x.2.2.2.2))))
theorem dm_L1 (e:Ev) (x:qjD):qaF e ((),(flatT x,()))=Option.bind (Option.bind (qac x.2.2.1) fun a=>bif (a==(0:Int)) then(Option.bind (qr x.2.2.1) fun b=>some (((decide (((b.length:Nat):Int)<(400:Int))),()),())) else some ((false,()),())) fun b =>
    bif b.1.1 then(Option.bind (Option.bind (qj x.2.2.1) fun p=>Option.bind (qbk x.1 p x.2.2.2.1.2.2.2.2.2.1) fun y=>some ((y.1,(y.2.1,(y.2.2.1,()))),())) fun z=>bif (!z.1.2.1) then some (.inr ((),(flatT (withP x z.1.2.2.1),()))) else Option.bind (qav (withP x z.1.2.2.1) z.1.1 e.2.2.2.1) fun w=>some (.inl ((),(flatT w.1,()))))
    else some (.inr ((),(flatT x,()))):=by
  unfold qaF;simp only[qY,agree_self];rfl

theorem mid_pm {r:Rules} {cr:CRule} {m:MS} {now:Int} (h:MID r cr m now) {l:List PM} (hs:l.Sublist m.pm):MID r cr { m with pm:=l } now :=
  ⟨h.rng,h.len,h.g,h.clk,h.turn,pm_sub hs h.pm,pm_len (pm_sub hs h.pm)⟩
theorem qwd {r:Rules} {cr:CRule} {now:Int} (e:Ev) (he:e.2.2.2.1=now):∀(k:Nat) (m:MS),MID r cr m now→m.pm.length<k →
    iterW (qaF e) ((),(flatT (tupM r cr m),()))=some ((),(flatT (tupM r cr (annM r cr now k m)),()))∧MID r cr (annM r cr now k m) now
  | 0,m,_,hk=>absurd hk (Nat.not_lt_zero _)
  | k+1,m,h,hk=>by
    have hL:=dm_L1 e (tupM r cr m);rw[show(tupM r cr m).2.2.1=(r,(m.g.1,(m.g.2,()))) from rfl,show(tupM r cr m).1=r from rfl,show(tupM r cr m).2.2.2.1.2.2.2.2.2.1=m.pm from rfl,qf1 h.g.ok,qaR h.g.ok,qZ h.g.ok] at hL;simp only[Option.bind_some] at hL;unfold annM;by_cases c0:qE r m.g.1=0
    · rw[c0] at hL;simp only[beq_self_eq_true,cond_true,Option.bind_some] at hL;by_cases c1:m.g.2.length<400
      · rw[show decide (((m.g.2.length:Nat):Int)<400)=true by simp;omega,cond_true,qxL r _ h.rng h.g.ok.last h.g.ok.ok _ (by have:=h.few;omega),Option.bind_some] at hL;rw[if_neg (fun q=>q h.pm)] at hL;simp only[Option.bind_some] at hL;rw[if_pos ⟨c0,c1⟩];have hmid:=mid_pm h (next_sub r (lastP m.g.1) m.pm);by_cases c2:(nextP r (lastP m.g.1) m.pm).2.1=true
        · rw[c2,Bool.not_true,cond_false,he] at hL;obtain⟨n1,n2⟩:=next_mem c2;have hst:stepG r m.g (nextP r (lastP m.g.1) m.pm).1=0:=quc c0 n1 c1;have hmv:qav (withP (tupM r cr m) (nextP r (lastP m.g.1) m.pm).2.2.1) (nextP r (lastP m.g.1) m.pm).1 now=_:=qrk hmid hst;rw[hmv,Option.bind_some] at hL;rw[if_pos c2];have ih:=qwd e he k _ (qwk hmid hst) (by show(nextP r (lastP m.g.1) m.pm).2.2.1.length<k;omega);rw[qm hL];exact ih
        · have c3:(nextP r (lastP m.g.1) m.pm).2.1=false:=by simpa using c2
          rw[c3,Bool.not_false,cond_true] at hL;rw[if_neg c2];exact⟨ql hL,hmid⟩
      · rw[show decide (((m.g.2.length:Nat):Int)<400)=false by simp;omega,cond_false] at hL;rw[if_neg (fun q=>c1 q.2)];exact⟨ql hL,h⟩
    · rw[beq_f c0,cond_false,Option.bind_some,cond_false] at hL;rw[if_neg (fun q=>c0 q.1)];exact⟨ql hL,h⟩
def unflat (y:ByteArray×Int×Int×(List (Int×Int×Int×(List (Int×Int×Int×Int×Unit))×Unit))×(List Int)×Bool×Bool×(List (Int×Int×Int×Bool×Unit))×Int×Int×Int×(List (Int×Int×Unit))×Int×Int×Game×(List Mv)×Int×Int×Int×Int×Int×Int×Int×Int×Int×Int×Bool×Int×Int×Int×Int×Int×Int×Int×(List PM)×Int×Jn×Unit):qjD:=((y.1,(y.2.1,(y.2.2.1,(y.2.2.2.1,(y.2.2.2.2.1,(y.2.2.2.2.2.1,(y.2.2.2.2.2.2.1,(y.2.2.2.2.2.2.2.1,(y.2.2.2.2.2.2.2.2.1,(y.2.2.2.2.2.2.2.2.2.1,(y.2.2.2.2.2.2.2.2.2.2.1,()))))))))))),((y.2.2.2.2.2.2.2.2.2.2.2.1,(y.2.2.2.2.2.2.2.2.2.2.2.2.1,(y.2.2.2.2.2.2.2.2.2.2.2.2.2.1,()))),((y.2.2.2.2.2.2.2.2.2.2.2.2.2.2.1.1,(y.2.2.2.2.2.2.2.2.2.2.2.2.2.2.1.2.1,(y.2.2.2.2.2.2.2.2.2.2.2.2.2.2.1.2.2.1,()))),((y.2.2.2.2.2.2.2.2.2.2.2.2.2.2.2.1,(y.2.2.2.2.2.2.2.2.2.2.2.2.2.2.2.2.1,(y.2.2.2.2.2.2.2.2.2.2.2.2.2.2.2.2.2.1,(((y.2.2.2.2.2.2.2.2.2.2.2.2.2.2.2.2.2.2.1,(y.2.2.2.2.2.2.2.2.2.2.2.2.2.2.2.2.2.2.2.1,())),((y.2.2.2.2.2.2.2.2.2.2.2.2.2.2.2.2.2.2.2.2.1,(y.2.2.2.2.2.2.2.2.2.2.2.2.2.2.2.2.2.2.2.2.2.1,())),((y.2.2.2.2.2.2.2.2.2.2.2.2.2.2.2.2.2.2.2.2.2.2.1,(y.2.2.2.2.2.2.2.2.2.2.2.2.2.2.2.2.2.2.2.2.2.2.2.1,())),(y.2.2.2.2.2.2.2.2.2.2.2.2.2.2.2.2.2.2.2.2.2.2.2.2.1,(y.2.2.2.2.2.2.2.2.2.2.2.2.2.2.2.2.2.2.2.2.2.2.2.2.2.1,(y.2.2.2.2.2.2.2.2.2.2.2.2.2.2.2.2.2.2.2.2.2.2.2.2.2.2.1,(y.2.2.2.2.2.2.2.2.2.2.2.2.2.2.2.2.2.2.2.2.2.2.2.2.2.2.2.1,()))))))),(((y.2.2.2.2.2.2.2.2.2.2.2.2.2.2.2.2.2.2.2.2.2.2.2.2.2.2.2.2.1,(y.2.2.2.2.2.2.2.2.2.2.2.2.2.2.2.2.2.2.2.2.2.2.2.2.2.2.2.2.2.1,())),(((y.2.2.2.2.2.2.2.2.2.2.2.2.2.2.2.2.2.2.2.2.2.2.2.2.2.2.2.2.2.2.1,(y.2.2.2.2.2.2.2.2.2.2.2.2.2.2.2.2.2.2.2.2.2.2.2.2.2.2.2.2.2.2.2.1,())),((y.2.2.2.2.2.2.2.2.2.2.2.2.2.2.2.2.2.2.2.2.2.2.2.2.2.2.2.2.2.2.2.2.1,(y.2.2.2.2.2.2.2.2.2.2.2.2.2.2.2.2.2.2.2.2.2.2.2.2.2.2.2.2.2.2.2.2.2.1,())),())),())),(y.2.2.2.2.2.2.2.2.2.2.2.2.2.2.2.2.2.2.2.2.2.2.2.2.2.2.2.2.2.2.2.2.2.2.1,())))))),y.2.2.2.2.2.2.2.2.2.2.2.2.2.2.2.2.2.2.2.2.2.2.2.2.2.2.2.2.2.2.2.2.2.2.2))))
structure SpecK (r:Rules) (cr:CRule) (m:MS) (now:Int) (x:MS×Int) (y:Option (qjD×Int)):Prop where
  val:y=some (tupM r cr x.1,x.2)
  err:x.2≠0→x.1=m
  mid:x.2=0→x.1.res=0→MID r cr x.1 now
  g:RG r x.1.g
  pm:pmErr x.1.pm=0
  kept:x.1.last=m.last∧x.1.j=m.j
theorem SpecK.same {r:Rules} {cr:CRule} {m:MS} {now:Int} (h:MID r cr m now) {k:Int} (hk:k≠0) {y:Option (qjD×Int)} (hy:y=some (tupM r cr m,k)):SpecK r cr m now (m,k) y :=
  ⟨hy,fun _=>rfl,fun c=>absurd c hk,h.g,h.pm,⟨rfl,rfl⟩⟩
theorem SpecK.done {r:Rules} {cr:CRule} {m m':MS} {now:Int} (h:MID r cr m' now) (h1:m'.last=m.last) (h2:m'.j=m.j) {y:Option (qjD×Int)} (hy:y=some (tupM r cr m',0)):SpecK r cr m now (m',0) y :=
  ⟨hy,fun c=>absurd rfl c,fun _ _=>h,h.g,h.pm,⟨h1,h2⟩⟩
theorem qtj {r:Rules} {cr:CRule} {now:Int}:∀(k:Nat) (m:MS),(annM r cr now k m).last=m.last∧(annM r cr now k m).j=m.j
  | 0,m=>⟨rfl,rfl⟩
  | k+1,m=>by
    unfold annM;split
    · split
      · exact qtj k _
      · exact⟨rfl,rfl⟩
    · exact⟨rfl,rfl⟩
theorem bneI (a b:Int):(a !=b)=decide (a≠b):=by
  by_cases h:a=b
  · rw[bne_f h,decide_eq_false (fun q=>q h)]
  · rw[bne_t h,decide_eq_true h]
theorem dm_eq (x:qjD) (e:Ev):qaO x e=Option.bind (qj x.2.2.1) fun p=>bif (p.2.2.1 !=e.2.1) then some (x,12) else Option.bind (qg3 x.1 p) fun l=>Option.bind (qv l e.2.2.2.2.1) fun b=>bif (!b) then some (x,13) else
    Option.bind (qr x.2.2.1) fun q=>bif (((q.length:Nat):Int)==(400:Int)) then some (x,2) else Option.bind (qav x e.2.2.2.2.1 e.2.2.2.1) fun w=>Option.bind (iterW (qaF e) ((),(flatT w.1,()))) fun y=>some (unflat y.2.1,0):=by
  unfold qaO;simp only[qY,agree_self]
  cases qj x.2.2.1 with
  | none=>rfl
  | some p=>rfl
theorem qvG {r:Rules} {cr:CRule} {m:MS} {e:Ev} (h:MID r cr m e.2.2.2.1) (h0:qE r m.g.1=0):SpecK r cr m e.2.2.2.1 (qnW r cr m e) (qaO (tupM r cr m) e):=by
  have ht:=RG.turn m.g.2.length h.g rfl;have hv:=h.g.ok.last;rw[dm_eq,show(tupM r cr m).2.2.1=(r,(m.g.1,(m.g.2,()))) from rfl,show(tupM r cr m).1=r from rfl,qZ h.g.ok,qaR h.g.ok];simp only[Option.bind_some];rw[show(lastP m.g.1).2.2.1=(lastP m.g.1).turn from rfl,ht,qro hv];simp only[Option.bind_some];rw[qnH _ _ (by have:=qtW hv;omega)];simp only[Option.bind_some];unfold qnW;by_cases c1:par m.g.2.length=e.2.1
  rotate_left
  · rw[if_pos c1,bne_t c1,cond_true];exact SpecK.same h (by decide) rfl
  rw[if_neg (fun q=>q c1),bne_f c1,cond_false];by_cases c2:e.2.2.2.2.1∈openM r (lastP m.g.1)
  rotate_left
  · rw[if_pos c2,decide_eq_false c2,Bool.not_false,cond_true];exact SpecK.same h (by decide) rfl
  rw[if_neg (fun q=>q c2),decide_eq_true c2,Bool.not_true,cond_false];by_cases c3:m.g.2.length=400
  · rw[if_pos c3,c3];exact SpecK.same h (by decide) rfl
  rw[if_neg c3,beq_f (show ¬((m.g.2.length:Nat):Int)=400 by omega),cond_false];have hst:stepG r m.g e.2.2.2.2.1=0:=quc h0 c2 (by have:=h.g.ok.most;omega);rw[qrk h hst,Option.bind_some];obtain⟨l1,l2⟩:=qwd e rfl (m.pm.length+1) _ (qwk h hst) (by show m.pm.length<m.pm.length+1;omega);rw[l1,Option.bind_some];obtain⟨k1,k2⟩:=qtj (r:=r) (cr:=cr) (now:=e.2.2.2.1) (m.pm.length+1) (moveM r cr m e.2.2.2.2.1 e.2.2.2.1);exact SpecK.done (m:=m) l2 k1 k2 rfl
theorem qtG {r:Rules} {cr:CRule} {m:MS} {e:Ev} (h:MID r cr m e.2.2.2.1):SpecK r cr m e.2.2.2.1 (qmn m e) (qaA (tupM r cr m) e):=by
  have hy:qaA (tupM r cr m) e=Option.bind (bif (e.1==(3:Int)) then qaV m.o e.2.2.1 e.2.1 ((m.g.2.length:Nat):Int) else qdk m.o e.2.2.1 e.2.1 ((m.g.2.length:Nat):Int)) fun x=>bif (x.2.1==(0:Int)) then some (tupM r cr { m with o:=x.1 },x.2.1) else some (tupM r cr m,x.2.1):=by
    unfold qaA;simp only[qn,qo,qg,qh,qY,agree_self,show(tupM r cr m).2.2.1.1=r from rfl,show(tupM r cr m).2.2.1.2.1=m.g.1 from rfl,show(tupM r cr m).2.2.1.2.2.1=m.g.2 from rfl,qaR h.g.ok,Option.bind_some];rw[show(tupM r cr m).2.2.2.1.2.2.2.2.1=m.o from rfl];simp only[qp1,qpv,Option.bind_some,qY,agree_self];cases (e.1==(3:Int))
    · simp only[cond_false,Option.bind_some]
      cases ((qri m.o e.2.2.1 e.2.1 ((m.g.2.length:Nat):Int)).2==(0:Int))<;>rfl
    · simp only[cond_true,Option.bind_some]
      cases ((qrT m.o e.2.2.1 e.2.1 ((m.g.2.length:Nat):Int)).2==(0:Int))<;>rfl
  rw[hy];unfold qmn;by_cases c:e.1=3
  · rw[beq_t c,cond_true,if_pos c,qp1,Option.bind_some];simp only;by_cases c1:(qrT m.o e.2.2.1 e.2.1 ((m.g.2.length:Nat):Int)).2=0
    · rw[if_pos c1,beq_t c1,cond_true,c1];refine SpecK.done (m:=m) ?_ (by rfl) (by rfl) (by rfl);exact⟨h.rng,h.len,h.g,h.clk,h.turn,h.pm,h.few⟩
    · rw[if_neg c1,beq_f c1,cond_false];exact SpecK.same h c1 rfl
  · rw[beq_f c,cond_false,if_neg c,qpv,Option.bind_some];simp only;by_cases c1:(qri m.o e.2.2.1 e.2.1 ((m.g.2.length:Nat):Int)).2=0
    · rw[if_pos c1,beq_t c1,cond_true,c1];refine SpecK.done (m:=m) ?_ (by rfl) (by rfl) (by rfl);exact⟨h.rng,h.len,h.g,h.clk,h.turn,h.pm,h.few⟩
    · rw[if_neg c1,beq_f c1,cond_false];exact SpecK.same h c1 rfl
theorem da_L1 (z:(Int×Int×Unit)×Unit) (i:Int) (g:Game):qb0 z ((i,()),(flG g,()))=bif decide (i<z.1.1) then Option.bind (qdD g) fun w=>some (.inl ((w64 (i+1),()),(flG w.1,()))) else some (.inr ((),(flG g,()))):=rfl
theorem qtZ {r:Rules} (z:(Int×Int×Unit)×Unit) (n:Nat) (hz:z.1.1=(n:Int)) (hn:n≤1000000):∀(k i:Nat) (s:List Place×List Mv),i+k=n→RG r s→k≤s.2.length →
    iterW (qb0 z) (((i:Int),()),(flG (gm r s),()))=some ((),(flG (gm r (backN k s)),()))∧RG r (backN k s)
  | 0,i,s,hi,h,hk=>by
    refine⟨ql ?_,h⟩;rw[da_L1,hz,decide_eq_false (by omega),cond_false];rfl
  | k+1,i,s,hi,h,hk=>by
    have ih:=qtZ z n hz hn k (i+1) (backG s) (by omega) (h.back (by omega)) (by rw[qo7];omega);have hL:=da_L1 z (i:Int) (gm r s);rw[hz,decide_eq_true (by omega),cond_true,show gm r s=(r,(s.1,(s.2,()))) from rfl,back_spec h.ok,if_neg (by omega),Option.bind_some,qe (by omega) (by omega)] at hL;rw[show gm r s=(r,(s.1,(s.2,()))) from rfl,qm hL];exact ih
theorem plies_rng (pl:Int) (n:Nat):0≤qil pl (n:Int)∧qil pl (n:Int)≤2∧(qil pl (n:Int)).toNat≤n:=by
  unfold qil;generalize (if (0:Int)>(n:Int) then(0:Int) else(n:Int)).tmod 2=t;by_cases c:(if t=pl then(2:Int) else 1)>(n:Int)∨pl≠0∧pl≠1
  · rw[if_pos c];simp
  · rw[if_neg c];have:¬(if t=pl then(2:Int) else 1)>(n:Int):=fun q=>c (.inl q)
    split at this<;>rename_i q
    · rw[if_pos q];omega
    · rw[if_neg q];omega
theorem qub:∀(k:Nat) (s:List Place×List Mv),(backN k s).2.length=s.2.length-k
  | 0,s=>rfl
  | k+1,s=>by
    show(backN k (backG s)).2.length=_;rw[qub k,qo7];omega
theorem qrZ {r:Rules}:∀(k:Nat) {s:List Place×List Mv},RG r s→k≤s.2.length→qE r s.1=0→qE r (backN k s).1=0
  | 0,s,h,hk,h0=>h0
  | k+1,s,h,hk,h0=>qrZ k (h.back (by omega)) (by rw[qo7];omega) (h.back_open (by omega))
theorem qst {r:Rules} {cr:CRule} {m:MS} {e:Ev} (h:MID r cr m e.2.2.2.1) (h0:qE r m.g.1=0):SpecK r cr m e.2.2.2.1 (qi6 m e) (qaU (tupM r cr m) e):=by
  obtain⟨a1,a2⟩:=qxX m.o e.2.2.1 e.2.1 ((m.g.2.length:Nat):Int);unfold qaU;simp only[qY,agree_self,show(tupM r cr m).2.2.1.1=r from rfl,show(tupM r cr m).2.2.1.2.1=m.g.1 from rfl,show(tupM r cr m).2.2.1.2.2.1=m.g.2 from rfl,qaR h.g.ok,Option.bind_some];rw[show(tupM r cr m).2.2.2.1.2.2.2.2.1=m.o from rfl];simp only[a1,qrw,Option.bind_some,qY,agree_self];unfold qi6;simp only;by_cases c1:(ofAcc m.o e.2.2.1 e.2.1 ((m.g.2.length:Nat):Int)).2=0
  rotate_left
  · rw[if_pos c1,bne_t c1,cond_true];exact SpecK.same h c1 rfl
  rw[if_neg (fun q=>q c1),bne_f c1,cond_false];by_cases c2:e.2.2.1=0
  · rw[if_pos c2,beq_t c2,cond_true];exact⟨rfl,fun q=>absurd rfl q,fun _ q=>(by cases q),h.g,h.pm,⟨rfl,rfl⟩⟩
  rw[if_neg c2,beq_f c2,cond_false];have hpl:w64 (1-e.2.1)=1-e.2.1:=qe (by have:=(a2 c1).2.1;omega) (by have:=(a2 c1).2.1;omega);rw[hpl];obtain⟨p0,p1,p2⟩:=plies_rng (1-e.2.1) m.g.2.length;obtain⟨l1,l2⟩:=qtZ (r:=r) ((qil (1-e.2.1) ((m.g.2.length:Nat):Int),((0:Int),())),()) (qil (1-e.2.1) ((m.g.2.length:Nat):Int)).toNat (by simp only;omega) (by omega) _ 0 m.g (Nat.zero_add _) h.g p2;have hbl:=qub (qil (1-e.2.1) ((m.g.2.length:Nat):Int)).toNat m.g;have hbo:=qrZ (qil (1-e.2.1) ((m.g.2.length:Nat):Int)).toNat h.g p2 h0;generalize (backN (qil (1-e.2.1) ((m.g.2.length:Nat):Int)).toNat m.g)=G at *;have ht:=RG.turn G.2.length l2 rfl;obtain⟨f,hf⟩:=qvS (ofAcc m.o e.2.2.1 e.2.1 ((m.g.2.length:Nat):Int)).1 ((G.2.length:Nat):Int)
  have hc:GoodC cr (m.c.1,(m.c.2.1,(m.c.2.2.1,(par G.2.length,(e.2.2.2.1,m.c.2.2.2.2.2))))) e.2.2.2.1:=by
    have hk:=h.clk;have hv:=hk.v;have hs:=hv.since;have:=hk.now0;have hp:=par_rng G.2.length;have hd:=(qlv hk.ok).del;have hv':VC cr (m.c.1,(m.c.2.1,(m.c.2.2.1,(par G.2.length,(e.2.2.2.1,m.c.2.2.2.2.2))))):=⟨hp,hv.fallen,⟨by show 0≤e.2.2.2.1;omega,hk.now1⟩,hv.p0,hv.p1,hv.m0,hv.m1,hv.l0,hv.l1⟩;refine⟨hk.ok,hv',Int.le_refl _,hk.now1,hk.up,hk.run,?_⟩;have hn:=left_nn hv';show max 0 (e.2.2.2.1-e.2.2.2.1-cr.2.2.1)≤_;omega
  refine SpecK.done (m:=m) (m':={ m with g:=G,o:=qwf (ofAcc m.o e.2.2.1 e.2.1 ((m.g.2.length:Nat):Int)).1 ((G.2.length:Nat):Int),c:=(m.c.1,(m.c.2.1,(m.c.2.2.1,(par G.2.length,(e.2.2.2.1,m.c.2.2.2.2.2))))),pm:=[] }) ⟨h.rng,h.len,l2,hc,rfl,rfl,Nat.zero_le _⟩ rfl rfl ?_;refine(congrArg (fun z=>Option.bind z _) l1).trans ?_;rw[Option.bind_some];simp only[flG,gm];rw[qaR l2.ok,Option.bind_some,hf];simp only[Option.bind_some];rw[qZ l2.ok,Option.bind_some];simp only[Option.bind_some];rw[show(lastP G.1).2.2.1=(lastP G.1).turn from rfl,ht];rfl
theorem look_rng {cr:CRule} {c:Clk} {last now:Int} (hl:cr.1.length≤9223372036854775807) (h:GoodC cr c last):(lookC cr c now).2.2.2.2.2.2.1≤1:=by
  obtain⟨e,he⟩:=qnJ cr c now hl;have hv:=h.v;have hu:=h.up;have h2:=he;unfold qaD at he;rw[qhD cr c hl,Option.bind_some,if_pos h.ok,if_pos ((qs3 cr c).2 hv)] at he;simp only[show((0:Int)!=0)=false from rfl,cond_false] at he;by_cases c1:qf now c.2.2.2.2.1 100000000=true
  · rw[c1,Bool.not_true,cond_false,hu] at he;simp only[show decide ((-1:Int)<0)=true from rfl,Bool.true_and,imp,cond_true] at he;rw[inb_iff.2 (by have:=hv.turn;omega),qb] at he;cases q:decide (qw cr c now>getD' [c.1.1,c.1.2.1] c.2.2.2.1.toNat 0)
    · rw[q] at he;simp only[cond_false,Option.bind_some,Option.some.injEq,Prod.mk.injEq] at he;rw[←he.1];show c.2.2.2.2.2.2.1≤1;omega
    · rw[q] at he;simp only[cond_true,Option.bind_some,qb,Option.some.injEq,Prod.mk.injEq] at he;rw[←he.1];exact hv.turn.2
  · rw[show qf now c.2.2.2.2.1 100000000=false by simpa using c1,Bool.not_false,cond_true] at he;simp only[Option.some.injEq,Prod.mk.injEq] at he;rw[←he.1];show(0:Int)≤1;omega
theorem fall_spec {r:Rules} {p:Place} (hr:Rng qbJ r) (c:qaa r=0) (hv:Valid r p) {pl:Int} (hpl:pl=0∨pl=1):qhB r p pl=some (fallR r p pl,(0,())):=by
  have hn:p.1.length≤9223372036854775807:=by have:=qcI hv;omega
  have w1:w64 ((1:Int)-pl)=1-pl:=qe (by omega) (by omega);have w2:w64 ((2:Int)-pl)=2-pl:=qe (by omega) (by omega)
  have cp':1-pl=0∨1-pl=1:=by omega
  unfold qhB fallR;rw[w1,w2,qrh r p pl hr hn,qrh r p _ hr hn,qwE c hv];simp only[if_true,if_pos hpl,if_pos cp',Option.bind_some,bne_self_eq_false,cond_false]
  cases ableR r p (1-pl)<;>rfl
theorem qtX {r:Rules} {cr:CRule} {m:MS} {e:Ev} {last:Int} (hr:Rng qbJ r) (hl:cr.1.length≤9223372036854775807) (hg:RG r m.g) (hk:GoodC cr m.c last) (hpm:pmErr m.pm=0)
    (hm:¬(e.2.2.1=2)→MID r cr m e.2.2.2.1):SpecK r cr m e.2.2.2.1 (qmO r cr m e) (qa6 (tupM r cr m) e):=by
  have ht:=RG.turn m.g.2.length hg rfl;obtain⟨le,hle⟩:=qnJ cr m.c e.2.2.2.1 hl;unfold qa6 qmO;by_cases c1:e.2.2.1=2
  · rw[if_pos c1,beq_t c1,cond_true];simp only[show(tupM r cr m).2.1=cr from rfl,show(tupM r cr m).2.2.2.1.2.2.2.1=m.c from rfl];rw[hle,Option.bind_some];simp only;by_cases c2:(lookC cr m.c e.2.2.2.1).2.2.2.2.2.2.1<0
    · rw[if_pos c2,decide_eq_true c2,cond_true];exact⟨rfl,fun _=>rfl,fun q=>(by cases q),hg,hpm,⟨rfl,rfl⟩⟩
    · rw[if_neg c2,decide_eq_false c2,cond_false];have hf:=look_rng (now:=e.2.2.2.1) hl hk;simp only[show(tupM r cr m).2.2.1.1=r from rfl,show(tupM r cr m).2.2.1.2.1=m.g.1 from rfl,show(tupM r cr m).2.2.1.2.2.1=m.g.2 from rfl,show(tupM r cr m).1=r from rfl];rw[qZ hg.ok,Option.bind_some];have hfs:=fall_spec (pl:=(lookC cr m.c e.2.2.2.1).2.2.2.2.2.2.1) hr hg.ok.ok hg.ok.last (by omega);rw[qu5,hfs,Option.bind_some];refine⟨rfl,fun q=>absurd rfl q,fun _ q=>?_,hg,hpm,⟨rfl,rfl⟩⟩;exfalso;have q':fallR r (lastP m.g.1) (lookC cr m.c e.2.2.2.1).2.2.2.2.2.2.1=0:=q;unfold fallR at q'
      split at q'<;>omega
  · have h:=hm c1;rw[if_neg c1,beq_f c1,cond_false];simp only[qY,agree_self,show(tupM r cr m).2.2.1.1=r from rfl,show(tupM r cr m).2.2.1.2.1=m.g.1 from rfl,show(tupM r cr m).2.2.1.2.2.1=m.g.2 from rfl,qpS hg.ok,qZ hg.ok,Option.bind_some];rw[show(lastP m.g.1).2.2.1=(lastP m.g.1).turn from rfl,ht];have fin:∀b:Bool,(b=true↔(e.2.2.1=0∧3≤qeG m.g.1∨e.2.2.1=1∧20≤(lastP m.g.1).quiet))→(e.2.2.1=0∨e.2.2.1=1)→SpecK r cr m e.2.2.2.1
        (if e.2.2.1≠0∧e.2.2.1≠1 then(m,1) else if par m.g.2.length≠e.2.1 then(m,12) else if e.2.2.1=0∧3≤qeG m.g.1∨e.2.2.1=1∧20≤(lastP m.g.1).quiet then({ m with res:=3,rea:=5 },0) else(m,10))
        (bif (par m.g.2.length !=e.2.1) then some (tupM r cr m,(12:Int)) else bif (!b) then some (tupM r cr m,10) else some (tupM r cr { m with res:=3,rea:=5 },0)):=by
      intro b hb hn;rw[if_neg (by omega)];by_cases c2:par m.g.2.length=e.2.1
      rotate_left
      · rw[if_pos c2,bne_t c2,cond_true];exact SpecK.same h (by decide) rfl
      rw[if_neg (fun q=>q c2),bne_f c2,cond_false];cases b
      · rw[if_neg (fun q=>by cases hb.2 q)];exact SpecK.same h (by decide) rfl
      · rw[if_pos (hb.1 rfl)];exact⟨rfl,fun q=>absurd rfl q,fun _ q=>(by cases q),h.g,h.pm,⟨rfl,rfl⟩⟩
    by_cases d0:e.2.2.1=0
    · have:=fin (decide (3≤qeG m.g.1)) (by rw[decide_eq_true_eq];omega) (.inl d0);simp only[d0,beq_self_eq_true,gopt,cond_true,Option.bind_some,Bool.true_and];simp only[d0] at this;rw[show decide (((qeG m.g.1:Nat):Int)≥3)=decide (3≤qeG m.g.1) from by congr 1;apply propext;omega];cases hb:decide (3≤qeG m.g.1)
      · rw[hb] at this;exact this
      · rw[hb] at this;exact this
    by_cases d1:e.2.2.1=1
    · have:=fin (decide (20≤(lastP m.g.1).quiet)) (by rw[decide_eq_true_eq];omega) (.inr d1);simp only[d1] at this;simp only[d1,show((1:Int)==0)=false from rfl,gopt,cond_false,Option.bind_some,Bool.false_and,beq_self_eq_true,cond_true];exact this
    · rw[if_pos ⟨d0,d1⟩];simp only[beq_f d0,beq_f d1,gopt,cond_false,Option.bind_some,Bool.false_and,bne_t d0,bne_t d1,Bool.and_self,cond_true];exact SpecK.same h (by decide) rfl
theorem pm_add {l:List PM} (h:pmErr l=0) {pl:Int} (hpl:pl=0∨pl=1) (h4:(ofL l pl).length≠4) (x:Mv):pmErr (l++[(pl,(x,()))])=0:=by
  obtain⟨a,b,c⟩:=(qtN l).1 h;rw[qnf] at h4;rw[qtN];simp only[List.countP_append,List.countP_singleton];rcases hpl with rfl | rfl
  · exact⟨by show _+1≤4;omega,by show _+0≤4;omega,by show _+0=0;omega⟩
  · exact⟨by show _+0≤4;omega,by show _+1≤4;omega,by show _+0=0;omega⟩
theorem qqH {r:Rules} {cr:CRule} {m:MS} {e:Ev} (h:MID r cr m e.2.2.2.1) (hp:e.2.1=0∨e.2.1=1):SpecK r cr m e.2.2.2.1 (qgW m e) (qaG (tupM r cr m) e):=by
  have ht:=RG.turn m.g.2.length h.g rfl;unfold qaG qgW;simp only[qY,agree_self,show(tupM r cr m).2.2.1.1=r from rfl,show(tupM r cr m).2.2.1.2.1=m.g.1 from rfl,show(tupM r cr m).2.2.1.2.2.1=m.g.2 from rfl,qZ h.g.ok,Option.bind_some];rw[show(lastP m.g.1).2.2.1=(lastP m.g.1).turn from rfl,ht];by_cases c1:par m.g.2.length=e.2.1
  · rw[if_pos c1,beq_t c1,cond_true];exact SpecK.same h (by decide) rfl
  rw[if_neg c1,beq_f c1,cond_false,show(tupM r cr m).2.2.2.1.2.2.2.2.2.1=m.pm from rfl,addP_spec m.pm (by have:=h.few;omega),if_neg (show ¬(pmErr m.pm≠0) from fun q=>q h.pm),if_neg (show ¬(e.2.1≠0∧e.2.1≠1) by omega),Option.bind_some];by_cases c2:(ofL m.pm e.2.1).length=4
  · rw[if_pos c2,if_pos c2];exact SpecK.same h (by decide) rfl
  · rw[if_neg c2,if_neg c2];have hq:=pm_add h.pm hp c2 e.2.2.2.2.1;refine SpecK.done (m:=m) ?_ (by rfl) (by rfl) (by rfl);exact⟨h.rng,h.len,h.g,h.clk,h.turn,hq,pm_len hq⟩
theorem kind_spec {r:Rules} {cr:CRule} {m:MS} {e:Ev} {last:Int} (hr:Rng qbJ r) (hl:cr.1.length≤9223372036854775807) (hg:RG r m.g) (hk:GoodC cr m.c last) (hpm:pmErr m.pm=0) (hp:e.2.1=0∨e.2.1=1) (h0:qE r m.g.1=0)
    (h6:0≤e.1∧e.1≤6) (hm:¬(e.1=4∨e.1=5∧e.2.2.1=2)→MID r cr m e.2.2.2.1):SpecK r cr m e.2.2.2.1 (kindM r cr m e) (qcy (tupM r cr m) e):=by
  have hy:qcy (tupM r cr m) e=if e.1=0 then qaO (tupM r cr m) e else if e.1=1∨e.1=3 then qaA (tupM r cr m) e else if e.1=2 then qaU (tupM r cr m) e else if e.1=5 then qa6 (tupM r cr m) e
      else if e.1=6 then qaG (tupM r cr m) e else some (tupM r cr { m with res:=2-e.2.1,rea:=3 },0):=by
    have w:w64 (2-e.2.1)=2-e.2.1:=qe (by omega) (by omega)
    have et:∀y:Option (qjD×Int),(Option.bind y fun r6=>some ((r6.1.1,(r6.1.2.1,((r6.1.2.2.1.1,(r6.1.2.2.1.2.1,(r6.1.2.2.1.2.2.1,()))),r6.1.2.2.2))),r6.2))=y:=fun y=>by cases y<;>rfl
    unfold qcy;by_cases c0:e.1=0
    · rw[if_pos c0,beq_t c0,cond_true];exact et _
    rw[if_neg c0,beq_f c0,cond_false];by_cases c1:e.1=1
    · rw[if_pos (.inl c1),beq_t c1];exact et _
    rw[beq_f c1,cond_false];by_cases c3:e.1=3
    · rw[if_pos (.inr c3),beq_t c3];exact et _
    rw[if_neg (by omega),beq_f c3,Option.bind_some];simp only[cond_false];by_cases c2:e.1=2
    · rw[if_pos c2,beq_t c2,cond_true];exact et _
    rw[if_neg c2,beq_f c2,cond_false];by_cases c5:e.1=5
    · rw[if_pos c5,beq_t c5,cond_true];exact et _
    rw[if_neg c5,beq_f c5,cond_false];by_cases c6:e.1=6
    · rw[if_pos c6,beq_t c6,cond_true];exact et _
    rw[if_neg c6,beq_f c6,cond_false,w];rfl
  rw[hy];unfold kindM;by_cases c0:e.1=0
  · rw[if_pos c0,if_pos c0];exact qvG (hm (by omega)) h0
  rw[if_neg c0,if_neg c0];by_cases c1:e.1=1∨e.1=3
  · rw[if_pos c1,if_pos c1];exact qtG (hm (by omega))
  rw[if_neg c1,if_neg c1];by_cases c2:e.1=2
  · rw[if_pos c2,if_pos c2];exact qst (hm (by omega)) h0
  rw[if_neg c2,if_neg c2];by_cases c5:e.1=5
  · rw[if_pos c5,if_pos c5];exact qtX hr hl hg hk hpm (fun q=>hm (by omega))
  rw[if_neg c5,if_neg c5];by_cases c6:e.1=6
  · rw[if_pos c6,if_pos c6];exact qqH (hm (by omega)) hp
  rw[if_neg c6,if_neg c6];exact⟨rfl,fun q=>absurd rfl q,fun _ q=>absurd q (by show ¬(2-e.2.1=0);omega),hg,hpm,⟨rfl,rfl⟩⟩
theorem quY {r:Rules} {cr:CRule} {m:MS} (hg:RG r m.g):qak (tupM r cr m)=some (tupM r cr (overM r m),()):=by
  unfold qak overM;simp only[show(tupM r cr m).2.2.1.1=r from rfl,show(tupM r cr m).2.2.1.2.1=m.g.1 from rfl,show(tupM r cr m).2.2.1.2.2.1=m.g.2 from rfl,qf1 hg.ok,Option.bind_some,show(tupM r cr m).2.2.2.1.2.1=m.res from rfl];by_cases c:m.res=0
  · by_cases d:qE r m.g.1=0
    · rw[if_neg (fun q=>q.2 d),beq_t c,bne_f d];rfl
    · rw[if_pos ⟨c,d⟩,beq_t c,bne_t d];rfl
  · rw[if_neg (fun q=>c q.1),beq_f c];rfl
theorem qml (r:Rules) (m:MS):(overM r m).g=m.g∧(overM r m).pm=m.pm∧(overM r m).j=m.j∧(overM r m).last=m.last:=by
  unfold overM
  split<;>exact⟨rfl,rfl,rfl,rfl⟩
theorem qn9 {r:Rules} {cr:CRule} {m:MS} (h:MOK r cr m) {e:Ev} (he:EvR e):qbh (tupM r cr m) e=some (tupM r cr (doM r cr m e).1,(doM r cr m e).2)∧MOK r cr (doM r cr m e).1:=by
  have et:(tupM r cr m)=((tupM r cr m).1,((tupM r cr m).2.1,(((tupM r cr m).2.2.1.1,((tupM r cr m).2.2.1.2.1,((tupM r cr m).2.2.1.2.2.1,()))),(tupM r cr m).2.2.2))):=rfl;obtain⟨le,hle⟩:=qnJ cr m.c e.2.2.2.1 h.len;unfold qbh doM;rw[←et];simp only[show(tupM r cr m).2.1=cr from rfl,show(tupM r cr m).2.2.2.1.2.1=m.res from rfl,show(tupM r cr m).2.2.2.1.2.2.2.1=m.c from rfl,show(tupM r cr m).2.2.2.2.1=m.last from rfl,show(tupM r cr m).2.2.2.2.2.1=m.j from rfl];by_cases c1:(e.1<0∨6<e.1)∨(e.2.1≠0∧e.2.1≠1)
  · rw[if_pos c1,show(((decide (e.1<(0:Int)))||(decide (e.1>(6:Int))))||((e.2.1 !=(0:Int))&&(e.2.1 !=(1:Int))))=true by
      simp only[bneI,Bool.or_eq_true,Bool.and_eq_true,decide_eq_true_eq];omega,cond_true]
    exact⟨rfl,h⟩
  rw[if_neg c1,show(((decide (e.1<(0:Int)))||(decide (e.1>(6:Int))))||((e.2.1 !=(0:Int))&&(e.2.1 !=(1:Int))))=false by
      rw[Bool.eq_false_iff];intro q;simp only[bneI,Bool.or_eq_true,Bool.and_eq_true,decide_eq_true_eq] at q;omega,cond_false]
  by_cases c2:e.2.2.2.1<m.last∨100000000<e.2.2.2.1
  · rw[if_pos c2,show((decide (e.2.2.2.1<m.last))||(decide (e.2.2.2.1>(100000000:Int))))=true by simp only[Bool.or_eq_true,decide_eq_true_eq];omega,cond_true];exact⟨rfl,h⟩
  rw[if_neg c2,show((decide (e.2.2.2.1<m.last))||(decide (e.2.2.2.1>(100000000:Int))))=false by rw[Bool.eq_false_iff];intro q;simp only[Bool.or_eq_true,decide_eq_true_eq] at q;omega,cond_false];by_cases c3:m.res=0
  rotate_left
  · rw[if_pos c3,bne_t c3,cond_true];exact⟨rfl,h⟩
  rw[if_neg (fun q=>q c3),bne_f c3,cond_false];by_cases c4:m.j.length=1000
  · rw[if_pos c4,c4];exact⟨rfl,h⟩
  rw[if_neg c4,beq_f (show ¬((m.j.length:Nat):Int)=1000 by omega),cond_false,hle,Option.bind_some];simp only;have hk:=h.clk c3;by_cases c5:(0≤(lookC cr m.c e.2.2.2.1).2.2.2.2.2.2.1∧e.1≠4)∧¬(e.1=5∧e.2.2.1=2)
  · rw[if_pos c5,show(((decide ((lookC cr m.c e.2.2.2.1).2.2.2.2.2.2.1≥(0:Int)))&&(e.1 !=(4:Int)))&&(!((e.1==(5:Int))&&(e.2.2.1==(2:Int)))))=true by
      simp only[bneI,Bool.and_eq_true,decide_eq_true_eq,Bool.not_eq_true',←Bool.not_eq_true,beq_iff_eq];exact c5,cond_true]
    exact⟨rfl,h⟩
  rw[if_neg c5,show(((decide ((lookC cr m.c e.2.2.2.1).2.2.2.2.2.2.1≥(0:Int)))&&(e.1 !=(4:Int)))&&(!((e.1==(5:Int))&&(e.2.2.1==(2:Int)))))=false by
      rw[Bool.eq_false_iff];intro q;simp only[bneI,Bool.and_eq_true,decide_eq_true_eq,Bool.not_eq_true',←Bool.not_eq_true,beq_iff_eq] at q;exact c5 q,cond_false]
  have hs:=kind_spec (e:=e) h.rng h.len h.g hk h.pm (by omega) (h.opn c3) (by omega) (fun q=>by
    have hf:(lookC cr m.c e.2.2.2.1).2.2.2.2.2.2.1<0:=by
      by_cases q1:e.1=4
      · exact absurd (.inl q1) q
      · by_cases q2:e.1=5∧e.2.2.1=2
        · exact absurd (.inr q2) q
        · have:=fun a=>c5 ⟨⟨a,q1⟩,q2⟩;omega
    exact⟨h.rng,h.len,h.g,good_of h.len hle hf hk.run,h.turn c3,h.pm,h.few⟩)
  obtain⟨s1,s2,s3,s4,s5,s6⟩:=hs;rw[s1,Option.bind_some];by_cases c6:(kindM r cr m e).2=0
  rotate_left
  · rw[if_pos c6,bne_t c6,cond_true,s2 c6];exact⟨rfl,h⟩
  rw[if_neg (fun q=>q c6),bne_f c6,cond_false];simp only[show(tupM r cr (kindM r cr m e).1).2.2.2.2.2.1=(kindM r cr m e).1.j from rfl]
  have hj:JOK (kindM r cr m e).1.j:=by rw[s6.2];exact h.j
  obtain⟨j1,j2⟩:=qry hj (by rw[s6.2];have:=h.j.1;omega) (entry_ok e he);rw[qxU e he,Option.bind_some,j1,Option.bind_some];have ho:=quY (r:=r) (cr:=cr) (m:={ (kindM r cr m e).1 with last:=e.2.2.2.1,j:=nextJ (kindM r cr m e).1.j (qbQ e) }) s4;rw[show((tupM r cr (kindM r cr m e).1).1,((tupM r cr (kindM r cr m e).1).2.1,(((tupM r cr (kindM r cr m e).1).2.2.1.1,((tupM r cr (kindM r cr m e).1).2.2.1.2.1,((tupM r cr (kindM r cr m e).1).2.2.1.2.2.1,()))),((tupM r cr (kindM r cr m e).1).2.2.2.1,(e.2.2.2.1,(nextJ (kindM r cr m e).1.j (qbQ e),()))))))=tupM r cr { (kindM r cr m e).1 with last:=e.2.2.2.1,j:=nextJ (kindM r cr m e).1.j (qbQ e) } from rfl,ho,Option.bind_some];refine⟨rfl,?_⟩;show MOK r cr (doneM r (kindM r cr m e).1 e);unfold doneM
  have hg':∀x:MS,(overM r x).g=x.g∧(overM r x).c=x.c∧(overM r x).pm=x.pm∧(overM r x).j=x.j∧(overM r x).last=x.last∧((overM r x).res=0→x.res=0∧qE r x.g.1=0):=fun x=>by
    unfold overM;split
    · rename_i q;exact⟨rfl,rfl,rfl,rfl,rfl,fun z=>absurd z q.2⟩
    · rename_i q
      exact⟨rfl,rfl,rfl,rfl,rfl,fun z=>⟨z,by
        by_cases w:qE r x.g.1=0
        · exact w
        · exact absurd ⟨z,w⟩ q⟩⟩
  obtain⟨g1,g2,g3,g4,g5,g6⟩:=hg' { (kindM r cr m e).1 with last:=e.2.2.2.1,j:=nextJ (kindM r cr m e).1.j (qbQ e) };refine⟨h.rng,h.len,by rw[g1];exact s4,h.cok,fun q=>?_,fun q=>?_,fun q=>?_,by rw[g3];exact s5,by rw[g3];exact pm_len s5,by rw[g4];exact j2⟩
  · rw[g2,g5];exact(s3 c6 (g6 q).1).clk
  · rw[g1,g2];exact(s3 c6 (g6 q).1).turn
  · rw[g1];exact(g6 q).2

theorem qbt {n:Int} (h:I64 n):qdQ (numS n)=some (n,(true,())):=by
  unfold qdQ;rw[atoi_num h,Option.bind_some];simp only[gopt,Bool.not_false,cond_true];rw[qjM h,Option.bind_some];simp
theorem qt5 {e:Ev} (h:EvR e):qbC (qbQ e)=some (e,(0,())):=by
  have hs:qr5 (qbQ e) (ByteArray.mk #[32])=some ((evL e).map numS):=by
    refine qv9 32 _ (by simp[evL]) (by have:=qnB e h;unfold qbQ at this;omega) (fun x hx=>?_);obtain⟨n,hn,rfl⟩:=List.mem_map.1 hx;intro q;have:=qvI n _ q;rw[show(32:UInt8).toNat=32 from rfl] at this;omega
  have hloop:iterW (qs ((evL e).map numS)) (((0:Int),()),(((0:Int),((0:Int),((0:Int),((0:Int),((0:Int),((0:Int),((0:Int),()))))))),(((0:Int),((0:Int),((0:Int),((0:Int),((0:Int),((0:Int),((0:Int),()))))))),())))=some (.inl ((),(((0:Int),((0:Int),((0:Int),((0:Int),((0:Int),((0:Int),((0:Int),()))))))),((e.1,(e.2.1,(e.2.2.1,(e.2.2.2.1,(e.2.2.2.2.1.1,(e.2.2.2.2.1.2.1,(e.2.2.2.2.1.2.2.1,()))))))),())))):=by
    have s0:qs ((evL e).map numS) (((0:Int),()),(((0:Int),((0:Int),((0:Int),((0:Int),((0:Int),((0:Int),((0:Int),()))))))),(((0:Int),((0:Int),((0:Int),((0:Int),((0:Int),((0:Int),((0:Int),()))))))),())))=some (.inl (((1:Int),()),(((0:Int),((0:Int),((0:Int),((0:Int),((0:Int),((0:Int),((0:Int),()))))))),((e.1,((0:Int),((0:Int),((0:Int),((0:Int),((0:Int),((0:Int),()))))))),())))):=by
      unfold qs;simp only[show decide ((0:Int)<((((evL e).map numS).length:Nat):Int))=true from rfl,cond_true,show at? ((evL e).map numS) (0:Int)=some (numS e.1) from rfl,Option.bind_some,qbt h.kind,show inb (0:Int) 7=true from rfl,qb,Bool.not_true,cond_false];rfl
    have s1:qs ((evL e).map numS) (((1:Int),()),(((0:Int),((0:Int),((0:Int),((0:Int),((0:Int),((0:Int),((0:Int),()))))))),((e.1,((0:Int),((0:Int),((0:Int),((0:Int),((0:Int),((0:Int),()))))))),())))=some (.inl (((2:Int),()),(((0:Int),((0:Int),((0:Int),((0:Int),((0:Int),((0:Int),((0:Int),()))))))),((e.1,(e.2.1,((0:Int),((0:Int),((0:Int),((0:Int),((0:Int),()))))))),())))):=by
      unfold qs;simp only[show decide ((1:Int)<((((evL e).map numS).length:Nat):Int))=true from rfl,cond_true,show at? ((evL e).map numS) (1:Int)=some (numS e.2.1) from rfl,Option.bind_some,qbt h.player,show inb (1:Int) 7=true from rfl,qb,Bool.not_true,cond_false];rfl
    have s2:qs ((evL e).map numS) (((2:Int),()),(((0:Int),((0:Int),((0:Int),((0:Int),((0:Int),((0:Int),((0:Int),()))))))),((e.1,(e.2.1,((0:Int),((0:Int),((0:Int),((0:Int),((0:Int),()))))))),())))=some (.inl (((3:Int),()),(((0:Int),((0:Int),((0:Int),((0:Int),((0:Int),((0:Int),((0:Int),()))))))),((e.1,(e.2.1,(e.2.2.1,((0:Int),((0:Int),((0:Int),((0:Int),()))))))),())))):=by
      unfold qs;simp only[show decide ((2:Int)<((((evL e).map numS).length:Nat):Int))=true from rfl,cond_true,show at? ((evL e).map numS) (2:Int)=some (numS e.2.2.1) from rfl,Option.bind_some,qbt h.n,show inb (2:Int) 7=true from rfl,qb,Bool.not_true,cond_false];rfl
    have s3:qs ((evL e).map numS) (((3:Int),()),(((0:Int),((0:Int),((0:Int),((0:Int),((0:Int),((0:Int),((0:Int),()))))))),((e.1,(e.2.1,(e.2.2.1,((0:Int),((0:Int),((0:Int),((0:Int),()))))))),())))=some (.inl (((4:Int),()),(((0:Int),((0:Int),((0:Int),((0:Int),((0:Int),((0:Int),((0:Int),()))))))),((e.1,(e.2.1,(e.2.2.1,(e.2.2.2.1,((0:Int),((0:Int),((0:Int),()))))))),())))):=by
      unfold qs;simp only[show decide ((3:Int)<((((evL e).map numS).length:Nat):Int))=true from rfl,cond_true,show at? ((evL e).map numS) (3:Int)=some (numS e.2.2.2.1) from rfl,Option.bind_some,qbt h.now,show inb (3:Int) 7=true from rfl,qb,Bool.not_true,cond_false];rfl
    have s4:qs ((evL e).map numS) (((4:Int),()),(((0:Int),((0:Int),((0:Int),((0:Int),((0:Int),((0:Int),((0:Int),()))))))),((e.1,(e.2.1,(e.2.2.1,(e.2.2.2.1,((0:Int),((0:Int),((0:Int),()))))))),())))=some (.inl (((5:Int),()),(((0:Int),((0:Int),((0:Int),((0:Int),((0:Int),((0:Int),((0:Int),()))))))),((e.1,(e.2.1,(e.2.2.1,(e.2.2.2.1,(e.2.2.2.2.1.1,((0:Int),((0:Int),()))))))),())))):=by
      unfold qs;simp only[show decide ((4:Int)<((((evL e).map numS).length:Nat):Int))=true from rfl,cond_true,show at? ((evL e).map numS) (4:Int)=some (numS e.2.2.2.2.1.1) from rfl,Option.bind_some,qbt h.a,show inb (4:Int) 7=true from rfl,qb,Bool.not_true,cond_false];rfl
    have s5:qs ((evL e).map numS) (((5:Int),()),(((0:Int),((0:Int),((0:Int),((0:Int),((0:Int),((0:Int),((0:Int),()))))))),((e.1,(e.2.1,(e.2.2.1,(e.2.2.2.1,(e.2.2.2.2.1.1,((0:Int),((0:Int),()))))))),())))=some (.inl (((6:Int),()),(((0:Int),((0:Int),((0:Int),((0:Int),((0:Int),((0:Int),((0:Int),()))))))),((e.1,(e.2.1,(e.2.2.1,(e.2.2.2.1,(e.2.2.2.2.1.1,(e.2.2.2.2.1.2.1,((0:Int),()))))))),())))):=by
      unfold qs;simp only[show decide ((5:Int)<((((evL e).map numS).length:Nat):Int))=true from rfl,cond_true,show at? ((evL e).map numS) (5:Int)=some (numS e.2.2.2.2.1.2.1) from rfl,Option.bind_some,qbt h.b,show inb (5:Int) 7=true from rfl,qb,Bool.not_true,cond_false];rfl
    have s6:qs ((evL e).map numS) (((6:Int),()),(((0:Int),((0:Int),((0:Int),((0:Int),((0:Int),((0:Int),((0:Int),()))))))),((e.1,(e.2.1,(e.2.2.1,(e.2.2.2.1,(e.2.2.2.2.1.1,(e.2.2.2.2.1.2.1,((0:Int),()))))))),())))=some (.inl (((7:Int),()),(((0:Int),((0:Int),((0:Int),((0:Int),((0:Int),((0:Int),((0:Int),()))))))),((e.1,(e.2.1,(e.2.2.1,(e.2.2.2.1,(e.2.2.2.2.1.1,(e.2.2.2.2.1.2.1,(e.2.2.2.2.1.2.2.1,()))))))),())))):=by
      unfold qs;simp only[show decide ((6:Int)<((((evL e).map numS).length:Nat):Int))=true from rfl,cond_true,show at? ((evL e).map numS) (6:Int)=some (numS e.2.2.2.2.1.2.2.1) from rfl,Option.bind_some,qbt h.c,show inb (6:Int) 7=true from rfl,qb,Bool.not_true,cond_false];rfl
    have s7:qs ((evL e).map numS) (((7:Int),()),(((0:Int),((0:Int),((0:Int),((0:Int),((0:Int),((0:Int),((0:Int),()))))))),((e.1,(e.2.1,(e.2.2.1,(e.2.2.2.1,(e.2.2.2.2.1.1,(e.2.2.2.2.1.2.1,(e.2.2.2.2.1.2.2.1,()))))))),())))=some (.inr (.inl ((),(((0:Int),((0:Int),((0:Int),((0:Int),((0:Int),((0:Int),((0:Int),()))))))),((e.1,(e.2.1,(e.2.2.1,(e.2.2.2.1,(e.2.2.2.2.1.1,(e.2.2.2.2.1.2.1,(e.2.2.2.2.1.2.2.1,()))))))),()))))):=rfl;rw[qm s0,qm s1,qm s2,qm s3,qm s4,qm s5,qm s6,ql s7]
  unfold qbC;rw[hs,Option.bind_some,show(((((evL e).map numS).length:Nat):Int)!=7)=false from rfl,cond_false,hloop];rfl
noncomputable def startC (cr:CRule) (now:Int):Clk:=(((perAt cr 0).2.1,((perAt cr 0).2.1,())),((0,(0,())),((0,(0,())),(0,(now,(false,(-1,())))))))
theorem qjG (cr:CRule) (now:Int) (hl:cr.1.length≤9223372036854775807):qa9 cr now=some (if chkC cr=0 then if 0≤now∧now≤100000000 then(startC cr now,(0,())) else(dClk,(11,())) else(dClk,(chkC cr,()))):=by
  unfold qa9;rw[qqw cr hl,Option.bind_some];by_cases c:chkC cr=0
  · rw[if_pos c,bne_f c,cond_false];have hcr:=qlv c;have hw:qf now 0 100000000=decide (0≤now∧now≤100000000):=by
      rw[Bool.eq_iff_iff,qdX,decide_eq_true_eq]
    rw[hw];by_cases d:0≤now∧now≤100000000
    · rw[if_pos d,decide_eq_true d,Bool.not_true,cond_false,(qkW hcr (k:=0) (by omega) (by have:=hcr.len;omega)).1,Option.bind_some];rfl
    · rw[if_neg d,decide_eq_false d];rfl
  · rw[if_neg c,bne_t c,cond_true];rfl
theorem qn7 {cr:CRule} (h:chkC cr=0):qb3 cr=some cr:=by
  have hcr:=(qlv h).len;unfold qb3;have:qat cr.1=some cr.1:=by
    unfold qat;have hr:room (([]:List (Int×Int×Unit)).length+cr.1.length) 16=true:=qT (by simp only[List.length_nil];omega);rw[hr]
    cases cr.1 with
    | nil=>simp[qb,agree_self]
    | cons a l=>simp[qb]
  rw[this,Option.bind_some]
theorem qsa {cr:CRule} {now:Int} (c:chkC cr=0) (h:0≤now∧now≤100000000):GoodC cr (startC cr now) now:=by
  have hcr:=qlv c;have hlen:=hcr.len;have hd:=hcr.del;obtain⟨_,_,h2,_⟩:=qkW hcr (k:=0) (by omega) (by omega)
  have hv:VC cr (startC cr now):=⟨⟨Int.le_refl _,by show(0:Int)≤1;omega⟩,⟨Int.le_refl _,by show(-1:Int)≤1;omega⟩,h,⟨Int.le_refl _,by show(0:Int)≤_;omega⟩,⟨Int.le_refl _,by show(0:Int)≤_;omega⟩,
    ⟨Int.le_refl _,by show(0:Int)≤400;omega⟩,⟨Int.le_refl _,by show(0:Int)≤400;omega⟩,⟨by show 0≤(perAt cr 0).2.1;omega,by show(perAt cr 0).2.1≤_;omega⟩,⟨by show 0≤(perAt cr 0).2.1;omega,by show(perAt cr 0).2.1≤_;omega⟩⟩
  refine⟨c,hv,Int.le_refl _,h.2,rfl,rfl,?_⟩;have hn:=left_nn hv;show max 0 (now-now-cr.2.2.1)≤_;omega
def startB:ByteArray:=ByteArray.mk #[115,116,97,114,116,32]
def qW (now:Int):ByteArray:=startB++numS now
theorem qgP {n:Int} (h:I64 n):(qW n).size≤27∧qJ startB (numS n)=true:=by
  have h1:=qsi h;have h2:startB.size=6:=rfl;refine⟨by unfold qW;rw[ByteArray.size_append];omega,?_⟩;unfold qJ;rw[Nat.ble_eq];omega
theorem start_okt {n:Int} (h:I64 n):OKT (qW n):=by
  refine⟨by have:=(qgP h).1;omega,fun c hc=>?_⟩;unfold qW at hc;rw[qkx] at hc;rcases List.mem_append.1 hc with hc | hc
  · have:c∈[115,116,97,114,116,32]:=hc;simp only[List.mem_cons,List.not_mem_nil,or_false] at this
    rcases this with rfl | rfl | rfl | rfl | rfl | rfl<;>decide
  · have:=qvI n c hc;omega
theorem jok_nil:JOK []:=⟨Nat.zero_le _,fun i hi=>absurd hi (Nat.not_lt_zero _)⟩
theorem qeh {n:Int} (h:I64 n):qL [] (qW n)=some (nextJ [] (qW n),(0,()))∧JOK (nextJ [] (qW n)):=qry jok_nil (Nat.zero_lt_succ _) (start_okt h)
def off0:Offs:=((-1,(-1,())),(((-1,(-1,())),((-1,(-1,())),())),()))
noncomputable def rawM (r:Rules) (cr:CRule) (now:Int):MS:={ g:=([qaC r],[]),res:=0,rea:=0,c:=startC cr now,o:=off0,pm:=[],last:=now,j:=nextJ [] (qW now) }
noncomputable def newM (r:Rules) (cr:CRule) (now:Int):MS:=overM r (rawM r cr now)
theorem qo6 {r:Rules} {cr:CRule} {now:Int} (c:qaa r=0):qak (tupM r cr (rawM r cr now))=some (tupM r cr (newM r cr now),()):=quY (RG.begin c)
theorem over_ok {r:Rules} {m:MS}:(overM r m).c=m.c∧(overM r m).o=m.o∧((overM r m).res=0→m.res=0∧qE r m.g.1=0):=by
  unfold overM;split
  · rename_i q;exact⟨rfl,rfl,fun z=>absurd z q.2⟩
  · rename_i q
    exact⟨rfl,rfl,fun z=>⟨z,by
      by_cases w:qE r m.g.1=0
      · exact w
      · exact absurd ⟨z,w⟩ q⟩⟩
theorem qsK {r:Rules} {cr:CRule} {now:Int} (hr:Rng qbJ r) (hl:cr.1.length≤9223372036854775807) (c:qaa r=0) (c1:chkC cr=0) (h:0≤now∧now≤100000000):MOK r cr (newM r cr now):=by
  obtain⟨g1,g2,g3,g4⟩:=qml r (rawM r cr now);obtain⟨g5,g6,g7⟩:=over_ok (r:=r) (m:=rawM r cr now);unfold newM;refine⟨hr,hl,by rw[g1];exact RG.begin c,c1,fun q=>?_,fun q=>?_,fun q=>?_,by rw[g2];rfl,by rw[g2];exact Nat.zero_le _,by rw[g3];exact(qeh ⟨by omega,by omega⟩).2⟩
  · rw[g5,g4];exact qsa c1 h
  · rw[g5,g1];rfl
  · rw[g1];exact(g7 q).2

theorem look_same {cr:CRule} {c:Clk} {now:Int} (hl:cr.1.length≤9223372036854775807) (h:GoodC cr c now):lookC cr c now=c:=by
  unfold lookC;rw[qtM hl h];rfl
theorem ann_nil {r:Rules} {cr:CRule} {now:Int} {m:MS} (h:m.pm=[]):annM r cr now 1 m=m:=by
  unfold annM;have hn:∀p:Place,nextP r p []=((0,(0,(0,()))),(false,([],()))):=fun p=>rfl;rw[h,hn];split
  · rw[if_neg (by decide)];cases m;simp only at h;rw[h]
  · rfl
structure Moved (r:Rules) (cr:CRule) (m:MS) (x:Mv) (now:Int) (y:MS×Int):Prop where
  ok:y.2=0
  g:y.1.g=nextG r m.g x
  c:y.1.c=qgD cr m.c now
  pm:y.1.pm=[]
  last:y.1.last=now
  j:y.1.j.length=m.j.length+1
  res:y.1.res=qE r (nextG r m.g x).1
theorem do_moved {r:Rules} {cr:CRule} {m:MS} (h:MOK r cr m) {e:Ev} (h0:m.res=0) (h1:e.1=0) (h2:e.2.1=par m.g.2.length) (h3:m.last≤e.2.2.2.1) (hj:m.j.length<1000) (hg:GoodC cr m.c e.2.2.2.1)
    (hx:qF r (lastP m.g.1) e.2.2.2.2.1=true) (hl:m.g.2.length<400) (hpm:m.pm=[]):Moved r cr m e.2.2.2.2.1 e.2.2.2.1 (doM r cr m e):=by
  have hp:=par_rng m.g.2.length;have hn:=hg.now1;have ho:=h.opn h0
  have hmem:e.2.2.2.2.1∈openM r (lastP m.g.1):=openM_mem.2 ⟨by
    unfold qE at ho;by_cases w:((qdg r (lastP m.g.1)==0)&&(r.repeats !=0))&&decide (((qeG m.g.1:Nat):Int)≥r.repeats)
    · rw[w,cond_true] at ho;cases ho
    · rw[show(((qdg r (lastP m.g.1)==0)&&(r.repeats !=0))&&decide (((qeG m.g.1:Nat):Int)≥r.repeats))=false by simpa using w,cond_false] at ho
      exact ho,hx⟩
  have hk:kindM r cr m e=(moveM r cr m e.2.2.2.2.1 e.2.2.2.1,0):=by
    unfold kindM qnW;rw[if_pos h1,if_neg (fun q=>q h2.symm),if_neg (fun q=>q hmem),if_neg (by omega),hpm];rw[show([]:List PM).length+1=1 from rfl,ann_nil (by exact hpm)]
  have hd:doM r cr m e=(doneM r (moveM r cr m e.2.2.2.2.1 e.2.2.2.1) e,0):=by
    unfold doM;rw[if_neg (by omega),if_neg (by omega),if_neg (fun q=>q h0),if_neg (by omega),look_same h.len hg,if_neg (by have:=hg.up;omega),hk,if_neg (fun q=>q rfl)]
  rw[hd];unfold doneM;obtain⟨g1,g2,g3,g4⟩:=qml r { moveM r cr m e.2.2.2.2.1 e.2.2.2.1 with last:=e.2.2.2.1,j:=nextJ (moveM r cr m e.2.2.2.2.1 e.2.2.2.1).j (qbQ e) };refine⟨rfl,g1,over_ok.1,by rw[g2];exact hpm,g4,by rw[g3];unfold nextJ;simp;rfl,?_⟩;unfold overM;split
  · rfl
  · rename_i q;by_cases w:qE r (nextG r m.g e.2.2.2.2.1).1=0
    · rw[w];exact h0
    · exact absurd ⟨h0,w⟩ q

theorem qqe {r:Rules} {cr:CRule} {m:MS} (h:MOK r cr m):qr (r,(m.g.1,(m.g.2,())))=some m.g.2∧qq m.pm=some m.pm:=⟨qaR h.g.ok,qn6 m.pm (by have:=h.few;omega)⟩
def demoX:Rec:=([],(ByteArray.mk #[],([(-1,((-1,(4,(0,()))),(ByteArray.mk #[],())))],(0,()))))
theorem demoX_rng:Rng tyRec demoX:=qlI _ _ (by decide +kernel)
theorem demoX_ok:recErr gamehalltopH10Tic demoX=0:=by decide +kernel
theorem qcp:Rng qbJ gamehalltopH10Tic:=qlI _ _ (by decide +kernel)
theorem qba:qaa gamehalltopH10Tic=0:=by decide +kernel
theorem qjS:VR0 gamehalltopH10Tic:=qbu qba
abbrev demoM:Mv:=(-1,(4,(0,())))
abbrev demoT:ByteArray:=ByteArray.mk #[83,64,98,50]
theorem qul:qF gamehalltopH10Tic (qaC gamehalltopH10Tic) demoM=true:=by decide +kernel
theorem demo_of (p:Place) (l:List Mv):qjL gamehalltopH10Tic p l demoM=some demoT:=by
  unfold qjL;rw[show decide ((demoM.1:Int)<0)=true from rfl,cond_true];decide +kernel
theorem demo_one:qa5 (gamehalltopH10Tic,(demoX,())) (qaC gamehalltopH10Tic) 0=some ((gamehalltopH10Tic,(demoX,())),[demoT]):=by
  have hv:=qlc qjS;unfold qa5;have ha:at? demoX.2.2.1 0=some (-1,(demoM,(ByteArray.mk #[],()))):=rfl;simp only[qse,qu5,qmL hv,Option.bind_some,ha,demo_of,qY,agree_self];rw[show(!((ByteArray.mk #[]).toList==(ByteArray.mk #[]).toList))=false by decide +kernel,cond_false,Option.bind_some]
theorem demo_kids:qff demoX (-1)=some [0]:=by
  rw[qtB demoX (-1) (by decide)];rfl
theorem qxo:qff demoX 0=some []:=by
  rw[qtB demoX 0 (by decide)];rfl
theorem qxO:qdP (gamehalltopH10Tic,(demoX,())) (qaC gamehalltopH10Tic) (-1)=some ((gamehalltopH10Tic,(demoX,())),[demoT]):=by
  have hv:=qlc qjS;refine fixW_ind qiw (fun x=>x=((gamehalltopH10Tic,(demoX,())),qaC gamehalltopH10Tic,(-1:Int),())∨x=((gamehalltopH10Tic,(demoX,())),qlE gamehalltopH10Tic (qaC gamehalltopH10Tic) demoM,(0:Int),())) (fun x=>bif x.2.2.1==0 then 0 else 1) (fun x=>((gamehalltopH10Tic,(demoX,())),bif x.2.2.1==0 then [] else [demoT])) ?_ _ (.inl rfl)
  rintro φ x (rfl | rfl) hI
  · have hs:=hI _ (.inr rfl) (by decide);show qai φ (gamehalltopH10Tic,(demoX,())) (qaC gamehalltopH10Tic) (-1)=_;unfold qai;have ha:at? demoX.2.2.1 0=some (-1,(demoM,(ByteArray.mk #[],()))):=rfl;simp only[qse,demo_kids,Option.bind_some];rw[show((((([0]:List Int).length:Nat):Int))==0)=false from rfl,cond_false];rw[show inb 0 ([0]:List Int).length=true from rfl,qb,show getD' ([0]:List Int) 0 0=0 from rfl,demo_one,Option.bind_some];rw[show qi 1 (((([0]:List Int).length:Nat):Int)) ([0]:List Int).length=true from rfl,qb]
    rw[ql (r:=(([demoT],()),((gamehalltopH10Tic.1,(gamehalltopH10Tic.2.1,(gamehalltopH10Tic.2.2.1,(gamehalltopH10Tic.2.2.2.1,(gamehalltopH10Tic.2.2.2.2.1,(gamehalltopH10Tic.2.2.2.2.2.1,(gamehalltopH10Tic.2.2.2.2.2.2.1,(gamehalltopH10Tic.2.2.2.2.2.2.2.1,(gamehalltopH10Tic.2.2.2.2.2.2.2.2.1,(gamehalltopH10Tic.2.2.2.2.2.2.2.2.2.1,(gamehalltopH10Tic.2.2.2.2.2.2.2.2.2.2.1,demoX))))))))))),()))) rfl,Option.bind_some];simp only[qb,qse,qu5,ha,Option.bind_some,quM hv qul,hs,qY,agree_self];rfl
  · show qai φ (gamehalltopH10Tic,(demoX,())) (qlE gamehalltopH10Tic (qaC gamehalltopH10Tic) demoM) 0=_;unfold qai;simp only[qse,qxo,Option.bind_some];rfl
theorem demo_text:qhk gamehalltopH10Tic demoX=some (ByteArray.mk #[83,64,98,50,32,42,10],(0,())):=by
  unfold qhk;rw[qvF qcp demoX demoX_rng (by decide),demoX_ok,Option.bind_some];rw[show((0:Int)!=0)=false from rfl,cond_false];rw[ql (r:=((),(([]:List Int),()))) rfl,Option.bind_some];rw[show(!(demoX.2.1.toList==(ByteArray.mk #[]).toList))=false by decide +kernel,cond_false,Option.bind_some];rw[qhc _ qcp,if_pos qba,Option.bind_some];simp only[qu5,qxO,Option.bind_some,qY,agree_self];decide +kernel
theorem qxq (l:Jn) (s:ByteArray):(nextJ l s).length=l.length+1:=by unfold nextJ;simp
def evP:Ev:=(0,(0,(0,(10,((-1,(4,(0,()))),())))))
theorem qi5:chkC gamehalltopH10Minute=0:=by decide +kernel
theorem plays_M:(doM gamehalltopH10Tic gamehalltopH10Minute (newM gamehalltopH10Tic gamehalltopH10Minute 0) evP).2=0∧(doM gamehalltopH10Tic gamehalltopH10Minute (newM gamehalltopH10Tic gamehalltopH10Minute 0) evP).1.g.2.length=1∧(doM gamehalltopH10Tic gamehalltopH10Minute (newM gamehalltopH10Tic gamehalltopH10Minute 0) evP).1.c.1.1=60990:=by
  have hm:=qsK (cr:=gamehalltopH10Minute) (now:=0) qcp (by decide) qba qi5 ⟨by decide,by decide⟩
  have h0:qE gamehalltopH10Tic [qaC gamehalltopH10Tic]=0:=by decide +kernel
  have hn:newM gamehalltopH10Tic gamehalltopH10Minute 0=rawM gamehalltopH10Tic gamehalltopH10Minute 0:=by
    unfold newM overM;rw[if_neg (fun q=>q.2 h0)]
  rw[hn] at hm ⊢;have hg:GoodC gamehalltopH10Minute (rawM gamehalltopH10Tic gamehalltopH10Minute 0).c 10:=by
    have:=qsa (cr:=gamehalltopH10Minute) (now:=0) qi5 ⟨by decide,by decide⟩;refine⟨this.ok,this.v,?_,by decide,this.up,this.run,?_⟩
    · show(0:Int)≤10;decide
    · show max 0 ((10:Int)-0-gamehalltopH10Minute.2.2.1)≤leftT (startC gamehalltopH10Minute 0);decide +kernel
  have:=do_moved hm (e:=evP) rfl rfl rfl (by show(0:Int)≤10;decide) (by show(nextJ [] (qW 0)).length<1000;rw[qxq];decide) hg (by decide +kernel) (by decide) rfl;refine⟨this.ok,?_,?_⟩
  · rw[this.g];rfl
  · rw[this.c];show(qgD gamehalltopH10Minute (startC gamehalltopH10Minute 0) 10).1.1=60990;decide +kernel
theorem qxr:qbn=some true:=by
  have hm:=qsK (cr:=gamehalltopH10Minute) (now:=0) qcp (by decide) qba qi5 ⟨by decide,by decide⟩;have z64:I64 0:=⟨by decide,by decide⟩;have he:EvR evP:=⟨z64,z64,z64,⟨by decide,by decide⟩,⟨by decide,by decide⟩,⟨by decide,by decide⟩,⟨by decide,by decide⟩⟩;obtain⟨d1,d2⟩:=qn9 hm he;obtain⟨e1,e2⟩:=qqe d2;obtain⟨p1,p2,p3⟩:=plays_M;unfold qbn;simp only[qY,agree_self];refine(congrArg (fun z=>Option.bind z _) (qhc gamehalltopH10Tic qcp)).trans ?_;rw[if_pos qba,Option.bind_some];simp only[bne_self_eq_false,cond_false];refine(congrArg (fun z=>Option.bind (Option.bind z _) _) (qfb (qbu qba))).trans ?_;rw[Option.bind_some,Option.bind_some];simp only[bne_self_eq_false,cond_false]
  refine(congrArg (fun z=>Option.bind z _) (qjG gamehalltopH10Minute 0 (by decide))).trans ?_;rw[if_pos qi5,if_pos ⟨by decide,by decide⟩,Option.bind_some];simp only[bne_self_eq_false,cond_false];refine(congrArg (fun z=>Option.bind z _) (qfb (qbu qba))).trans ?_;rw[Option.bind_some];refine(congrArg (fun z=>Option.bind z _) (qn7 qi5)).trans ?_;rw[Option.bind_some];refine(congrArg (fun z=>Option.bind z _) (qjM z64)).trans ?_;rw[Option.bind_some];rw[show qJ (ByteArray.mk #[115,116,97,114,116,32]) (numS 0)=true from(qgP z64).2,qb];refine(congrArg (fun z=>Option.bind z _) (qeh z64).1).trans ?_;rw[Option.bind_some];refine(congrArg (fun z=>Option.bind z _) (qo6 (r:=gamehalltopH10Tic) (cr:=gamehalltopH10Minute) (now:=0) qba)).trans ?_
  rw[Option.bind_some];refine(congrArg (fun z=>Option.bind z _) d1).trans ?_;rw[Option.bind_some];refine(congrArg (fun z=>Option.bind (Option.bind z _) _) demo_text).trans ?_;rw[Option.bind_some,Option.bind_some];simp only[p1,beq_self_eq_true,cond_true];refine(congrArg (fun z=>Option.bind (Option.bind z _) _) e1).trans ?_;rw[Option.bind_some];refine(congrArg (fun z=>Option.bind (Option.bind z _) _) e2).trans ?_;rw[Option.bind_some,Option.bind_some,p2];decide +kernel

noncomputable def runE (r:Rules) (cr:CRule):MS→List Ev→MS
  | m,[]=>m
  | m,e::es=>runE r cr (doM r cr m e).1 es
def okE (r:Rules) (cr:CRule):MS→List Ev→Prop
  | _,[]=>True
  | m,e::es=>EvR e∧(doM r cr m e).2=0∧okE r cr (doM r cr m e).1 es
theorem qtg {r:Rules} {cr:CRule}:∀(es:List Ev) (m:MS),MOK r cr m→okE r cr m es→MOK r cr (runE r cr m es)
  | [],m,h,_=>h
  | e::es,m,h,ho=>qtg es _ (qn9 h ho.1).2 ho.2.2
theorem quR {r:Rules} {cr:CRule} (e:Ev):∀(es:List Ev) (m:MS),runE r cr m (es++[e])=(doM r cr (runE r cr m es) e).1
  | [],m=>rfl
  | x::es,m=>quR e es _
theorem qxa {r:Rules} {cr:CRule} {e:Ev}:∀(es:List Ev) (m:MS),okE r cr m es→EvR e→(doM r cr (runE r cr m es) e).2=0→okE r cr m (es++[e])
  | [],m,_,he,h=>⟨he,h,trivial⟩
  | x::es,m,ho,he,h=>⟨ho.1,ho.2.1,qxa es _ ho.2.2 he h⟩
theorem qxQ (r:Rules) (cr:CRule) (m:MS) (e:Ev):(kindM r cr m e).1.j=m.j∧(kindM r cr m e).1.last=m.last:=by
  unfold kindM;split
  · unfold qnW
    repeat' split
    all_goals first | exact⟨rfl,rfl⟩ | skip
    obtain⟨a,b⟩:=qtj (r:=r) (cr:=cr) (now:=e.2.2.2.1) (m.pm.length+1) (moveM r cr m e.2.2.2.2.1 e.2.2.2.1);exact⟨b,a⟩
  · split
    · unfold qmn;simp only
      repeat' split
      all_goals exact⟨rfl,rfl⟩
    · split
      · unfold qi6;simp only
        repeat' split
        all_goals exact⟨rfl,rfl⟩
      · split
        · unfold qmO
          repeat' split
          all_goals exact⟨rfl,rfl⟩
        · split
          · unfold qgW
            repeat' split
            all_goals exact⟨rfl,rfl⟩
          · exact⟨rfl,rfl⟩
theorem do_jR (r:Rules) (cr:CRule) (m:MS) (e:Ev):((doM r cr m e).2=0→(doM r cr m e).1.j=nextJ m.j (qbQ e)∧m.res=0)∧((doM r cr m e).2≠0→(doM r cr m e).1=m):=by
  unfold doM
  repeat' split
  all_goals first | (rename_i c;exact⟨fun h=>absurd h c,fun _=>rfl⟩) | exact⟨fun h=>(by simp at h),fun _=>rfl⟩ | skip
  rename_i h3 _ _ _;refine⟨fun _=>⟨?_,by omega⟩,fun h=>absurd rfl h⟩;show(doneM r (kindM r cr m e).1 e).j=_;unfold doneM;rw[(qml r _).2.2.1];show nextJ (kindM r cr m e).1.j (qbQ e)=_;rw[(qxQ r cr m e).1]
theorem run_j {r:Rules} {cr:CRule}:∀(es:List Ev) (m:MS),okE r cr m es→∃t:Jn,(runE r cr m es).j=m.j++t∧t.map (·.1)=es.map qbQ
  | [],m,_=>⟨[],(List.append_nil _).symm,rfl⟩
  | e::es,m,ho=>by
    obtain⟨t,h1,h2⟩:=run_j es _ ho.2.2;have hj:=((do_jR r cr m e).1 ho.2.1).1;refine⟨(qbQ e,(sumJ (lastJ m.j) (qbQ e),()))::t,?_,by rw[List.map_cons,List.map_cons,h2]⟩;show(runE r cr (doM r cr m e).1 es).j=_;rw[h1,hj];unfold nextJ;rw[List.append_assoc];rfl
theorem quQ (n:Int):qap (qW n) startB=some (numS n,(true,())):=by
  have hs:(qW n).size=6+(numS n).size:=by unfold qW;rw[ByteArray.size_append];rfl
  have hb:startB.size=6:=rfl
  have hl:(qW n).data.toList=startB.data.toList++(numS n).data.toList:=by unfold qW;rw[qkx]
  have hbl:startB.data.toList.length=6:=rfl
  have e1:(qW n).extract 0 6=startB:=qrR (by
    rw[qwS,hl,List.drop_zero,List.take_append_of_le_length (by omega),List.take_of_length_le (by omega)])
  have e2:(qW n).extract 6 (qW n).size=numS n:=qrR (by
    rw[qwS,hl,hs,qhF (numS n),List.take_of_length_le (by rw[List.length_append];omega),List.drop_append_of_le_length (by omega),List.drop_of_length_le (by omega),List.nil_append])
  unfold qap qas qau;rw[hb]
  have b1:qi 0 ((6:Nat):Int) (qW n).size=true:=by simp only[qi,Bool.and_eq_true,decide_eq_true_eq];omega
  have b2:qi ((6:Nat):Int) (((qW n).size:Nat):Int) (qW n).size=true:=by simp only[qi,Bool.and_eq_true,decide_eq_true_eq];omega
  have b3:decide ((((qW n).size:Nat):Int)≥((6:Nat):Int))=true:=by rw[decide_eq_true_eq];omega
  simp only[b1,b2,b3,imp,Bool.cond_self,qb,Int.toNat_natCast,e1,e2,Option.bind_some,beq_self_eq_true,Bool.and_self,Bool.not_true,cond_false]
def matU (m:MS) (pos:Place) (now:Int):StT×Place×Int×Unit:=((m.g.2,(m.res,(m.rea,(m.c,(m.o,(m.pm,())))))),(pos,(now,())))
def momM (m:MS) (now:Int):StT×Place×Int×Unit:=matU m (lastP m.g.1) now
noncomputable def momsM (r:Rules) (cr:CRule):MS→List Ev→List (StT×Place×Int×Unit)
  | _,[]=>[]
  | m,e::es=>momM (doM r cr m e).1 e.2.2.2.1::momsM r cr (doM r cr m e).1 es
theorem qph {A:Type} (l:List A):(l.take ((l.length:Nat):Int).toNat).drop 1=l.drop 1:=by rw[Int.toNat_natCast,List.take_length]
theorem qud {r:Rules} {cr:CRule} (l:Jn) (es:List Ev) (ht:(l.drop 1).map (·.1)=es.map qbQ) (hl:es.length≤1000):∀(k i:Nat) (m:MS),i+k=es.length→MOK r cr m→okE r cr m (es.drop i) →
    iterW (qbB l) (((i:Int),()),(flatT (tupM r cr m),()))=some (.inl ((),(flatT (tupM r cr (runE r cr m (es.drop i))),())))
  | 0,i,m,hi,h,ho=>by
    have hlen:(l.drop 1).length=es.length:=by have:=congrArg List.length ht;simpa using this
    rw[List.drop_of_length_le (by omega)];refine ql ?_;unfold qbB;simp only[qph];rw[show decide ((i:Int)<(((l.drop 1).length:Nat):Int))=false by simp only[decide_eq_false_iff_not];omega,cond_false];rfl
  | k+1,i,m,hi,h,ho=>by
    have hlen:(l.drop 1).length=es.length:=by have:=congrArg List.length ht;simpa using this
    have hie:i<es.length:=by omega
    have hil:i<(l.drop 1).length:=by omega
    have htx:(l.drop 1)[i].1=qbQ es[i]:=by
      have:=congrArg (fun x=>x[i]?) ht;simp only[List.getElem?_map,List.getElem?_eq_getElem hil,List.getElem?_eq_getElem hie,Option.map_some,Option.some.injEq] at this;exact this
    rw[List.drop_eq_getElem_cons hie] at ho ⊢;obtain⟨he,h0,ho'⟩:=ho;obtain⟨d1,d2⟩:=qn9 h he;have hs:qbB l (((i:Int),()),(flatT (tupM r cr m),()))=some (.inl ((((i+1:Nat):Int),()),(flatT (tupM r cr (doM r cr m es[i]).1),()))):=by
      unfold qbB;simp only[qph];rw[show decide ((i:Int)<(((l.drop 1).length:Nat):Int))=true by simp only[decide_eq_true_eq];omega,cond_true,qfI _ i hil,Option.bind_some,htx,qt5 he,Option.bind_some];simp only[bne_self_eq_false,cond_false];refine(congrArg (fun z=>Option.bind z _) d1).trans ?_;rw[Option.bind_some,h0];simp only[bne_self_eq_false,cond_false];rw[qe (by omega) (by omega)];rfl
    rw[qm hs];exact qud l es ht hl k (i+1) _ (by omega) d2 ho'
theorem qwl {r:Rules} {cr:CRule} (l:Jn) (es:List Ev) (ht:(l.drop 1).map (·.1)=es.map qbQ) (hl:es.length≤1000):∀(k i:Nat) (m:MS) (out:List (StT×Place×Int×Unit)),i+k=es.length→MOK r cr m→okE r cr m (es.drop i)→out.length≤i+1 →
    iterW (qbz l) ((out,((i:Int),())),(flatT (tupM r cr m),()))=some ((out++momsM r cr m (es.drop i),()),(flatT (tupM r cr (runE r cr m (es.drop i))),()))
  | 0,i,m,out,hi,h,ho,hout=>by
    have hlen:(l.drop 1).length=es.length:=by have:=congrArg List.length ht;simpa using this
    rw[List.drop_of_length_le (by omega)];refine ql ?_;unfold qbz;simp only[qph,qY,agree_self];rw[show decide ((i:Int)<(((l.drop 1).length:Nat):Int))=false by simp only[decide_eq_false_iff_not];omega,cond_false];unfold momsM runE;rw[List.append_nil]
  | k+1,i,m,out,hi,h,ho,hout=>by
    have hlen:(l.drop 1).length=es.length:=by have:=congrArg List.length ht;simpa using this
    have hie:i<es.length:=by omega
    have hil:i<(l.drop 1).length:=by omega
    have htx:(l.drop 1)[i].1=qbQ es[i]:=by
      have:=congrArg (fun x=>x[i]?) ht;simp only[List.getElem?_map,List.getElem?_eq_getElem hil,List.getElem?_eq_getElem hie,Option.map_some,Option.some.injEq] at this;exact this
    rw[List.drop_eq_getElem_cons hie] at ho ⊢;obtain⟨he,h0,ho'⟩:=ho;obtain⟨d1,d2⟩:=qn9 h he;have hs:qbz l ((out,((i:Int),())),(flatT (tupM r cr m),()))=some (.inl ((out++[momM (doM r cr m es[i]).1 es[i].2.2.2.1],(((i+1:Nat):Int),())),(flatT (tupM r cr (doM r cr m es[i]).1),()))):=by
      unfold qbz;simp only[qph,qY,agree_self];rw[show decide ((i:Int)<(((l.drop 1).length:Nat):Int))=true by simp only[decide_eq_true_eq];omega,cond_true,qfI _ i hil,Option.bind_some,htx,qt5 he,Option.bind_some];simp only;refine(congrArg (fun z=>Option.bind z _) d1).trans ?_;rw[Option.bind_some];refine(congrArg (fun z=>Option.bind (Option.bind z _) _) (qaR d2.g.ok)).trans ?_;rw[Option.bind_some];refine(congrArg (fun z=>Option.bind (Option.bind z _) _) (qn6 (doM r cr m es[i]).1.pm (by have:=d2.few;omega))).trans ?_;rw[Option.bind_some];refine(congrArg (fun z=>Option.bind (Option.bind z _) _) (qZ d2.g.ok)).trans ?_;rw[Option.bind_some];simp only;rw[qT (by simp only[List.length_cons,List.length_nil];omega),qb,Option.bind_some,qe (by omega) (by omega)];rfl
    have hz:=qwl l es ht hl k (i+1) _ (out++[momM (doM r cr m es[i]).1 es[i].2.2.2.1]) (by omega) d2 ho' (by simp;omega);rw[qm hs,hz,List.append_assoc];rfl

theorem new_j (r:Rules) (cr:CRule) (now:Int):(newM r cr now).j=[(qW now,(sumJ 0 (qW now),()))]:=by
  unfold newM;rw[(qml r _).2.2.1];rfl
theorem new_c (r:Rules) (cr:CRule) (now:Int):(newM r cr now).c.2.2.2.2.1=now:=by
  unfold newM;rw[over_ok.1];rfl
theorem qvx {r:Rules} {cr:CRule} {now:Int} (hr:Rng qbJ r) (hl:cr.1.length≤9223372036854775807) (c:qaa r=0) (c1:chkC cr=0) (hn:0≤now∧now≤100000000) {es:List Ev} (ho:okE r cr (newM r cr now) es) (hes:es.length≤400) :
    qaQ r cr (runE r cr (newM r cr now) es).j=some (momM (newM r cr now) now::momsM r cr (newM r cr now) es,(0,())):=by
  have hm:=qsK hr hl c c1 hn;have hm':=qtg es _ hm ho;have z64:I64 now:=⟨by omega,by omega⟩;obtain⟨t,h1,h2⟩:=run_j es _ ho;have hj:=hm'.j;have hj0:=hm.j;rw[new_j] at h1 hj0;generalize (runE r cr (newM r cr now) es).j=l at *
  have ht:(l.drop 1).map (·.1)=es.map qbQ:=by rw[h1];exact h2
  have htl:t.length=es.length:=by have:=congrArg List.length h2;simpa using this
  have hlen:l.length=es.length+1:=by rw[h1];simp[htl]
  have h0:at? l 0=some (qW now,(sumJ 0 (qW now),())):=by rw[h1];rfl
  have hb1:qi 1 ((l.length:Nat):Int) l.length=true:=by simp only[qi,Bool.and_eq_true,decide_eq_true_eq];omega
  have hb2:qi 0 1 l.length=true:=by simp only[qi,Bool.and_eq_true,decide_eq_true_eq];omega
  have htk:(l.take 1).drop 0=[(qW now,(sumJ 0 (qW now),()))]:=by rw[h1];rfl
  have hload:=qud (r:=r) (cr:=cr) l es ht (by omega) es.length 0 _ (Nat.zero_add _) hm ho;have hmom:=qwl (r:=r) (cr:=cr) l es ht (by omega) es.length 0 _ [momM (newM r cr now) now] (Nat.zero_add _) hm ho (by simp);rw[List.drop_zero] at hload hmom;unfold qaQ;simp only[qY,agree_self];rw[qqq hj,Option.bind_some];simp only[bne_self_eq_false,cond_false];rw[beq_f (show ¬((l.length:Nat):Int)=0 by omega),cond_false,h0,Option.bind_some];rw[show qap (qW now,(sumJ 0 (qW now),())).1 (ByteArray.mk #[115,116,97,114,116,32])=some (numS now,(true,())) from quQ now,Option.bind_some];simp only;rw[qbt z64,Option.bind_some];simp only[Bool.not_true,Bool.or_self,cond_false];rw[qhc r hr,if_pos c,Option.bind_some];simp only[bne_self_eq_false,cond_false]
  rw[qfb (qbu c),Option.bind_some,Option.bind_some];simp only[bne_self_eq_false,cond_false];rw[qjG cr now hl,if_pos c1,if_pos hn,Option.bind_some];simp only[bne_self_eq_false,cond_false];rw[qn7 c1,Option.bind_some];refine(congrArg (fun z=>Option.bind z _) (?_:_=some (((0:Int),()),()))).trans ?_
  · refine(congrArg (fun z=>Option.bind z _) (qjM z64)).trans ?_;rw[Option.bind_some,show qJ (ByteArray.mk #[115,116,97,114,116,32]) (numS now)=true from(qgP z64).2,qb];refine(congrArg (fun z=>Option.bind z _) (qeh z64).1).trans ?_;rw[Option.bind_some];refine(congrArg (fun z=>Option.bind z _) (qo6 (r:=r) (cr:=cr) (now:=now) c)).trans ?_;rw[Option.bind_some,hb1,qb];refine(congrArg (fun z=>Option.bind z _) hload).trans ?_;rfl
  rw[Option.bind_some];simp only[bne_self_eq_false,cond_false];rw[hb2,qb];rw[htk];rw[qqq hj0,Option.bind_some];simp only[bne_self_eq_false,cond_false];rw[show((((([(qW now,(sumJ 0 (qW now),()))]:Jn).length:Nat):Int))==0)=false from rfl,cond_false];rw[show at? ([(qW now,(sumJ 0 (qW now),()))]:Jn) 0=some (qW now,(sumJ 0 (qW now),())) from rfl,Option.bind_some];rw[show qap (qW now,(sumJ 0 (qW now),())).1 (ByteArray.mk #[115,116,97,114,116,32])=some (numS now,(true,())) from quQ now,Option.bind_some];simp only;rw[qbt z64,Option.bind_some];simp only[Bool.not_true,Bool.or_self,cond_false];rw[Option.bind_some];simp only[bne_self_eq_false,cond_false];rw[Option.bind_some,Option.bind_some];simp only[bne_self_eq_false,cond_false]
  rw[qjG cr now hl,if_pos c1,if_pos hn,Option.bind_some];simp only[bne_self_eq_false,cond_false];rw[Option.bind_some,Option.bind_some];refine(congrArg (fun z=>Option.bind z _) (qjM z64)).trans ?_;rw[Option.bind_some,show qJ (ByteArray.mk #[115,116,97,114,116,32]) (numS now)=true from(qgP z64).2,qb];refine(congrArg (fun z=>Option.bind z _) (qeh z64).1).trans ?_;rw[Option.bind_some];refine(congrArg (fun z=>Option.bind z _) (qo6 (r:=r) (cr:=cr) (now:=now) c)).trans ?_;rw[Option.bind_some];rw[show qi 1 ((([(qW now,(sumJ 0 (qW now),()))]:Jn).length:Nat):Int) ([(qW now,(sumJ 0 (qW now),()))]:Jn).length=true from rfl,qb]
  have hL10:iterW (qeH l) (((0:Int),()),(flatT (tupM r cr (newM r cr now)),()))=some (.inl ((),(flatT (tupM r cr (newM r cr now)),()))):=by
    refine ql ?_;unfold qeH;simp only[htk];rfl
  refine(congrArg (fun z=>Option.bind z _) hL10).trans ?_;rw[Option.bind_some];simp only[Sum.elim_inl];refine(congrArg (fun z=>Option.bind z _) (qaR hm.g.ok)).trans ?_;rw[Option.bind_some];refine(congrArg (fun z=>Option.bind z _) (qn6 (newM r cr now).pm (by have:=hm.few;omega))).trans ?_;rw[Option.bind_some];refine(congrArg (fun z=>Option.bind z _) (qZ hm.g.ok)).trans ?_;rw[Option.bind_some];refine(congrArg (fun z=>Option.bind z _) (qaR hm.g.ok)).trans ?_;rw[Option.bind_some];refine(congrArg (fun z=>Option.bind z _) (qn6 (newM r cr now).pm (by have:=hm.few;omega))).trans ?_;rw[Option.bind_some,hb1,qb]
  have hc:momM (newM r cr now) now=matU (newM r cr now) (lastP (newM r cr now).g.1) (newM r cr now).c.2.2.2.2.1:=by rw[new_c];rfl
  rw[hc] at hmom ⊢;refine(congrArg (fun z=>Option.bind z _) hmom).trans ?_;rfl

abbrev Mom:=StT×Place×Int×Unit
theorem trace_of {r:Rules} {cr:CRule} {l:Jn} {ms:List Mom} (h:qaQ r cr l=some (ms,(0,()))) (hl:ms.length≤1000):qfZ r cr l=some (ms.map (·.1),(0,())):=by
  unfold qfZ;rw[h,Option.bind_some];simp only[bne_self_eq_false,cond_false]
  have:=qrp ms 1 (qdj (ms,((0:Int),()))) (fun x=>[x.1]) (fun a=>((a,()),())) [] (fun x _=>Nat.le_refl _) (fun i hi a ha=>by
    simp only[List.length_nil] at ha;unfold qdj;simp only[qY,agree_self];rw[show decide ((i:Int)<((ms.length:Nat):Int))=true by simp;omega,cond_true,inb_iff.2 (by omega),qb,Int.toNat_natCast,gd_eq ms i hi,qT (by simp only[List.length_cons,List.length_nil];omega),qb,qe (n:=(i:Int)+1) (by omega) (by omega)]) (fun a=>by
    unfold qdj
    simp)
  rw[this,Option.bind_some];have hm:ms.flatMap (fun x=>[x.1])=ms.map (·.1):=by
    induction ms with
    | nil=>rfl
    | cons x ms ih=>rw[List.flatMap_cons,List.map_cons];exact congrArg (x.1 :: ·) (by
        clear this h hl;clear ih
        induction ms with
        | nil=>rfl
        | cons y ms ih=>rw[List.flatMap_cons,List.map_cons];exact congrArg (y.1 :: ·) ih)
  rw[hm];rfl
abbrev RClaim:=Int×Int×Int×Int×Mv×Unit
def fitC (c:RClaim) (n:Int):Bool:=!((((((decide (c.1<(0:Int)))||(decide (c.1>(4:Int))))||((c.2.2.1 !=(0:Int))&&(c.2.2.1 !=(1:Int))))||(decide (c.2.1<(0:Int))))||(decide (c.2.1≥n)))||(((c.1==(4:Int))&&(c.2.2.2.1 !=(0:Int)))&&(c.2.2.2.1 !=(1:Int))))
theorem check_C (c:RClaim) (n:Int):qcg c n=if fitC c n=true then 0 else 1:=by
  unfold qcg fitC
  cases (((((((decide (c.1<(0:Int)))||(decide (c.1>(4:Int))))||((c.2.2.1 !=(0:Int))&&(c.2.2.1 !=(1:Int))))||(decide (c.2.1<(0:Int))))||(decide (c.2.1≥n)))||(((c.1==(4:Int))&&(c.2.2.2.1 !=(0:Int)))&&(c.2.2.2.1 !=(1:Int)))))<;>rfl
theorem qvt {r:Rules} {cr:CRule} {ms:List Mom} (i:Nat) (hi:i<ms.length) (hl:ms.length≤1000) (m:Mv):qe8 r cr ms (3,((i:Int),(0,(0,(m,())))))=some (ms[i].1.2.1 !=0):=by
  unfold qe8;simp only[qY,agree_self];rw[qfI ms i hi,Option.bind_some,qe (n:=(i:Int)-1) (by omega) (by omega)];obtain⟨j,hj,hj'⟩:∃j:Nat,j<ms.length∧(if (0:Int)>(i:Int)-1 then(0:Int) else(i:Int)-1)=(j:Int):=by
    by_cases c:(0:Int)>(i:Int)-1
    · exact⟨0,by omega,by rw[if_pos c];rfl⟩
    · exact⟨i-1,by omega,by rw[if_neg c];omega⟩
  rw[hj',qfI ms j hj];rfl

theorem qwN {r:Rules} {cr:CRule}:∀(es:List Ev) (m:MS),(momsM r cr m es).length=es.length
  | [],m=>rfl
  | e::es,m=>by
    unfold momsM;rw[List.length_cons,List.length_cons,qwN es]
theorem qwB {r:Rules} {cr:CRule}:∀(es:List Ev) (m:MS) (i:Nat) (hi:i<es.length),(momsM r cr m es)[i]?=some (momM (runE r cr m (es.take (i+1))) es[i].2.2.2.1)
  | [],m,i,hi=>absurd hi (Nat.not_lt_zero _)
  | e::es,m,0,hi=>rfl
  | e::es,m,i+1,hi=>by
    unfold momsM;rw[List.getElem?_cons_succ,qwB es _ i (by simpa using hi)];rfl
noncomputable def allM (r:Rules) (cr:CRule) (m:MS) (now:Int) (es:List Ev):List Mom:=momM m now::momsM r cr m es
theorem qti {r:Rules} {cr:CRule} {m:MS} {now:Int} {es:List Ev}:(allM r cr m now es).length=es.length+1:=by
  unfold allM;rw[List.length_cons,qwN]
theorem all_get {r:Rules} {cr:CRule} {m:MS} {now:Int} {es:List Ev} (i:Nat) (hi:i<(allM r cr m now es).length):∃t,(allM r cr m now es)[i]=momM (runE r cr m (es.take i)) t:=by
  have hl:=qti (r:=r) (cr:=cr) (m:=m) (now:=now) (es:=es)
  cases i with
  | zero=>exact⟨now,rfl⟩
  | succ i =>
    have hi':i<es.length:=by omega
    have:=qwB (r:=r) (cr:=cr) es m i hi';refine⟨es[i].2.2.2.1,?_⟩;have h2:(allM r cr m now es)[i+1]?=some (momM (runE r cr m (es.take (i+1))) es[i].2.2.2.1):=by
      unfold allM;rw[List.getElem?_cons_succ];exact this
    rw[List.getElem?_eq_getElem hi] at h2;exact Option.some.inj h2
theorem qlK {r:Rules} {cr:CRule}:∀(es:List Ev) (m:MS),okE r cr m es→∀i,i<es.length→(runE r cr m (es.take i)).res=0
  | [],m,_,i,hi=>absurd hi (Nat.not_lt_zero _)
  | e::es,m,ho,0,hi=>((do_jR r cr m e).1 ho.2.1).2
  | e::es,m,ho,i+1,hi=>qlK es _ ho.2.2 i (by simpa using hi)
theorem qwT (r:Rules) (cr:CRule) (now:Int):∀(k:Nat) (m:MS),(annM r cr now k m).res=m.res
  | 0,m=>rfl
  | k+1,m=>by
    unfold annM;split
    · split
      · exact qwT r cr now k _
      · rfl
    · rfl
theorem kind_res (r:Rules) (cr:CRule) (m:MS) (e:Ev) (h:m.res=0):(kindM r cr m e).1.res≠0→(kindM r cr m e).1.g=m.g:=by
  unfold kindM;split
  · unfold qnW
    repeat' split
    all_goals first | exact fun _=>rfl | skip
    intro q;exact absurd ((qwT r cr e.2.2.2.1 (m.pm.length+1) (moveM r cr m e.2.2.2.2.1 e.2.2.2.1)).trans h) q
  · split
    · unfold qmn;simp only
      repeat' split
      all_goals exact fun _=>rfl
    · split
      · unfold qi6;simp only
        repeat' split
        all_goals first | exact fun _=>rfl | skip
        exact fun q=>absurd h q
      · split
        · unfold qmO
          repeat' split
          all_goals exact fun _=>rfl
        · split
          · unfold qgW
            repeat' split
            all_goals exact fun _=>rfl
          · exact fun _=>rfl
def resOK (r:Rules) (m:MS):Prop:=qE r m.g.1≠0→m.res=qE r m.g.1
theorem qrr {r:Rules} {m:MS} (h:m.res≠0→qE r m.g.1=0):resOK r (overM r m):=by
  unfold resOK overM;split
  · intro _;rfl
  · rename_i q;intro c;by_cases w:m.res=0
    · exact absurd ⟨w,c⟩ q
    · exact absurd (h w) c
theorem do_done {r:Rules} {cr:CRule} {m:MS} {e:Ev}:(doM r cr m e).2=0→(doM r cr m e).1=doneM r (kindM r cr m e).1 e:=by
  unfold doM
  repeat' split
  all_goals first | (rename_i c;exact fun h=>absurd h c) | exact fun _=>rfl | exact fun h=>(by simp at h)
theorem do_resOK {r:Rules} {cr:CRule} {m:MS} {e:Ev} (hm:MOK r cr m) (h:(doM r cr m e).2=0):resOK r (doM r cr m e).1:=by
  have h0:=((do_jR r cr m e).1 h).2;have ho:=hm.opn h0;have hk:=kind_res r cr m e h0;have key:resOK r (doneM r (kindM r cr m e).1 e):=by
    unfold doneM;refine qrr ?_;intro q;show qE r (kindM r cr m e).1.g.1=0;rw[hk q];exact ho
  rw[do_done h];exact key
theorem quq {r:Rules} {cr:CRule}:∀(es:List Ev) (m:MS),MOK r cr m→okE r cr m es→resOK r m→resOK r (runE r cr m es)
  | [],m,_,_,h=>h
  | e::es,m,hm,ho,_=>quq es _ (qn9 hm ho.1).2 ho.2.2 (do_resOK hm ho.2.1)
theorem new_resOK (r:Rules) (cr:CRule) (now:Int):resOK r (newM r cr now):=qrr (fun q=>absurd rfl q)

abbrev tyCRule:Ty := .st (.sl (.st (.int .i64) (.st (.int .i64) .nil))) (.st (.int .i64) (.st (.int .i64) .nil))
abbrev tyEvent:Ty := .st (.int .i64) (.st (.int .i64) (.st (.int .i64) (.st (.int .i64) (.st (.st (.int .i64) (.st (.int .i64) (.st (.int .i64) .nil))) .nil))))
theorem evR_of {e:Ev} (h:Rng tyEvent e):EvR e:=⟨h.1,h.2.1,h.2.2.1,h.2.2.2.1,h.2.2.2.2.1.1,h.2.2.2.2.1.2.1,h.2.2.2.2.1.2.2.1⟩
theorem take20 {A:Type} (l:List A):(l.take (if (20:Int)<((l.length:Nat):Int) then(20:Int) else((l.length:Nat):Int)).toNat).drop 0=l.take 20:=by
  rw[List.drop_zero];split
  · rfl
  · rw[Int.toNat_natCast,List.take_length,List.take_of_length_le (by omega)]
theorem same_T (a:List Mv) (ha:a.length≤1000000000):qbV a a=some true:=by
  unfold qbV;rw[bne_self_eq_false,cond_false]
  have h1:=qR a (fun _=>false) (qaW a a) (.inr false) (.inl ((),())) (fun i hi=>by
    unfold qaW;simp only[show decide ((i:Int)<((a.length:Nat):Int))=true by simp;omega,cond_true];rw[qfI a i hi,Option.bind_some,Option.bind_some,qe (n:=(i:Int)+1) (by omega) (by omega)]
    simp) (by
    unfold qaW
    simp)
  rw[h1,List.any_eq_false.2 (fun _ _=>by simp),cond_false];rfl
theorem qxP (s:StT) (h1:s.1.length≤1000000) (h2:s.2.2.2.2.2.1.length≤1000000):qaE s s=some true:=by
  unfold qaE;rw[bne_self_eq_false,cond_false]
  have hL:=qR s.2.2.2.2.2.1 (fun _=>false) (qaK s s) (.inr false) (.inl ((),())) (fun i hi=>by
    unfold qaK;simp only[show decide ((i:Int)<((s.2.2.2.2.2.1.length:Nat):Int))=true by simp;omega,cond_true];rw[qfI s.2.2.2.2.2.1 i hi,Option.bind_some,Option.bind_some,qe (n:=(i:Int)+1) (by omega) (by omega)]
    simp) (by
    unfold qaK
    simp)
  rw[hL,List.any_eq_false.2 (fun _ _=>by simp),cond_false,Option.bind_some];simp only[Sum.elim_inl];rw[same_T _ (by omega),Option.bind_some];simp
theorem qvy {cr:CRule} {M:MS} (l:List Ev) (hev:∀e∈l,EvR e) (hM:MOK gamehalltopH10Tic cr M):∀(k i:Nat) (es:List Ev),i+k=(l.take 20).length→okE gamehalltopH10Tic cr M es→es.length≤i →
    ∃es',okE gamehalltopH10Tic cr M es'∧es'.length≤(l.take 20).length∧iterW (qH l) (((i:Int),()),(flatT (tupM gamehalltopH10Tic cr (runE gamehalltopH10Tic cr M es)),()))=some ((),(flatT (tupM gamehalltopH10Tic cr (runE gamehalltopH10Tic cr M es')),()))
  | 0,i,es,hi,ho,hl=>by
    refine⟨es,ho,by omega,ql ?_⟩;unfold qH;simp only[take20];rw[show decide ((i:Int)<(((l.take 20).length:Nat):Int))=false by simp only[decide_eq_false_iff_not];omega,cond_false]
  | k+1,i,es,hi,ho,hl=>by
    have h20:(l.take 20).length≤20:=by rw[List.length_take];omega
    have hil:i<(l.take 20).length:=by omega
    have he:EvR (l.take 20)[i]:=hev _ (List.mem_of_mem_take (List.getElem_mem hil));have hm:=qtg es _ hM ho;obtain⟨d1,d2⟩:=qn9 hm he;have hs:qH l (((i:Int),()),(flatT (tupM gamehalltopH10Tic cr (runE gamehalltopH10Tic cr M es)),()))=some (.inl ((((i+1:Nat):Int),()),(flatT (tupM gamehalltopH10Tic cr (doM gamehalltopH10Tic cr (runE gamehalltopH10Tic cr M es) (l.take 20)[i]).1),()))):=by
      unfold qH;simp only[take20];rw[show decide ((i:Int)<(((l.take 20).length:Nat):Int))=true by simp only[decide_eq_true_eq];omega,cond_true,qfI _ i hil,Option.bind_some];refine(congrArg (fun z=>Option.bind z _) d1).trans ?_;rw[Option.bind_some,qe (by omega) (by omega)];rfl
    rw[qm hs];by_cases c:(doM gamehalltopH10Tic cr (runE gamehalltopH10Tic cr M es) (l.take 20)[i]).2=0
    · have:=qvy l hev hM k (i+1) (es++[(l.take 20)[i]]) (by omega) (qxa es M ho he c) (by simp;omega);rw[quR] at this;exact this
    · rw[(do_jR _ _ _ _).2 c];exact qvy l hev hM k (i+1) es (by omega) ho (by omega)
theorem qmI {r:Rules} {cr:CRule} {l:Jn} {ms:List Mom} (h:qaQ r cr l=some (ms,(0,()))) (i:Nat) (hi:i<ms.length) (hl:ms.length≤1000) (m:Mv):qam r cr l (3,((i:Int),(0,(0,(m,())))))=some (ms[i].1.2.1 !=0,(0,())):=by
  have hf:fitC (3,((i:Int),(0,(0,(m,()))))) ((ms.length:Nat):Int)=true:=by
    unfold fitC;rw[show decide ((i:Int)<(0:Int))=false by rw[decide_eq_false_iff_not];omega,show decide ((i:Int)≥((ms.length:Nat):Int))=false by rw[decide_eq_false_iff_not];omega];rfl
  unfold qam;rw[h,Option.bind_some];simp only[bne_self_eq_false,cond_false];rw[check_C,if_pos hf];simp only[bne_self_eq_false,cond_false];rw[qvt i hi hl,Option.bind_some]
theorem tr_end {cr:CRule} {J:Jn} {A:List StT} (n:Nat) (hA:A.length=n+1) (hj:J.length=n+1) (hn:n≤20)
    (hd:∀i (hi:i<A.length),qam gamehalltopH10Tic cr J (3,((i:Int),(0,(0,((0,(0,(0,()))),())))))=some (A[i].2.1 !=0,(0,())))
    (ho:∀i (hi:i<n),(A[i]'(by omega)).2.1=0):iterW (qG (A,(0,())) cr J) ((0,()),())=some (.inl ((),())):=by
  have hL:=qR A (fun _=>false) (qG (A,(0,())) cr J) (.inr false) (.inl ((),())) (fun i hi=>by
    unfold qG;rw[show decide ((i:Int)<((A.length:Nat):Int))=true by rw[decide_eq_true_eq];omega,cond_true,show inb (i:Int) A.length=true from inb_iff.2 ⟨by omega,by omega⟩,qb];refine(congrArg (fun z=>Option.bind z _) (hd i hi)).trans ?_;rw[Option.bind_some]
    have e1:∀d,(getD' A ((i:Int).toNat) d)=A[i]:=fun d=>by rw[Int.toNat_natCast];unfold getD';rw[List.getD_eq_getElem?_getD,List.getElem?_eq_getElem hi];rfl
    simp only[e1,bne_self_eq_false,Bool.false_or,beq_self_eq_true,Bool.not_true];rw[qe (n:=(J.length:Int)-1) (by omega) (by omega),qe (n:=(i:Int)+1) (by omega) (by omega),cond_false];by_cases c:i<n
    · rw[ho i c,bne_self_eq_false,Bool.false_and,cond_false];rfl
    · rw[show decide ((i:Int)<(J.length:Int)-1)=false by rw[decide_eq_false_iff_not];omega,Bool.and_false,cond_false]
      rfl) (by
    unfold qG
    rw[show decide (((A.length:Nat):Int)<((A.length:Nat):Int))=false by rw[decide_eq_false_iff_not];omega,cond_false])
  rw[hL,List.any_eq_false.2 (fun _ _=>by simp),cond_false]
theorem all_open {r:Rules} {cr:CRule} {now:Int} (es:List Ev) (m:MS) (ho:okE r cr m es):∀i (hi:i<es.length),((allM r cr m now es)[i]'(by rw[qti];omega)).1.2.1=0:=fun i hi=>by
  obtain⟨tt,h⟩:=all_get (r:=r) (cr:=cr) (m:=m) (now:=now) (es:=es) i (by rw[qti];omega);rw[h];exact qlK es m ho i hi
theorem endB {b:Bool} {X:Option Bool} (h:b=false) (hX:X=some true):(bif b then some false else X)=some true:=by rw[h,cond_false,hX]
theorem getM {A:List Mom} {i:Nat} (hi:i<(A.map Prod.fst).length) (hi':i<A.length):(A.map Prod.fst)[i]=A[i].1:=List.getElem_map ..
theorem tr_tail {cr:CRule} {W:MS} {A:List Mom} {tl:Int} (n:Nat) (hA:A.length=n+1) (ht:A[n]'(by omega)=momM W tl) (hj:W.j.length=n+1) (hn:n≤20)
    (hd:∀i (hi:i<A.length),qam gamehalltopH10Tic cr W.j (3,((i:Int),(0,(0,((0,(0,(0,()))),())))))=some (A[i].1.2.1 !=0,(0,())))
    (ho:∀i (hi:i<n),(A[i]'(by omega)).1.2.1=0)
    (hres:qE gamehalltopH10Tic W.g.1≠0→W.res=qE gamehalltopH10Tic W.g.1) (hmost:W.g.2.length≤400) (hfew:W.pm.length≤8) :
    (bif ((((((0:Int)!=0||(0:Int)!=0)||(0:Int)!=0)||((((A.map Prod.fst).length:Nat):Int)!=((W.j.length:Nat):Int))) || !(((momM W tl).1.2.1 !=0)==(W.res !=0)))||(qE gamehalltopH10Tic W.g.1 !=0&&qE gamehalltopH10Tic W.g.1 !=W.res)) then some false else
      (iterW (qG (A.map Prod.fst,(0,())) cr W.j) ((0,()),())).bind (Sum.elim (fun _ =>
        req (inb (w64 ((((A.map Prod.fst).length:Nat):Int)-1)) (A.map Prod.fst).length)
          ((qaE (getD' (A.map Prod.fst) (w64 ((((A.map Prod.fst).length:Nat):Int)-1)).toNat ([],(0,(0,(dClk,(dOff,([],()))))))) (W.g.2,(W.res,(W.rea,(W.c,(W.o,(W.pm,()))))))).bind fun r=>some r)) some))=some true:=by
  have hBl:(A.map Prod.fst).length=n+1:=by rw[List.length_map];exact hA
  have hdA:∀i (hi:i<(A.map Prod.fst).length),qam gamehalltopH10Tic cr W.j (3,((i:Int),(0,(0,((0,(0,(0,()))),())))))=some (((A.map Prod.fst)[i]:StT).2.1 !=0,(0,())):=fun i hi=>by
    rw[getM hi (by omega)];exact hd i (by omega)
  have hoA:∀i (hi:i<n),(((A.map Prod.fst)[i]'(by omega)):StT).2.1=0:=fun i hi=>by
    rw[getM (by omega) (by omega)];exact ho i hi
  have hend:=tr_end (cr:=cr) (J:=W.j) (A:=A.map Prod.fst) n hBl hj hn hdA hoA;have hlst:∀d,getD' (A.map Prod.fst) (((n:Nat):Int).toNat) d=(momM W tl).1:=fun d=>by
    rw[Int.toNat_natCast];unfold getD';rw[List.getD_eq_getElem?_getD,List.getElem?_map,List.getElem?_eq_getElem (show n<A.length by omega),ht];rfl
  refine endB ?_ ?_
  · rw[hBl,hj];rw[show(momM W tl).1.2.1=W.res from rfl];simp only[bne_self_eq_false,Bool.false_or,beq_self_eq_true,Bool.not_true];by_cases c:qE gamehalltopH10Tic W.g.1=0
    · rw[c,bne_self_eq_false,Bool.false_and]
    · rw[hres c,bne_self_eq_false,Bool.and_false]
  · refine(congrArg (fun z=>Option.bind z _) hend).trans ?_;rw[Option.bind_some,Sum.elim_inl]
    have hw:w64 ((((A.map Prod.fst).length:Nat):Int)-1)=((n:Nat):Int):=by rw[hBl,qe (by omega) (by omega)];omega
    have hin:inb (((n:Nat):Int)) (A.map Prod.fst).length=true:=inb_iff.2 ⟨by omega,by omega⟩;have hal:=qxP (momM W tl).1 (show W.g.2.length≤1000000 by omega) (show W.pm.length≤1000000 by omega);rw[hw,hin,qb,hlst];refine(congrArg (fun z=>Option.bind z _) hal).trans ?_;rfl
theorem gamehalltopTopReferee_true (cr:CRule) (l:List Ev) (hcr:Rng tyCRule cr) (hl:Rng (.sl tyEvent) l):qch cr l=some true:=by
  have hlen:l.length≤9223372036854775807:=hl.1;have hev:∀e∈l,EvR e:=fun e he=>evR_of (hl.2 e he);have hcl:cr.1.length≤9223372036854775807:=hcr.1.1;have z64:I64 0:=⟨by decide,by decide⟩;have hz:(0:Int)≤0∧(0:Int)≤100000000:=⟨by decide,by decide⟩
  have hb:qi 0 (if (20:Int)<((l.length:Nat):Int) then(20:Int) else((l.length:Nat):Int)) l.length=true:=by simp only[qi,Bool.and_eq_true,decide_eq_true_eq];split<;>omega
  unfold qch;simp only[qY,agree_self];rw[qxr,Option.bind_some];simp only[Bool.not_true,cond_false];refine(congrArg (fun z=>Option.bind z _) (qhc gamehalltopH10Tic qcp)).trans ?_;rw[if_pos qba,Option.bind_some];simp only[bne_self_eq_false,cond_false];refine(congrArg (fun z=>Option.bind (Option.bind z _) _) (qfb qjS)).trans ?_;rw[Option.bind_some,Option.bind_some];simp only[bne_self_eq_false,cond_false];rw[qjG cr 0 hcl];by_cases c1:chkC cr=0
  rotate_left
  · rw[if_neg c1,Option.bind_some];simp only[bne_t c1,cond_true]
  rw[if_pos c1,if_pos hz,Option.bind_some];simp only[bne_self_eq_false,cond_false];have hm:=qsK (cr:=cr) (now:=0) qcp hcl qba c1 hz;refine(congrArg (fun z=>Option.bind z _) (qfb qjS)).trans ?_;rw[Option.bind_some];refine(congrArg (fun z=>Option.bind z _) (qn7 c1)).trans ?_;rw[Option.bind_some];refine(congrArg (fun z=>Option.bind z _) (qjM z64)).trans ?_;rw[Option.bind_some];rw[show qJ (ByteArray.mk #[115,116,97,114,116,32]) (numS 0)=true from(qgP z64).2,qb];refine(congrArg (fun z=>Option.bind z _) (qeh z64).1).trans ?_;rw[Option.bind_some];refine(congrArg (fun z=>Option.bind z _) (qo6 (r:=gamehalltopH10Tic) (cr:=cr) (now:=0) qba)).trans ?_;rw[Option.bind_some,hb,qb]
  obtain⟨es,ho,hes,hloop⟩:=qvy l hev hm (l.take 20).length 0 [] (Nat.zero_add _) trivial (Nat.le_refl _)
  have h20:(l.take 20).length≤20:=by rw[List.length_take];omega
  have hrep:=qvx qcp hcl qba c1 hz ho (by omega);have hm':=qtg es _ hm ho;have hres:=quq es _ hm ho (new_resOK gamehalltopH10Tic cr 0);have hopen:=qlK es _ ho;obtain⟨t,j1,j2⟩:=run_j es _ ho;have hjl:(runE gamehalltopH10Tic cr (newM gamehalltopH10Tic cr 0) es).j.length=es.length+1:=by
    have:=congrArg List.length j2;simp only[List.length_map] at this;rw[j1,new_j];simp[this]
  have hal:=qti (r:=gamehalltopH10Tic) (cr:=cr) (m:=newM gamehalltopH10Tic cr 0) (now:=0) (es:=es);have hrep':qaQ gamehalltopH10Tic cr (runE gamehalltopH10Tic cr (newM gamehalltopH10Tic cr 0) es).j=some (allM gamehalltopH10Tic cr (newM gamehalltopH10Tic cr 0) 0 es,(0,())):=hrep;have hget:=fun i hi=>all_get (r:=gamehalltopH10Tic) (cr:=cr) (m:=newM gamehalltopH10Tic cr 0) (now:=0) (es:=es) i hi;have hlast:es.take es.length=es:=List.take_length;obtain⟨g1,g2⟩:=qqe hm';have hrun:qad gamehalltopH10Tic (runE gamehalltopH10Tic cr (newM gamehalltopH10Tic cr 0) es).g.2=some (lastP (runE gamehalltopH10Tic cr (newM gamehalltopH10Tic cr 0) es).g.1,(qE gamehalltopH10Tic (runE gamehalltopH10Tic cr (newM gamehalltopH10Tic cr 0) es).g.1,(0,()))):=by
    rw[qwi _ _ qcp (by have:=hm'.g.ok.most;omega)];unfold quI;rw[if_pos qba,hm'.g.reach]
  obtain⟨tl,htl⟩:=hget es.length (by omega);rw[hlast] at htl;have hover:=qmI hrep' es.length (by omega) (by omega) (0,(0,(0,())));rw[htl] at hover;have htr:=trace_of hrep' (by omega);have hcl2:=cloneJ _ (show(runE gamehalltopH10Tic cr (newM gamehalltopH10Tic cr 0) es).j.length≤1000000 by have:=hm'.j.1;omega)
  have hidx:w64 ((((runE gamehalltopH10Tic cr (newM gamehalltopH10Tic cr 0) es).j.length:Nat):Int)-1)=((es.length:Nat):Int):=by rw[hjl,qe (by omega) (by omega)];omega
  rw[←hidx] at hover;change iterW (qH l) (((0:Int),()),(flatT (tupM gamehalltopH10Tic cr (newM gamehalltopH10Tic cr 0)),()))=_ at hloop;have hA0:∀i (hi:i<es.length),((allM gamehalltopH10Tic cr (newM gamehalltopH10Tic cr 0) 0 es).map (·.1)).getD i ([],(0,(0,(dClk,(dOff,([],()))))))=((allM gamehalltopH10Tic cr (newM gamehalltopH10Tic cr 0) 0 es)[i]'(by omega)).1:=fun i hi=>by
    simp[List.getD_eq_getElem?_getD,show i<(allM gamehalltopH10Tic cr (newM gamehalltopH10Tic cr 0) 0 es).length by omega]
  obtain⟨W,hW⟩:∃W,W=runE gamehalltopH10Tic cr (newM gamehalltopH10Tic cr 0) es:=⟨_,rfl⟩;rw[←hW] at hloop hcl2 g1 g2 hrun hover htr hidx hjl hres hm';obtain⟨M0,hN⟩:∃M0,M0=newM gamehalltopH10Tic cr 0:=⟨_,rfl⟩;rw[←hN] at hloop;rw[←hN];refine(congrArg (fun z=>Option.bind z _) hloop).trans ?_;rw[Option.bind_some];refine(congrArg (fun z=>Option.bind z _) hcl2).trans ?_;rw[Option.bind_some];refine(congrArg (fun z=>Option.bind z _) g1).trans ?_;rw[Option.bind_some];refine(congrArg (fun z=>Option.bind z _) g2).trans ?_;rw[Option.bind_some];refine(congrArg (fun z=>Option.bind (Option.bind z _) _) hrun).trans ?_;rw[Option.bind_some,Option.bind_some];refine(congrArg (fun z=>Option.bind z _) hover).trans ?_;rw[Option.bind_some];refine(congrArg (fun z=>Option.bind z _) htr).trans ?_;rw[Option.bind_some]
  have hdec:=fun i hi=>qmI hrep' i hi (by omega) (0,(0,(0,())));rw[←hW] at hdec;have hope:=all_open (now:=0) es _ ho;rw[←hW] at htl;exact tr_tail es.length hal htl hjl (by omega) hdec hope hres hm'.g.ok.most hm'.few
end Go.Proofs.YtijkabgijfdpfaaGreatDoor
