/- Several texts in one: CoreT, GameQ, GameT, MatchA, MatchB, JoinT, MatchD, PremM, MatchE, ClaimA, ClaimM, MatchF, MatchG, MatchH, RefA, RefB, RefC, RefD, AbleM. -/
import Derived.Test.YtijkabgijfdpfaaGreatDoorMAF
import Derived.Test.YtijkabgijfdpfaaGreatDoorMAE
import Derived.Test.YtijkabgijfdpfaaGreatDoorMAD
import Derived.Lib.IndexLaws
import Derived.Lib.IndexBytes
import Derived.Lib.CountLaws
import Derived.Lib.ItoaLen
import Derived.Lib.AtoiAll
import Derived.Lib.ItoaMem
import Derived.Laws.RangeString
namespace Go.Proofs.YtijkabgijfdpfaaGreatDoor
open Go.Den
set_option linter.unusedVariables false
set_option linter.unusedSimpArgs false
set_option maxRecDepth 100000

theorem all_spec (r:Rules) (p:Place) (hr:Rng qaB r) (hn:p.1.length≤9223372036854775807):qpj r p=some (if qae r p=0 then qgL r p else [],qae r p,()):=by
  unfold qpj;rw[qjG r p hr hn,Option.bind_some];by_cases c:qae r p=0
  · rw[bne_f c,cond_false,if_pos c,qiS (qmF c),c];rfl
  · rw[bne_t c,cond_true,if_neg c]
theorem qsj (r:Rules) (p:Place) (m:Mv) (hr:Rng qaB r) (hn:p.1.length≤9223372036854775807):qd3 r p m=some (if qae r p=0 then qA r p m else false,qae r p,()):=by
  unfold qd3;rw[all_spec r p hr hn,Option.bind_some];by_cases c:qae r p=0
  · have hv:=qmF c;simp only[if_pos c];rw[qfe _ _ (by have:=qhs hv;omega),Option.bind_some];have:decide (m∈qgL r p)=qA r p m:=by
      rw[Bool.eq_iff_iff,decide_eq_true_eq,qfr]
    rw[this]
  · simp only[if_neg c];rw[qfe _ _ (by simp)];simp
def emptyP:Place:=([],([],[],()),0,0,())
theorem qx7 (r:Rules) (p:Place) (m:Mv) (hr:Rng qaB r) (hn:p.1.length≤9223372036854775807):qcZ r p m=some (if qae r p=0 then if qA r p m=true then(qn5 r p m,0,()) else(emptyP,13,()) else(emptyP,qae r p,())):=by
  unfold qcZ;rw[qsj r p m hr hn,Option.bind_some];by_cases c:qae r p=0
  · have hv:=qmF c;simp only[if_pos c];rw[c,show((0:Int)!=0)=false from rfl,cond_false]
    cases ha:qA r p m with
    | false=>rfl
    | true =>
      rw[Bool.not_true,cond_false,quO hv ha,Option.bind_some];rfl
  · simp only[if_neg c];rw[bne_t c,cond_true];rfl

theorem qwf (r:Rules) (p:Place) (hr:Rng qaB r) (hn:p.1.length≤9223372036854775807):qxb r p=some (if qae r p=0 then qaD r p else 0,qae r p,()):=by
  unfold qxb;rw[qjG r p hr hn,Option.bind_some];by_cases c:qae r p=0
  · rw[bne_f c,cond_false,if_pos c,qlD (qmF c),c];rfl
  · rw[bne_t c,cond_true,if_neg c]
def repRes (r:Rules) (l:List Mv):Int×Int×Unit:=if qam r=0 then(match qva r l with
    | .inl s=>(((qa8 s.1:Nat):Int),(0,()))
    | .inr e=>(0,(e,()))) else(0,(qam r,()))
theorem qfy:Rng qaB qa:=qnR _ _ (by decide +kernel)
theorem qeV:qam qa=0:=by decide +kernel
theorem qwS (L:List Place) (h0:0<L.length) (h1:L.length≤1000000) (hv:∀r':Unit,True) (i:Nat) (c:Int):qf8 L ((c,(i:Int),()),())=cntF L c (i:Int):=by
  have e:qf8 L ((c,(i:Int),()),())=bif (decide ((i:Int)<((L.length:Nat):Int))) then(Option.bind (at? L (i:Int)) fun a=>Option.bind (at? L (w64 (((L.length:Nat):Int)-1))) fun b=>Option.bind (qdH a b) fun x=>Option.bind (bif x then some ((w64 (c+1),()),()) else some ((c,()),())) fun y:(Int×Unit)×Unit=>some (Sum.inl ((y.1.1,w64 ((i:Int)+1),()),()))) else some (Sum.inr ((c,()),())):=rfl;rw[e];unfold cntF;have hw:=qml h0 (by omega);by_cases hi:i<L.length
  · rw[ltd L i hi,cond_true,cond_true,hw,inbN L i hi,inbN L _ (by omega),qb,qb];rw[at?_eq L _ (by omega) (by omega),at?_eq L ((L.length-1:Nat):Int) (by omega) (by omega),Option.bind_some,Option.bind_some];simp only[Int.toNat_natCast];rw[gd_eq L i hi,gd_eq L _ (by omega)]
    cases qdH L[i] (L[L.length-1]'(by omega))<;>rfl
  · rw[decide_eq_false (by omega),cond_false,cond_false]
theorem qpy {r:Rules} {L:List Place} (hv:∀p∈L,Valid r p) (h0:0<L.length) (h1:L.length≤1000000):qiE L=some ((qa8 L:Nat):Int):=by
  have hw:=qml h0 (by omega);unfold qiE
  have:=qjX L (fun p=>same0 p (lastP L)) (qf8 L) (fun c=>((c,()),())) (fun i hi c hc0 hc1=>by
    rw[qwS L h0 h1 (fun _=>trivial)];unfold cntF;rw[ltd L i hi,cond_true,inbN L i hi,qb,hw,inbN L _ (by omega),qb,Int.toNat_natCast,Int.toNat_natCast,gd_eq L i hi,qvl (hv _ (List.getElem_mem hi)),Option.bind_some,Option.bind_some];show Option.bind (bif same0 L[i] (lastP L) then _ else _) _=_;rw[qg (n:=c+1) (by omega) (by omega),qg (n:=(i:Int)+1) (by omega) (by omega)];cases same0 L[i] (lastP L)<;>rfl) (fun c=>by
    rw[qwS L h0 h1 (fun _=>trivial)];unfold cntF
    rw[nltd,cond_false])
  rw[this];rfl
theorem qu4 {r:Rules} {L:List Place} (c:qam r=0) (hr:Rng qaB r) (hv:∀p∈L,Valid r p) (h0:0<L.length) (h1:L.length≤1000000):qP r L=some (qE r L):=by
  have hw:=qml h0 (by omega);have hl:=hv _ (qw1 h0);have h64:=qbD hl;have hrep:=(qa7 c).repeats;unfold qP;rw[hw,at?_eq L _ (by omega) (by omega),Option.bind_some];simp only[Int.toNat_natCast]
  have hla:L[L.length-1]'(by omega)=lastP L:=by unfold lastP;rw[gd_eq L (L.length-1) (by omega)]
  rw[hla,qwf r _ hr (by omega),qlM c hl,Option.bind_some,qpy hv h0 h1];unfold qE;simp only[if_true,beq_self_eq_true,Bool.true_and];have hq:decide (r.2.2.2.2.2.2.2.2.2.2.1>0)=(r.repeats !=0):=by
    rw[Bool.eq_iff_iff];simp only[decide_eq_true_eq,bne_iff_ne];show r.repeats>0↔r.repeats≠0;omega
  rw[hq];show Option.bind (gopt ((qaD r (lastP L)==0)&&(r.repeats !=0)) 0 (some ((qa8 L:Nat):Int))) (fun x=>bif ((qaD r (lastP L)==0)&&(r.repeats !=0))&&decide (x≥r.repeats) then some 3 else some (qaD r (lastP L)))=_
  cases ((qaD r (lastP L)==0)&&(r.repeats !=0)) with
  | false=>rfl
  | true =>
    simp only[gopt,cond_true,Option.bind_some,Bool.true_and]
    cases decide (((qa8 L:Nat):Int)≥r.repeats)<;>rfl
def qp8 (r:Rules) (l:List Mv):List Place×Int×Unit:=if qam r=0 then(match qva r l with
    | .inl s=>(s.1,(0,()))
    | .inr e=>([],(e,()))) else([],(qam r,()))
theorem qt0 (l:List Mv) (r:Rules) (ps:List Place) (i:Int):qdC l r ((ps,i,()),())=bif (decide (i<((l.length:Nat):Int))) then(Option.bind (at? l i) fun m=>Option.bind (qP r ps) fun x=>bif (x !=0) then some (Sum.inr (Sum.inr (([]:List Place),(14,()))))
    else req (inb (w64 (((ps.length:Nat):Int)-1)) ps.length) (Option.bind (qcZ r (getD' ps (w64 (((ps.length:Nat):Int)-1)).toNat dP) m) fun z=>bif (z.2.1 !=0) then some (Sum.inr (Sum.inr (([]:List Place),(13,())))) else bif (decide (((ps.length:Nat):Int)>400)) then some (Sum.inr (Sum.inr (([]:List Place),(9,()))))
      else req (room (ps.length+1) 88) (some (Sum.inl ((ps++[z.1],w64 (i+1),()),())))))
    else some (Sum.inr (Sum.inl ((ps,()),()))):=by
  unfold qdC;simp only[agree_self]
  first
  | rfl
  | cases decide (i<((l.length:Nat):Int)) with
    | false=>rfl
    | true =>
      simp only[cond_true];congr 1;funext m;congr 1;funext x
      cases (x !=0) with
      | true=>rfl
      | false =>
        simp only[cond_false]
        cases inb (w64 (((ps.length:Nat):Int)-1)) ps.length with
        | false=>rfl
        | true =>
          simp only[qb];show Option.bind (Option.bind (qcZ r (getD' ps (w64 (((ps.length:Nat):Int)-1)).toNat dP) m) _) _=_
          cases qcZ r (getD' ps (w64 (((ps.length:Nat):Int)-1)).toNat dP) m<;>rfl
theorem qp4 {r:Rules} (hr:Rng qaB r) (l:List Mv) (hlen:l.length≤1000000000):∀(k:Nat) (i:Nat) (s:List Place×List Mv),i+k=l.length→OKG r s→iterW (qdC l r) ((s.1,(i:Int),()),())=some (match runG r (l.drop i) s with
      | .inl s' => .inl ((s'.1,()),())
      | .inr e => .inr (([]:List Place),(e,())))
  | 0,i,s,hi,h=>by
    have:i=l.length:=by omega
    subst this;refine qk ?_;rw[qt0,nltd,cond_false,List.drop_length];rfl
  | k+1,i,s,hi,h=>by
    have hil:i<l.length:=by omega
    have hl:=h.len;have hm:=h.most;have hv:=h.last;have h64:=qbD hv;have hw:=qml (L:=s.1) (by omega) (by omega);have hL:=qt0 l r s.1 (i:Int);rw[ltd l i hil,cond_true,at?_eq l _ (by omega) (by omega),Option.bind_some,qu4 h.ok hr h.all (by omega) (by omega),Option.bind_some,hw,inbN s.1 _ (by omega),qb] at hL;simp only[Int.toNat_natCast] at hL;have hla:getD' s.1 (s.1.length-1) dP=lastP s.1:=rfl;rw[hla,qx7 r _ _ hr (by omega),if_pos (qlM h.ok hv),Option.bind_some] at hL;rw[List.drop_eq_getElem_cons hil];unfold runG;by_cases c1:qE r s.1=0
    · rw[bne_f c1,cond_false] at hL;by_cases c2:qA r (lastP s.1) l[i]=true
      · rw[if_pos c2] at hL;simp only[bne_self_eq_false,cond_false] at hL;by_cases c3:s.2.length=400
        · have e:stepG r s l[i]=9:=by unfold stepG;rw[if_pos c1,if_pos c2,if_pos c3]
          rw[decide_eq_true (by omega),cond_true] at hL;rw[qk hL,e,if_neg (by decide)]
        · have e:stepG r s l[i]=0:=by unfold stepG;rw[if_pos c1,if_pos c2,if_neg c3]
          rw[decide_eq_false (by omega),cond_false,qJ (n:=s.1.length+1) (by omega),qb,qg (by omega) (by omega)] at hL;rw[qn hL,if_pos e];exact qp4 hr l hlen k (i+1) (nextG r s l[i]) (by omega) (qv5 h e)
      · have e:stepG r s l[i]=13:=by unfold stepG;rw[if_pos c1,if_neg c2]
        rw[if_neg c2] at hL;simp only[bne_t (show ¬(13:Int)=0 by decide),cond_true] at hL;rw[qk hL,e,if_neg (by decide)]
    · have e:stepG r s l[i]=14:=by unfold stepG;rw[if_neg c1]
      rw[bne_t c1,cond_true] at hL;rw[qk hL,e,if_neg (by decide)]
theorem qwa (r:Rules) (l:List Mv) (hr:Rng qaB r) (hl:l.length≤1000000000):qR r l=some (qp8 r l):=by
  unfold qR qp8;rw[qjE r hr,Option.bind_some];by_cases c:qam r=0
  · simp only[if_pos c];rw[show((0:Int)!=0)=false from rfl,cond_false];have hP:=qp4 hr l hl l.length 0 ([qaE r],[]) (by omega) (qpB c);rw[List.drop_zero] at hP;have hP':iterW (qdC l r) ((([((qaE r).1,(((qaE r).2.1.1,((qaE r).2.1.2.1,())),(qaE r).2.2))]),(0:Int),()),())=_:=hP;rw[hP',Option.bind_some];unfold qva
    cases runG r l ([qaE r],[])<;>rfl
  · simp only[if_neg c];rw[bne_t c,cond_true]

theorem step_0 {r:Rules} {s:List Place×List Mv} {m:Mv} (c:stepG r s m=0):qE r s.1=0∧qA r (lastP s.1) m=true:=by
  unfold stepG at c;split at c
  · rename_i h1;split at c
    · rename_i h2;exact⟨h1,h2⟩
    · cases c
  · cases c
theorem gd_app2 (l:List Place) (q:Place):getD' (l++[q]) l.length dP=q:=by simp[getD']

abbrev CRule:=List (Int×Int×Unit)×Int×Int×Unit
abbrev Clk:=(Int×Int×Unit)×(Int×Int×Unit)×(Int×Int×Unit)×Int×Int×Bool×Int×Unit
def dPer:Int×Int×Unit:=(0,(0,()))
theorem qsK {A:Type} (l:List A) (i:Nat) (d:A) (h:i<l.length):l.getD i d=l[i]:=by simp[List.getD_eq_getElem?_getD,h]
theorem qtC {A:Type} (xs:List A) (i:Nat) (h:i<xs.length):at? xs (i:Int)=some xs[i]:=by
  rw[at?_eq xs _ (Int.natCast_nonneg i) (Int.ofNat_lt.2 h)];simp only[Int.toNat_natCast]
theorem qcN (n low high:Int):qf n low high=true↔low≤n∧n≤high:=by
  unfold qf;simp only[ge_iff_le,Bool.and_eq_true,decide_eq_true_eq]
def qwP (cr:CRule) (i:Nat):Int:=if (!(qf (cr.1.getD i dPer).1 0 400) || !(qf (cr.1.getD i dPer).2.1 1 100000000))=true then 4 else if (!(((cr.1.getD i dPer).1==0)==((i:Int)==((cr.1.length:Nat):Int)-1)))=true then 3 else 0
def chkC (cr:CRule):Int:=if (!(qf ((cr.1.length:Nat):Int) 1 5))=true then 2 else if (!(qf cr.2.1 0 100000000) || !(qf cr.2.2.1 0 100000000))=true then 4 else qeK (qwP cr) cr.1.length
theorem qlp (cr:CRule) (hl:cr.1.length≤9223372036854775807):qdZ cr=some (chkC cr):=by
  unfold qdZ chkC
  cases (!(qf ((cr.1.length:Nat):Int) 1 5)) with
  | true=>rfl
  | false =>
  cases (!(qf cr.2.1 0 100000000) || !(qf cr.2.2.1 0 100000000)) with
  | true=>rfl
  | false =>
    simp only[cond_false,Bool.false_eq_true,if_false];rw[qw7 cr.1.length (qaJ cr) (qwP cr) ((),()) (some 0) (fun i hi=>?_) (by unfold qaJ;simp)]
    · split
      · rename_i h;rw[h]
      · rfl
    · unfold qaJ qwP;simp only[ltd cr.1 i hi,cond_true];rw[qtC cr.1 i hi,Option.bind_some,qsK cr.1 i dPer hi,qg (n:=(i:Int)+1) (by omega) (by omega),qg (n:=((cr.1.length:Nat):Int)-1) (by omega) (by omega)]
      cases (!(qf cr.1[i].1 0 400) || !(qf cr.1[i].2.1 1 100000000)) with
      | true=>simp
      | false =>
        simp only[cond_false,Bool.false_eq_true,if_false]
        cases (!((cr.1[i].1==0)==((i:Int)==((cr.1.length:Nat):Int)-1))) with
        | true=>simp
        | false=>simp
structure CROK (cr:CRule):Prop where
  len:1≤cr.1.length∧cr.1.length≤5
  inc:0≤cr.2.1∧cr.2.1≤100000000
  del:0≤cr.2.2.1∧cr.2.2.1≤100000000
  per:∀i (hi:i<cr.1.length),(0≤cr.1[i].1∧cr.1[i].1≤400)∧(1≤cr.1[i].2.1∧cr.1[i].2.1≤100000000)∧(cr.1[i].1=0↔i+1=cr.1.length)
theorem qhJ {cr:CRule} (h:chkC cr=0):CROK cr:=by
  unfold chkC at h;split at h
  · cases h
  · rename_i h1;split at h
    · cases h
    · rename_i h2;simp only[Bool.or_eq_true,Bool.not_eq_true',not_or,Bool.not_eq_false,qcN] at h1 h2;refine⟨by omega,h2.1,h2.2,fun i hi=>?_⟩;have h3:=qgv h i hi;unfold qwP at h3;rw[qsK cr.1 i dPer hi] at h3;split at h3
      · cases h3
      · rename_i h4;split at h3
        · cases h3
        · rename_i h5;simp only[Bool.or_eq_true,Bool.not_eq_true',not_or,Bool.not_eq_false,qcN] at h4;refine⟨h4.1,h4.2,?_⟩;simp only[Bool.not_eq_true',Bool.not_eq_false,beq_iff_eq] at h5;by_cases c:cr.1[i].1=0
          · rw[beq_t c] at h5;have:=(beq_iff_eq.1 h5.symm)
            constructor<;>intro _<;>omega
          · rw[beq_f c] at h5;have h6:=beq_eq_false_iff_ne.1 h5.symm;constructor
            · intro e;exact absurd e c
            · intro e;exact absurd (by omega) h6
structure VC (cr:CRule) (c:Clk):Prop where
  turn:0≤c.2.2.2.1∧c.2.2.2.1≤1
  fallen : -1≤c.2.2.2.2.2.2.1∧c.2.2.2.2.2.2.1≤1
  since:0≤c.2.2.2.2.1∧c.2.2.2.2.1≤100000000
  p0:0≤c.2.2.1.1∧c.2.2.1.1≤((cr.1.length:Nat):Int)-1
  p1:0≤c.2.2.1.2.1∧c.2.2.1.2.1≤((cr.1.length:Nat):Int)-1
  m0:0≤c.2.1.1∧c.2.1.1≤400
  m1:0≤c.2.1.2.1∧c.2.1.2.1≤400
  l0:0≤c.1.1∧c.1.1≤100000000000
  l1:0≤c.1.2.1∧c.1.2.1≤100000000000
def vcB (cr:CRule) (c:Clk):Bool:=((((((((qf c.2.2.2.1 0 1&&qf c.2.2.2.2.2.2.1 (-1) 1)&&qf c.2.2.2.2.1 0 100000000)&&qf c.2.2.1.1 0 (((cr.1.length:Nat):Int)-1))&&qf c.2.1.1 0 400)&&qf c.1.1 0 100000000000)&&qf c.2.2.1.2.1 0 (((cr.1.length:Nat):Int)-1))&&qf c.2.1.2.1 0 400)&&qf c.1.2.1 0 100000000000)
theorem qtE (cr:CRule) (c:Clk):vcB cr c=true↔VC cr c:=by
  unfold vcB;simp only[Bool.and_eq_true,qcN];constructor
  · rintro ⟨⟨⟨⟨⟨⟨⟨⟨h1,h2⟩,h3⟩,h4⟩,h5⟩,h6⟩,h7⟩,h8⟩,h9⟩
    exact⟨h1,h2,h3,h4,h7,h5,h8,h6,h9⟩
  · rintro ⟨h1,h2,h3,h4,h7,h5,h8,h6,h9⟩
    exact⟨⟨⟨⟨⟨⟨⟨⟨h1,h2⟩,h3⟩,h4⟩,h5⟩,h6⟩,h7⟩,h8⟩,h9⟩
theorem qhF (cr:CRule) (c:Clk) (hl:cr.1.length≤9223372036854775807):qjK cr c=some (if chkC cr=0 then if vcB cr c=true then 0 else 4 else chkC cr):=by
  unfold qjK;rw[qlp cr hl,Option.bind_some];by_cases c0:chkC cr=0
  · rw[bne_f c0,cond_false,if_pos c0];have hw:=qg (n:=((cr.1.length:Nat):Int)-1) (by omega) (by omega);have s0:∀b:Bool,qcm c cr ((b,(0:Int),()),())=some (.inl ((((b&&qf c.2.2.1.1 0 (((cr.1.length:Nat):Int)-1))&&qf c.2.1.1 0 400)&&qf c.1.1 0 100000000000,(1:Int),()),())):=fun b=>by
      unfold qcm;simp only[hw,imp,show decide ((0:Int)<2)=true from rfl,cond_true,show inb (0:Int) 2=true from rfl];simp only[Bool.cond_self,qb];rfl
    have s1:∀b:Bool,qcm c cr ((b,(1:Int),()),())=some (.inl ((((b&&qf c.2.2.1.2.1 0 (((cr.1.length:Nat):Int)-1))&&qf c.2.1.2.1 0 400)&&qf c.1.2.1 0 100000000000,(2:Int),()),())):=fun b=>by
      unfold qcm;simp only[hw,imp,show decide ((1:Int)<2)=true from rfl,cond_true,show inb (1:Int) 2=true from rfl];simp only[Bool.cond_self,qb];rfl
    have s2:∀b:Bool,qcm c cr ((b,(2:Int),()),())=some (.inr ((b,()),())):=fun b=>rfl;rw[qn (s0 _),qn (s1 _),qk (s2 _),Option.bind_some];show(bif !vcB cr c then some (4:Int) else some 0)=_
    cases vcB cr c<;>rfl
  · rw[bne_t c0,cond_true,if_neg c0]
theorem qvJ (cr:CRule) (c:Clk) (now:Int) (h1 : -1000000000≤now-c.2.2.2.2.1) (h2:now-c.2.2.2.2.1≤1000000000) (hd:0≤cr.2.2.1∧cr.2.2.1≤100000000):qB cr c now=bif c.2.2.2.2.2.1 then 0 else max 0 (now-c.2.2.2.2.1-cr.2.2.1):=by
  unfold qB;rw[qg (n:=now-c.2.2.2.2.1) (by omega) (by omega),qg (by omega) (by omega)];cases c.2.2.2.2.2.1
  · simp only[cond_false]
    split<;>omega
  · rfl
def leftT (c:Clk):Int:=if c.2.2.2.1=0 then c.1.1 else c.1.2.1
theorem qlY (cr:CRule) (c:Clk) (now:Int) (hl:cr.1.length≤9223372036854775807):∃c' e,qai cr c now=some (c',e,())∧(e=0∨c'.2.2.2.2.2.2.1=0):=by
  unfold qai;rw[qhF cr c hl,Option.bind_some];by_cases c0:chkC cr=0
  · rw[if_pos c0];by_cases cv:vcB cr c=true
    · rw[if_pos cv,show((0:Int)!=0)=false from rfl,cond_false];have hv:=(qtE cr c).1 cv
      cases (!(qf now c.2.2.2.2.1 100000000)) with
      | true=>exact⟨_,_,rfl,.inr rfl⟩
      | false =>
        rw[cond_false];have hi:inb c.2.2.2.1 2=true:=inb_iff.2 ⟨hv.turn.1,by have:=hv.turn.2;omega⟩
        rw[hi,show imp (decide (c.2.2.2.2.2.2.1<0)) true=true by unfold imp;cases decide (c.2.2.2.2.2.2.1<0)<;>rfl,qb,qb]
        cases (decide (c.2.2.2.2.2.2.1<0)&&decide (qB cr c now>getD' [c.1.1,c.1.2.1] (c.2.2.2.1).toNat 0)) with
        | true=>exact⟨_,_,rfl,.inl rfl⟩
        | false=>exact⟨_,_,rfl,.inl rfl⟩
    · rw[if_neg cv];exact⟨_,_,rfl,.inr rfl⟩
  · rw[if_neg c0,bne_t c0,cond_true];exact⟨_,_,rfl,.inr rfl⟩
structure GoodC (cr:CRule) (c:Clk) (now:Int):Prop where
  ok:chkC cr=0
  v:VC cr c
  now0:c.2.2.2.2.1≤now
  now1:now≤100000000
  up:c.2.2.2.2.2.2.1 = -1
  run:c.2.2.2.2.2.1=false
  used:max 0 (now-c.2.2.2.2.1-cr.2.2.1)≤leftT c
theorem left_eq {cr:CRule} {c:Clk} (hv:VC cr c):getD' [c.1.1,c.1.2.1] (c.2.2.2.1).toNat 0=leftT c:=by
  have h:=hv.turn;unfold leftT;by_cases h0:c.2.2.2.1=0
  · rw[if_pos h0,h0];rfl
  · rw[if_neg h0,show c.2.2.2.1=1 by omega];rfl
theorem look_good {cr:CRule} {c:Clk} {now:Int} (hl:cr.1.length≤9223372036854775807) (h:GoodC cr c now):qai cr c now=some (c,0,()):=by
  unfold qai;have hcr:=qhJ h.ok;have hs:=h.v.since;have h0:=h.now0;have h1:=h.now1;rw[qhF cr c hl,Option.bind_some,if_pos h.ok,if_pos ((qtE cr c).2 h.v),show((0:Int)!=0)=false from rfl,cond_false,(qcN now _ _).2 ⟨h0,h1⟩,Bool.not_true,cond_false];have hi:inb c.2.2.2.1 2=true:=inb_iff.2 ⟨h.v.turn.1,by have:=h.v.turn.2;omega⟩
  rw[hi,show imp (decide (c.2.2.2.2.2.2.1<0)) true=true by unfold imp;cases decide (c.2.2.2.2.2.2.1<0)<;>rfl,qb,qb,left_eq h.v,qvJ cr c now (by omega) (by omega) hcr.del,h.run,cond_false]
  have hu:=h.used;rw[show decide (max 0 (now-c.2.2.2.2.1-cr.2.2.1)>leftT c)=false by rw[decide_eq_false_iff_not];omega,Bool.and_false,cond_false,Option.bind_some]
theorem good_of {cr:CRule} {c c':Clk} {now e:Int} (hl:cr.1.length≤9223372036854775807) (h:qai cr c now=some (c',e,())) (hf:c'.2.2.2.2.2.2.1<0) (hr:c.2.2.2.2.2.1=false):GoodC cr c now:=by
  unfold qai at h;rw[qhF cr c hl,Option.bind_some] at h;by_cases c0:chkC cr=0
  · rw[if_pos c0] at h;by_cases cv:vcB cr c=true
    · rw[if_pos cv,show((0:Int)!=0)=false from rfl,cond_false] at h;have hv:=(qtE cr c).1 cv;have hs:=hv.since;have hcr:=qhJ c0
      cases hw:qf now c.2.2.2.2.1 100000000 with
      | false =>
        rw[hw,Bool.not_false,cond_true] at h;cases h;exact absurd hf (by decide)
      | true =>
        obtain⟨w0,w1⟩:=(qcN _ _ _).1 hw;rw[hw,Bool.not_true,cond_false] at h;have hi:inb c.2.2.2.1 2=true:=inb_iff.2 ⟨hv.turn.1,by have:=hv.turn.2;omega⟩
        rw[hi,show imp (decide (c.2.2.2.2.2.2.1<0)) true=true by unfold imp;cases decide (c.2.2.2.2.2.2.1<0)<;>rfl,qb,qb,left_eq hv,qvJ cr c now (by omega) (by omega) hcr.del,hr,cond_false] at h
        by_cases hc:c.2.2.2.2.2.2.1<0
        · by_cases hu:max 0 (now-c.2.2.2.2.1-cr.2.2.1)>leftT c
          · rw[decide_eq_true hc,decide_eq_true hu,Bool.and_self,cond_true,Option.bind_some] at h;cases h;have:c.2.2.2.1<0:=hf;have:=hv.turn.1;omega
          · exact⟨c0,hv,w0,w1,by have:=hv.fallen.1;omega,hr,by omega⟩
        · rw[decide_eq_false hc,Bool.false_and,cond_false,Option.bind_some] at h;cases h;exact absurd hf hc
    · rw[if_neg cv] at h;cases h;exact absurd hf (by decide)
  · rw[if_neg c0,bne_t c0,cond_true] at h;cases h;exact absurd hf (by decide)
theorem qxZ {cr:CRule} {c:Clk} {now:Int} (hl:cr.1.length≤9223372036854775807) (h:GoodC cr c now):qj0 cr c now false=some (c,0,()):=by
  unfold qj0;rw[look_good hl h,Option.bind_some];simp only[show((0:Int)!=0)=false from rfl,cond_false,h.up,show decide ((-1:Int)≥0)=false from rfl,h.run,show(!(false==false))=false from rfl]
def perAt (cr:CRule) (k:Int):Int×Int×Unit:=cr.1.getD k.toNat dPer
def qhW (cr:CRule) (c:Clk) (now:Int):Clk :=
  if c.2.2.2.1=0 then
    let L:=min 100000000000 (c.1.1-max 0 (now-c.2.2.2.2.1-cr.2.2.1)+cr.2.1)
    let M:=min 400 (c.2.1.1+1)
    if 0<(perAt cr c.2.2.1.1).1∧(perAt cr c.2.2.1.1).1≤M then((min 100000000000 (L+(perAt cr (c.2.2.1.1+1)).2.1),(c.1.2.1,())),((0,(c.2.1.2.1,())),((c.2.2.1.1+1,(c.2.2.1.2.1,())),(1,(now,(false,(-1,())))))))
    else((L,(c.1.2.1,())),((M,(c.2.1.2.1,())),((c.2.2.1.1,(c.2.2.1.2.1,())),(1,(now,(false,(-1,())))))))
  else
    let L:=min 100000000000 (c.1.2.1-max 0 (now-c.2.2.2.2.1-cr.2.2.1)+cr.2.1)
    let M:=min 400 (c.2.1.2.1+1)
    if 0<(perAt cr c.2.2.1.2.1).1∧(perAt cr c.2.2.1.2.1).1≤M then((c.1.1,(min 100000000000 (L+(perAt cr (c.2.2.1.2.1+1)).2.1),())),((c.2.1.1,(0,())),((c.2.2.1.1,(c.2.2.1.2.1+1,())),(0,(now,(false,(-1,())))))))
    else((c.1.1,(L,())),((c.2.1.1,(M,())),((c.2.2.1.1,(c.2.2.1.2.1,())),(0,(now,(false,(-1,())))))))
theorem qjb {cr:CRule} (hcr:CROK cr) {k:Int} (h0:0≤k) (h1:k≤((cr.1.length:Nat):Int)-1):at? cr.1 k=some (perAt cr k)∧(0≤(perAt cr k).1∧(perAt cr k).1≤400)∧(1≤(perAt cr k).2.1∧(perAt cr k).2.1≤100000000)∧(0<(perAt cr k).1→k+1≤((cr.1.length:Nat):Int)-1):=by
  obtain⟨n,rfl⟩:∃n:Nat,k=(n:Int):=⟨k.toNat,by omega⟩
  have hn:n<cr.1.length:=by omega
  have e:perAt cr (n:Int)=cr.1[n]:=by unfold perAt;rw[Int.toNat_natCast,qsK cr.1 n dPer hn]
  rw[qtC cr.1 n hn,e];obtain⟨p1,p2,p3⟩:=hcr.per n hn;refine⟨rfl,p1,p2,fun h=>?_⟩
  have:¬(n+1=cr.1.length):=fun q=>by rw[p3.2 q] at h;omega
  omega
theorem min_if (a b:Int):(if a<b then a else b)=min a b:=by omega
theorem left_nn {cr:CRule} {c:Clk} (hv:VC cr c):0≤leftT c:=by
  unfold leftT;have h0:=hv.l0;have h1:=hv.l1
  split<;>omega
theorem qnl {cr:CRule} {c:Clk} {now:Int} (hl:cr.1.length≤9223372036854775807) (h:GoodC cr c now):qgT cr c now=some (qhW cr c now,0,())∧GoodC cr (qhW cr c now) now∧(qhW cr c now).2.2.2.1=1-c.2.2.2.1∧(qhW cr c now).2.2.2.2.1=now:=by
  have hcr:=qhJ h.ok;have hv:=h.v;have hs:=hv.since;have n0:=h.now0;have n1:=h.now1;have hi:=hcr.inc;have hd:=hcr.del;have hu:=h.used;have hlen:=hcr.len;have f1:GoodC cr (qhW cr c now) now∧(qhW cr c now).2.2.2.1=1-c.2.2.2.1∧(qhW cr c now).2.2.2.2.1=now:=by
    have ht:=hv.turn;have a0:=hv.l0;have a1:=hv.l1;have b0:=hv.m0;have b1:=hv.m1;have c0:=hv.p0;have c1:=hv.p1;unfold leftT at hu;unfold qhW;by_cases t0:c.2.2.2.1=0
    · rw[if_pos t0] at hu ⊢;obtain⟨_,q1,q2,q3⟩:=qjb hcr hv.p0.1 hv.p0.2;by_cases hm:0<(perAt cr c.2.2.1.1).1∧(perAt cr c.2.2.1.1).1≤min 400 (c.2.1.1+1)
      · rw[if_pos hm];have hq:=q3 hm.1;obtain⟨_,r1,r2,r3⟩:=qjb hcr (k:=c.2.2.1.1+1) (by omega) (by omega);refine⟨⟨h.ok,⟨?_,?_,?_,?_,?_,?_,?_,?_,?_⟩,?_,n1,rfl,rfl,?_⟩,?_,rfl⟩
        all_goals try (unfold leftT)
        all_goals simp only
        all_goals omega
      · rw[if_neg hm];refine⟨⟨h.ok,⟨?_,?_,?_,?_,?_,?_,?_,?_,?_⟩,?_,n1,rfl,rfl,?_⟩,?_,rfl⟩
        all_goals try (unfold leftT)
        all_goals simp only
        all_goals omega
    · rw[if_neg t0] at hu ⊢;obtain⟨_,q1,q2,q3⟩:=qjb hcr hv.p1.1 hv.p1.2;by_cases hm:0<(perAt cr c.2.2.1.2.1).1∧(perAt cr c.2.2.1.2.1).1≤min 400 (c.2.1.2.1+1)
      · rw[if_pos hm];have hq:=q3 hm.1;obtain⟨_,r1,r2,r3⟩:=qjb hcr (k:=c.2.2.1.2.1+1) (by omega) (by omega);refine⟨⟨h.ok,⟨?_,?_,?_,?_,?_,?_,?_,?_,?_⟩,?_,n1,rfl,rfl,?_⟩,?_,rfl⟩
        all_goals try (unfold leftT)
        all_goals simp only
        all_goals omega
      · rw[if_neg hm];refine⟨⟨h.ok,⟨?_,?_,?_,?_,?_,?_,?_,?_,?_⟩,?_,n1,rfl,rfl,?_⟩,?_,rfl⟩
        all_goals try (unfold leftT)
        all_goals simp only
        all_goals omega
  refine⟨?_,f1⟩;unfold qgT;rw[qxZ hl h,Option.bind_some];simp only[show((0:Int)!=0)=false from rfl,cond_false,qvJ cr c now (by omega) (by omega) hd,h.run];obtain⟨⟨l0,l1,u1⟩,⟨m0,m1,u2⟩,⟨p0,p1,u3⟩,turn,since,stopped,fallen,u4⟩:=c;have ht:=hv.turn;have a0:=hv.l0;have a1:=hv.l1;have b0:=hv.m0;have b1:=hv.m1;have c0:=hv.p0;have c1:=hv.p1;have hup:=h.up;have hrun:=h.run;unfold leftT at hu;simp only at ht a0 a1 b0 b1 c0 c1 hup hrun hs n0 hu;by_cases t0:turn=0
  · subst t0;rw[if_pos rfl] at hu;obtain⟨q0,q1,q2,q3⟩:=qjb hcr c0.1 c0.2
    have e1:w64 (w64 (l0-max 0 (now-since-cr.2.2.1))+cr.2.1)=l0-max 0 (now-since-cr.2.2.1)+cr.2.1:=by rw[qg (n:=l0-max 0 (now-since-cr.2.2.1)) (by omega) (by omega),qg (by omega) (by omega)]
    have e2:w64 (m0+1)=m0+1:=qg (by omega) (by omega);have e3:w64 (p0+1)=p0+1:=qg (by omega) (by omega);have g0:∀a b:Int,getD' [a,b] (0:Int).toNat 0=a:=fun a b=>rfl;have i0:inb (0:Int) 2=true:=rfl;have b00:((0:Int)==0)=true:=rfl;have b01:((0:Int)==1)=false:=rfl
    have him:∀b:Bool,imp b true=true:=fun b=>by cases b<;>rfl
    simp only[g0,i0,b00,b01,cond_true,cond_false,qb,q0,Option.bind_some,e1,e2,e3,min_if,him];unfold qhW;simp only[if_true];by_cases hm:0<(perAt cr p0).1∧(perAt cr p0).1≤min 400 (m0+1)
    · have hq:=q3 hm.1;obtain⟨r0,r1,r2,r3⟩:=qjb hcr (k:=p0+1) (by omega) (by omega)
      have hb:(decide ((perAt cr p0).1>0)&&decide (min 400 (m0+1)≥(perAt cr p0).1))=true:=by simp only[Bool.and_eq_true,decide_eq_true_eq];omega
      have e4:w64 (min 100000000000 (l0-max 0 (now-since-cr.2.2.1)+cr.2.1)+(perAt cr (p0+1)).2.1)=min 100000000000 (l0-max 0 (now-since-cr.2.2.1)+cr.2.1)+(perAt cr (p0+1)).2.1:=qg (by omega) (by omega);rw[if_pos hm];simp only[hb,cond_true,r0,Option.bind_some,e4];subst hup hrun;rfl
    · have hb:(decide ((perAt cr p0).1>0)&&decide (min 400 (m0+1)≥(perAt cr p0).1))=false:=by
        rw[Bool.eq_false_iff];intro q;simp only[Bool.and_eq_true,decide_eq_true_eq] at q;omega
      rw[if_neg hm];simp only[hb,cond_false,Option.bind_some];subst hup hrun;rfl
  · obtain rfl:turn=1:=by omega
    rw[if_neg t0] at hu;obtain⟨q0,q1,q2,q3⟩:=qjb hcr c1.1 c1.2
    have e1:w64 (w64 (l1-max 0 (now-since-cr.2.2.1))+cr.2.1)=l1-max 0 (now-since-cr.2.2.1)+cr.2.1:=by rw[qg (n:=l1-max 0 (now-since-cr.2.2.1)) (by omega) (by omega),qg (by omega) (by omega)]
    have e2:w64 (m1+1)=m1+1:=qg (by omega) (by omega);have e3:w64 (p1+1)=p1+1:=qg (by omega) (by omega);have g0:∀a b:Int,getD' [a,b] (1:Int).toNat 0=b:=fun a b=>rfl;have i0:inb (1:Int) 2=true:=rfl;have b00:((1:Int)==0)=false:=rfl;have b01:((1:Int)==1)=true:=rfl
    have him:∀b:Bool,imp b true=true:=fun b=>by cases b<;>rfl
    simp only[g0,i0,b00,b01,cond_true,cond_false,qb,q0,Option.bind_some,e1,e2,e3,min_if,him];unfold qhW;simp only[show((1:Int)=0)=False from by simp,if_false];by_cases hm:0<(perAt cr p1).1∧(perAt cr p1).1≤min 400 (m1+1)
    · have hq:=q3 hm.1;obtain⟨r0,r1,r2,r3⟩:=qjb hcr (k:=p1+1) (by omega) (by omega)
      have hb:(decide ((perAt cr p1).1>0)&&decide (min 400 (m1+1)≥(perAt cr p1).1))=true:=by simp only[Bool.and_eq_true,decide_eq_true_eq];omega
      have e4:w64 (min 100000000000 (l1-max 0 (now-since-cr.2.2.1)+cr.2.1)+(perAt cr (p1+1)).2.1)=min 100000000000 (l1-max 0 (now-since-cr.2.2.1)+cr.2.1)+(perAt cr (p1+1)).2.1:=qg (by omega) (by omega);rw[if_pos hm];simp only[hb,cond_true,r0,Option.bind_some,e4];subst hup hrun;rfl
    · have hb:(decide ((perAt cr p1).1>0)&&decide (min 400 (m1+1)≥(perAt cr p1).1))=false:=by
        rw[Bool.eq_false_iff];intro q;simp only[Bool.and_eq_true,decide_eq_true_eq] at q;omega
      rw[if_neg hm];simp only[hb,cond_false,Option.bind_some];subst hup hrun;rfl

abbrev Offs:=(Int×Int×Unit)×((Int×Int×Unit)×(Int×Int×Unit)×Unit)×Unit
def offL (p:Int×Int×Unit):Bool:=(decide (p.1 < -1)||decide (p.1>400))||(decide (p.2.1 < -1)||decide (p.2.1>400))
theorem ocheckL2 (p:Int×Int×Unit):iterW (qcn ((p,(0:Int),()),())) (((0:Int),()),())=some (bif offL p then .inr (.inr (.inr (.inr 4))) else .inl ((),())):=by
  have s0:qcn ((p,(0:Int),()),()) (((0:Int),()),())=bif (decide (p.1 < -1)||decide (p.1>400)) then some (.inr (.inr (.inr (.inr (.inr 4))))) else some (.inl (((1:Int),()),())):=rfl;have s1:qcn ((p,(0:Int),()),()) (((1:Int),()),())=bif (decide (p.2.1 < -1)||decide (p.2.1>400)) then some (.inr (.inr (.inr (.inr (.inr 4))))) else some (.inl (((2:Int),()),())):=rfl;have s2:qcn ((p,(0:Int),()),()) (((2:Int),()),())=some (.inr (.inl ((),()))):=rfl;unfold offL;cases h0:(decide (p.1 < -1)||decide (p.1>400))
  · rw[h0,cond_false] at s0;rw[qn s0];cases h1:(decide (p.2.1 < -1)||decide (p.2.1>400))
    · rw[h1,cond_false] at s1;rw[qn s1,qk s2];rfl
    · rw[h1,cond_true] at s1;rw[qk s1];rfl
  · rw[h0,cond_true] at s0;rw[qk s0];rfl
def offK (p:Int×Int×Unit) (b:Int):Int:=if offL p=true then 4 else if (decide (b < -1)||decide (b>1))=true then 4 else if b=0∧p.1 = -1∨b=1∧p.2.1 = -1 then 3 else 0
def offE (o:Offs):Int:=if offK o.2.1.1 o.1.1=0 then offK o.2.1.2.1 o.1.2.1 else offK o.2.1.1 o.1.1
theorem him (b:Bool):imp b true=true:=by cases b<;>rfl
theorem qvu (o:Offs):qjM o=some (offE o):=by
  have step:∀(i:Int) (p:Int×Int×Unit) (b:Int),(i=0∧p=o.2.1.1∧b=o.1.1∨i=1∧p=o.2.1.2.1∧b=o.1.2.1)→qe9 o ((i,()),())=some (if offK p b=0 then .inl ((i+1,()),()) else .inr (.inr (offK p b))):=by
    intro i p b h
    have e:qe9 o ((i,()),())=(Option.bind (α:=((Unit)×(Unit)) ⊕ (((Int×Unit)×(Unit)) ⊕ (((Unit)×(Unit)) ⊕ Int))) (Option.bind (α:=((Unit)×(Unit)) ⊕ (((Unit)×(Unit)) ⊕ (((Int×Unit)×(Unit)) ⊕ (((Unit)×(Unit)) ⊕ Int)))) (iterW (qcn ((p,(0:Int),()),())) (((0:Int),()),())) (Sum.elim (fun x4 =>
        bif ((decide (b<(-1:Int)))||(decide (b>(1:Int)))) then some (Sum.inr (Sum.inr (Sum.inr (4:Int))))
        else Option.bind (req (imp (decide (b≥(0:Int))) true) (req (imp (decide (b≥(0:Int))) (inb b 2)) (some ((((decide (b≥(0:Int)))&&((getD' [p.1,p.2.1] (b.toNat) 0)==(-1:Int))),()),())))) fun x5:(Bool×Unit)×Unit =>
        bif x5.1.1 then some (Sum.inr (Sum.inr (Sum.inr (3:Int))))
        else some (Sum.inl ((),()))) some)) (Sum.elim (fun x6=>some (Sum.inl ((w64 (i+(1:Int)),()),()))) some)):=by
      rcases h with ⟨rfl,rfl,rfl⟩ | ⟨rfl,rfl,rfl⟩
      · rfl
      · rfl
    have hi:w64 (i+1)=i+1:=by rcases h with ⟨rfl,_⟩ | ⟨rfl,_⟩<;>rfl
    rw[e,ocheckL2,hi];unfold offK;cases hL:offL p
    · simp only[cond_false,Bool.false_eq_true,if_false,Option.bind_some,Sum.elim_inl];cases hb:(decide (b < -1)||decide (b>1))
      · simp only[cond_false,Bool.false_eq_true,if_false];simp only[Bool.or_eq_false_iff,decide_eq_false_iff_not] at hb;by_cases b0:b = -1
        · subst b0;rfl
        · by_cases b1:b=0
          · subst b1;have hg:getD' [p.1,p.2.1] ((0:Int).toNat) 0=p.1:=rfl;rw[hg];simp only[show decide ((0:Int)≥0)=true from rfl,show inb (0:Int) 2=true from rfl,him,qb,Option.bind_some,Bool.true_and];by_cases q:p.1 = -1
            · rw[beq_t q];simp[q]
            · rw[beq_f q];simp[q]
          · obtain rfl:b=1:=by omega
            have hg:getD' [p.1,p.2.1] ((1:Int).toNat) 0=p.2.1:=rfl;rw[hg];simp only[show decide ((1:Int)≥0)=true from rfl,show inb (1:Int) 2=true from rfl,him,qb,Option.bind_some,Bool.true_and];by_cases q:p.2.1 = -1
            · rw[beq_t q];simp[q]
            · rw[beq_f q];simp[q]
      · rfl
    · rfl
  unfold qjM offE;have s0:=step 0 o.2.1.1 o.1.1 (.inl ⟨rfl,rfl,rfl⟩);have s1:=step 1 o.2.1.2.1 o.1.2.1 (.inr ⟨rfl,rfl,rfl⟩);have s2:qe9 o (((2:Int),()),())=some (.inr (.inl ((),()))):=rfl;by_cases c0:offK o.2.1.1 o.1.1=0
  · rw[if_pos c0] at s0 ⊢;rw[qn s0];by_cases c1:offK o.2.1.2.1 o.1.2.1=0
    · rw[if_pos c1] at s1;rw[show(0:Int)+1=1 from rfl,qn s1,show(1:Int)+1=2 from rfl,qk s2,c1];rfl
    · rw[if_neg c1] at s1;rw[show(0:Int)+1=1 from rfl,qk s1];rfl
  · rw[if_neg c0] at s0 ⊢;rw[qk s0];rfl
def offEi (o:Offs) (kind player moves:Int):Int:=if offE o=0 then if (((((kind !=0)&&(kind !=1))||((player !=0)&&(player !=1)))||decide (moves<0))||decide (moves>400))=true then 1 else 0 else offE o
theorem qgC (o:Offs) (kind player moves:Int):qb9 o kind player moves=some (offEi o kind player moves):=by
  unfold qb9 offEi;rw[qvu,Option.bind_some];by_cases c:offE o=0
  · rw[bne_f c,cond_false,if_pos c]
    cases (((((kind !=0)&&(kind !=1))||((player !=0)&&(player !=1)))||decide (moves<0))||decide (moves>400))<;>rfl
  · rw[bne_t c,cond_true,if_neg c]
theorem offEi_0 {o:Offs} {kind player moves:Int} (h:offEi o kind player moves=0):(kind=0∨kind=1)∧(player=0∨player=1)∧0≤moves∧moves≤400:=by
  unfold offEi at h;by_cases c:offE o=0
  · rw[if_pos c] at h;split at h
    · cases h
    · rename_i q;simp only[Bool.or_eq_true,Bool.and_eq_true,bne_iff_ne,ne_eq,decide_eq_true_eq] at q;omega
  · rw[if_neg c] at h;exact absurd h c
theorem qx6 (o:Offs) (player:Int):∃o' e,qft o player=some (o',e,()):=by
  unfold qft;rw[qgC,Option.bind_some];by_cases c:offEi o 0 player 0=0
  · rw[bne_f c,cond_false]
    cases (o.1.1==w64 (1-player))<;>exact⟨_,_,rfl⟩
  · rw[bne_t c,cond_true];exact⟨_,_,rfl⟩
theorem in2 {k:Int} (h:k=0∨k=1):inb k 2=true:=by rcases h with rfl | rfl<;>rfl
theorem qrV (o:Offs) (kind player moves:Int):∃e,qi2 o kind player moves=some e∧(e=0→(kind=0∨kind=1)∧(player=0∨player=1)∧0≤moves∧moves≤400):=by
  unfold qi2;rw[qgC,Option.bind_some];by_cases c:offEi o kind player moves=0
  · have h:=offEi_0 c;rw[bne_f c,cond_false,in2 h.1,qb];cases (getD' [o.1.1,o.1.2.1] kind.toNat 0 !=w64 (1-player))
    · exact⟨0,rfl,fun _=>h⟩
    · exact⟨10,rfl,fun q=>(by cases q)⟩
  · rw[bne_t c,cond_true];exact⟨_,rfl,fun q=>absurd q c⟩
theorem quL (o:Offs) (kind player moves:Int):∃o' e,qcL o kind player moves=some (o',e,())∧(e=0→(kind=0∨kind=1)∧(player=0∨player=1)∧0≤moves∧moves≤400):=by
  unfold qcL;obtain⟨e,he,h⟩:=qrV o kind player moves;rw[he,Option.bind_some];by_cases c:e=0
  · rw[bne_f c,cond_false];exact⟨_,_,rfl,fun _=>h c⟩
  · rw[bne_t c,cond_true];exact⟨_,_,rfl,fun q=>absurd q c⟩
theorem qtH (o:Offs) (kind player moves:Int):∃o' e,qaM o kind player moves=some (o',e,()):=by
  unfold qaM;obtain⟨e,he,h⟩:=qrV o kind player moves;rw[he,Option.bind_some];by_cases c:e=0
  · rw[bne_f c,cond_false,in2 (h c).1,qb];exact⟨_,_,rfl⟩
  · rw[bne_t c,cond_true];exact⟨_,_,rfl⟩
def qcU (player moves:Int):Int:=if (if (if 0>moves then 0 else moves).tmod 2=player then(2:Int) else 1)>moves∨player≠0∧player≠1 then 0 else if (if 0>moves then 0 else moves).tmod 2=player then 2 else 1
theorem qn7 (player moves:Int):qcW player moves=some (qcU player moves):=by
  unfold qcW qcU qi8;by_cases c:(if (0:Int)>moves then 0 else moves).tmod 2=player
  · rw[beq_t c,cond_true,Option.bind_some,if_pos c];by_cases d:(2:Int)>moves∨player≠0∧player≠1
    · rw[if_pos d,show(decide ((2:Int)>moves)||((player !=0)&&(player !=1)))=true by simpa using d,cond_true]
    · rw[if_neg d,show(decide ((2:Int)>moves)||((player !=0)&&(player !=1)))=false by
        rw[Bool.eq_false_iff];intro q;exact d (by simpa using q),cond_false]
  · rw[beq_f c,cond_false,Option.bind_some,if_neg c];by_cases d:(1:Int)>moves∨player≠0∧player≠1
    · rw[if_pos d,show(decide ((1:Int)>moves)||((player !=0)&&(player !=1)))=true by simpa using d,cond_true]
    · rw[if_neg d,show(decide ((1:Int)>moves)||((player !=0)&&(player !=1)))=false by
        rw[Bool.eq_false_iff];intro q;exact d (by simpa using q),cond_false]
theorem qx5 (o:Offs) (kind player moves:Int):∃o' e,qcw o kind player moves=some (o',e,()):=by
  unfold qcw;rw[qgC,Option.bind_some];by_cases c:offEi o kind player moves=0
  · obtain⟨hk,hp,_,_⟩:=offEi_0 c;have i1:=in2 hk;have i2:=in2 hp;rw[bne_f c,cond_false,i1,qb];cases decide (getD' [o.1.1,o.1.2.1] kind.toNat 0≥0)
    · rw[cond_false,i2];simp only[qb];have:∃b:Bool,(bif (kind==0) then some ((((getD' [o.2.1.1.1,o.2.1.1.2.1] player.toNat 0)==moves,()),()):(Bool×Unit)×Unit) else some ((((getD' [o.2.1.2.1.1,o.2.1.2.1.2.1] player.toNat 0)==moves,()),()):(Bool×Unit)×Unit))=some ((b,()),()):=by
        cases (kind==0)<;>exact⟨_,rfl⟩
      obtain⟨b,hb⟩:=this;rw[hb,Option.bind_some];cases b
      · rw[cond_false];have:∃n,gopt (kind==1) 0 (qcW player moves)=some n:=by
          rw[qn7]
          cases (kind==1)<;>exact⟨_,rfl⟩
        obtain⟨n,hn⟩:=this;rw[hn,Option.bind_some];cases ((kind==1)&&(n==0))
        · rw[cond_false]
          cases (kind==0)<;>exact⟨_,_,rfl⟩
        · exact⟨_,_,rfl⟩
      · exact⟨_,_,rfl⟩
    · exact⟨_,_,rfl⟩
  · rw[bne_t c,cond_true];exact⟨_,_,rfl⟩
theorem qx0 (o:Offs) (moves:Int):∃o' e,qeF o moves=some (o',e,()):=by
  unfold qeF;rw[qgC,Option.bind_some];by_cases c:offEi o 0 0 moves=0
  · rw[bne_f c,cond_false];have l2:∀(i:Int),(i=0∨i=1)→∀(y:Int×Int×Int×Int×Int×Int×Unit) (x4:((Int×Int×Unit)×Int×Unit)×Unit),∃z,iterW (qeH ((i,()),(y,())) moves x4) (((0:Int),()),(y,()))=some ((),(z,())):=by
      intro i hi y x4;have s:∀(j:Int),(j=0∨j=1)→∀y2,∃y3,qeH ((i,()),(y,())) moves x4 ((j,()),(y2,()))=some (.inl ((j+1,()),(y3,()))):=by
        intro j hj y2
        rcases hi with rfl | rfl<;>rcases hj with rfl | rfl<;>exact⟨_,rfl⟩
      obtain⟨y1,h1⟩:=s 0 (.inl rfl) y;obtain⟨y2,h2⟩:=s 1 (.inr rfl) y1;refine⟨y2,?_⟩;rw[qn h1,show(0:Int)+1=1 from rfl,qn h2,show(1:Int)+1=2 from rfl];exact qk rfl
    have l1:∀(i:Int),(i=0∨i=1)→∀y,∃z,qiM moves ((i,()),(y,()))=some (.inl ((i+1,()),(z,()))):=by
      intro i hi y;rcases hi with rfl | rfl
      · obtain⟨z,hz⟩:=l2 0 (.inl rfl) y ((((y.2.2.1,(y.2.2.2.1,())),(0:Int),())),());refine⟨z,?_⟩;show(Option.bind (Option.bind (iterW (qeH (((0:Int),()),(y,())) moves ((((y.2.2.1,(y.2.2.2.1,())),(0:Int),())),())) (((0:Int),()),(y,()))) fun x7=>some ((),(x7.2.1,()))) fun x8=>some (Sum.inl (((w64 ((0:Int)+1)),()),(x8.2.1,()))))=_;rw[hz];rfl
      · obtain⟨z,hz⟩:=l2 1 (.inr rfl) y (((y.2.2.2.2,(0:Int),())),());refine⟨z,?_⟩;show(Option.bind (Option.bind (iterW (qeH (((1:Int),()),(y,())) moves (((y.2.2.2.2,(0:Int),())),())) (((0:Int),()),(y,()))) fun x7=>some ((),(x7.2.1,()))) fun x8=>some (Sum.inl (((w64 ((1:Int)+1)),()),(x8.2.1,()))))=_;rw[hz];rfl
    obtain⟨y1,h1⟩:=l1 0 (.inl rfl) ((-1:Int),((-1:Int),(o.2.1.1.1,(o.2.1.1.2.1,o.2.1.2.1))));obtain⟨y2,h2⟩:=l1 1 (.inr rfl) y1;have h3:qiM moves (((2:Int),()),(y2,()))=some (.inr ((),(y2,()))):=rfl;rw[qn h1,show(0:Int)+1=1 from rfl,qn h2,show(1:Int)+1=2 from rfl,qk h3,Option.bind_some];exact⟨_,_,rfl⟩
  · rw[bne_t c,cond_true];exact⟨_,_,rfl⟩

theorem qr5 {a b:ByteArray} (h:a.data.toList=b.data.toList):a=b:=by
  obtain⟨⟨l⟩⟩:=a;obtain⟨⟨k⟩⟩:=b;simp only at h;rw[h]
theorem qkO (a b:ByteArray):(a++b).data.toList=a.data.toList++b.data.toList:=by simp[ByteArray.data_append]
theorem qhC (a:ByteArray):a.size=a.data.toList.length:=by
  rw[Array.length_toList];rfl
theorem qxq (s:ByteArray) (a b:Nat):(s.extract a b).data.toList=(s.data.toList.take b).drop a:=by
  rw[ByteArray.data_extract,Array.toList_extract];rw[List.extract_eq_take_drop,List.drop_take]
def oneT (c:UInt8):ByteArray:=ByteArray.mk #[c]
def joinB (c:UInt8) (l:List ByteArray):ByteArray:=⟨(Go.Lib.join (l.map (·.data.toList)) [c]).toArray⟩
theorem qu6 (c:UInt8):joinB c []=ByteArray.mk #[]:=rfl
theorem qpQ (c:UInt8) (x:ByteArray):joinB c [x]=x:=qr5 (by
  show Go.Lib.join [x.data.toList] [c]=_
  exact Go.Lib.join_one _ _)
theorem qnZ (c:UInt8) (x y:ByteArray) (l:List ByteArray):joinB c (x::y::l)=(x++oneT c)++joinB c (y::l):=qr5 (by
  rw[qkO,qkO];show Go.Lib.join (x.data.toList::y.data.toList::l.map (·.data.toList)) [c]=(x.data.toList++[c])++Go.Lib.join (y.data.toList::l.map (·.data.toList)) [c]
  simp[Go.Lib.join,List.intercalate,List.intersperse])
theorem qsg (c:UInt8) (m:Nat):∀l:List ByteArray,(∀x∈l,x.size≤m)→(joinB c l).size≤l.length*(m+1)
  | [],_=>by rw[qu6];exact Nat.zero_le _
  | [x],h=>by rw[qpQ];have:=h x (by simp);simp;omega
  | x::y::l,h=>by
    have ih:=qsg c m (y::l) (fun z hz=>h z (List.mem_cons_of_mem _ hz));have:=h x (by simp);rw[qnZ,qhC,qkO,qkO,List.length_append,List.length_append,←qhC,←qhC];have:(oneT c).size=1:=rfl;rw[this,←qhC];simp only[List.length_cons,Nat.add_mul] at ih ⊢;omega
theorem qxN (c:UInt8) (l:List ByteArray) (h1:l.length≤140737488355328) (h2:(joinB c l).size≤140737488355328):joinS l (ByteArray.mk #[c])=some (joinB c l):=by
  unfold joinS
  have e:(Go.Lib.join (l.map (·.data.toList)) (ByteArray.mk #[c]).data.toList).length=(joinB c l).size:=by rw[qhC];rfl
  rw[e,Nat.ble_eq_true_of_le h1,Nat.ble_eq_true_of_le h2];rfl
theorem ib_none (c:UInt8):∀l:List UInt8,c∉l→Go.Lib.indexByte l c = -1
  | [],_=>rfl
  | b::l,h=>by
    have hb:(b==c)=false:=by rw[beq_eq_false_iff_ne];exact fun e=>h (by simp[e])
    unfold Go.Lib.indexByte;rw[hb,ib_none c l (fun e=>h (List.mem_cons_of_mem _ e))];rfl
theorem qxf (c:UInt8) (r:List UInt8):∀l:List UInt8,c∉l→Go.Lib.indexByte (l++c::r) c=l.length
  | [],_=>by simp[Go.Lib.indexByte]
  | b::l,h=>by
    have hb:(b==c)=false:=by rw[beq_eq_false_iff_ne];exact fun e=>h (by simp[e])
    rw[List.cons_append];unfold Go.Lib.indexByte;rw[hb,qxf c r l (fun e=>h (List.mem_cons_of_mem _ e))]
    have:((l.length:Int) == -1)=false:=by rw[beq_eq_false_iff_ne];omega
    rw[this,if_neg (by decide),if_neg (by decide),List.length_cons];omega
theorem qr8 (s:ByteArray) (c:UInt8):Go.Lib.indexB s (oneT c)=Go.Lib.indexByte s.data.toList c:=Go.Lib.index_one s.data.toList c
theorem qrU (c:UInt8):∀l:List ByteArray,l≠[]→(∀x∈l,c∉x.data.toList)→Go.Lib.countB (joinB c l) (oneT c)=l.length-1∧Go.Lib.splitB (oneT c) 0 (l.length-1) (joinB c l)=l
  | [],h,_=>absurd rfl h
  | [x],_,h=>by
    rw[qpQ];exact⟨Go.Lib.countB_miss _ _ (by rw[qr8];exact ib_none c _ (h x (by simp))),rfl⟩
  | x::y::l,_,h=>by
    have ih:=qrU c (y::l) (by simp) (fun z hz=>h z (List.mem_cons_of_mem _ hz));have hs:(joinB c (x::y::l)).data.toList=x.data.toList++c::(joinB c (y::l)).data.toList:=by
      rw[qnZ,qkO,qkO];simp[oneT]
    have hi:Go.Lib.indexB (joinB c (x::y::l)) (oneT c)=(x.data.toList.length:Nat):=by
      rw[qr8,hs];exact qxf c _ _ (h x (by simp))
    have hrest:(joinB c (x::y::l)).extract (x.data.toList.length+(oneT c).size) (joinB c (x::y::l)).size=joinB c (y::l):=qr5 (by
      rw[qxq,List.take_of_length_le (by rw[qhC];exact Nat.le_refl _),hs];show List.drop (x.data.toList.length+1) _=_;rw[←List.drop_drop,List.drop_left]
      rfl)
    have hfst:(joinB c (x::y::l)).extract 0 (x.data.toList.length+0)=x:=qr5 (by
      rw[qxq,hs,Nat.add_zero,List.drop_zero,List.take_left])
    constructor
    · rw[Go.Lib.countB_hit _ (oneT c) _ (show 1≤(oneT c).size from Nat.le_refl 1) hi,hrest,ih.1];simp only[List.length_cons];omega
    · have hl:(x::y::l).length-1=((y::l).length-1)+1:=by simp only[List.length_cons];omega
      rw[hl,Go.Lib.splitB_hit _ _ _ _ _ hi,hrest,hfst,ih.2]
theorem qvy (c:UInt8) (l:List ByteArray) (h0:l≠[]) (h1:(joinB c l).size≤4294967280) (h:∀x∈l,c∉x.data.toList):qrY (joinB c l) (ByteArray.mk #[c])=some l:=by
  have:=qrU c l h0 h;unfold qrY;rw[Nat.ble_eq_true_of_le h1];show some (Go.Lib.splitB (oneT c) 0 (Go.Lib.countB (joinB c l) (oneT c)) (joinB c l))=some l;rw[this.1,this.2]

theorem qo6 {u:Nat} (h:u<10):(UInt8.ofNat (48+u)).toNat=48+u:=by
  rw[UInt8.toNat_ofNat'];omega
theorem qwi (u:Nat):∀c∈Go.Lib.decDigits u,48≤c.toNat∧c.toNat≤57:=by
  induction u using Nat.strongRecOn with
  | _ u ih =>
    intro c hc;rw[Go.Lib.decDigits] at hc;split at hc
    · rename_i h;rw[List.mem_singleton.1 hc,qo6 h];omega
    · rename_i h;rcases List.mem_append.1 hc with hc | hc
      · exact ih (u / 10) (by omega) c hc
      · rw[List.mem_singleton.1 hc,qo6 (by omega)];omega
theorem dec_ne (u:Nat):Go.Lib.decDigits u≠[]:=by
  rw[Go.Lib.decDigits]
  split<;>simp
theorem parse_dec (u:Nat) (hu:u<18446744073709551616):∀r,Go.Lib.parseUint10 0 (Go.Lib.decDigits u++r)=Go.Lib.parseUint10 u r:=by
  induction u using Nat.strongRecOn with
  | _ u ih =>
    intro r;rw[Go.Lib.decDigits];split
    · rename_i h;rw[List.singleton_append]
      conv=>lhs;unfold Go.Lib.parseUint10
      rw[qo6 h,if_pos (by omega),if_neg (by omega),if_neg (by omega)];congr 1;omega
    · rename_i h;rw[List.append_assoc,ih (u / 10) (by omega) (by omega),List.singleton_append]
      conv=>lhs;unfold Go.Lib.parseUint10
      rw[qo6 (by omega),if_pos (by omega),if_neg (by omega),if_neg (by omega)];congr 1;omega
theorem mag_dec (u:Nat) (hu:u<18446744073709551616):Go.Lib.parseMag (Go.Lib.decDigits u) = .ok u:=by
  unfold Go.Lib.parseMag;rw[if_neg (dec_ne u)];have:=parse_dec u hu [];rw[List.append_nil] at this;rw[this];rfl
def I64 (n:Int):Prop := -9223372036854775808≤n∧n≤9223372036854775807
theorem atoi_itoa {n:Int} (h:I64 n):Go.Lib.atoiAll (Go.Lib.itoa n) = .ok n:=by
  unfold Go.Lib.itoa;obtain⟨h0,h1⟩:=h;by_cases c:n<0
  · rw[if_pos c];unfold Go.Lib.atoiAll;simp only[show(45:UInt8).toNat=45 from rfl];rw[if_pos (by simp),mag_dec _ (by omega)];simp only[not_true_eq_false,false_and,if_false,true_and];rw[if_neg (by omega)];simp only[if_true];congr 1;omega
  · rw[if_neg c]
    cases hd:Go.Lib.decDigits n.toNat with
    | nil=>exact absurd hd (dec_ne _)
    | cons a r =>
      have ha:=qwi n.toNat a (by rw[hd];exact List.mem_cons_self);unfold Go.Lib.atoiAll;simp only;rw[if_neg (by omega),←hd,mag_dec _ (by omega)];simp only;rw[if_neg (by omega),if_neg (by omega),if_neg (by omega)];congr 1;omega
def numS (n:Int):ByteArray:=⟨(Go.Lib.itoa n).toArray⟩
theorem qj1 {n:Int} (h:I64 n):itoaS n=some (numS n):=by
  unfold itoaS;rw[decide_eq_true h.1,decide_eq_true h.2];rfl
theorem qsF (n:Int):(numS n).data.toList=Go.Lib.itoa n:=by unfold numS;simp
theorem qv8 (n:Int):∀c∈(numS n).data.toList,c.toNat=45∨48≤c.toNat∧c.toNat≤57:=by
  rw[qsF];intro c hc;unfold Go.Lib.itoa at hc;split at hc
  · rcases List.mem_cons.1 hc with rfl | hc
    · exact .inl rfl
    · exact .inr (qwi _ c hc)
  · exact .inr (qwi _ c hc)
theorem qs5 {n:Int} (h:I64 n):(numS n).size≤21:=by
  rw[qhC,qsF];exact Go.Lib.itoa_length_le n h.1 h.2
theorem atoi_num {n:Int} (h:I64 n):atoiS (numS n)=some (n,(false,())):=by
  unfold atoiS;rw[Nat.ble_eq_true_of_le (by have:=qs5 h;omega),qsF,atoi_itoa h];rfl
def OKT (s:ByteArray):Prop:=s.size≤200∧∀c∈s.data.toList,32≤c.toNat∧c.toNat≤126
theorem qxC {s:ByteArray} (h:OKT s):qaA s=0:=by
  unfold qaA;rw[if_neg (by have:=h.1;omega)];have:∀(f pos:Nat),Go.Lib.idxFuncFrom qjd true s f pos = -1:=by
    intro f
    induction f with
    | zero=>intro pos;rfl
    | succ f ih =>
      intro pos;unfold Go.Lib.idxFuncFrom;by_cases hp:pos<s.size
      · have hm:=h.2 s[pos] (by
          rw[List.mem_iff_getElem]
          exact⟨pos,by rw[←qhC];exact hp,rfl⟩)
        have hd:=decode_ascii s pos hp (by omega);rw[if_pos hp,hd,ih];have:qjd (s[pos]'hp).toNat=false:=by
          unfold qjd;simp only[Bool.or_eq_false_iff,decide_eq_false_iff_not];omega
        rw[this];rfl
      · rw[if_neg hp]
  unfold Go.Lib.idxFunc;rw[this];rfl
abbrev Ev:=Int×Int×Int×Int×Mv×Unit
structure EvR (e:Ev):Prop where
  kind:I64 e.1
  player:I64 e.2.1
  n:I64 e.2.2.1
  now:I64 e.2.2.2.1
  a:I64 e.2.2.2.2.1.1
  b:I64 e.2.2.2.2.1.2.1
  c:I64 e.2.2.2.2.1.2.2.1
def evL (e:Ev):List Int:=[e.1,e.2.1,e.2.2.1,e.2.2.2.1,e.2.2.2.2.1.1,e.2.2.2.2.1.2.1,e.2.2.2.2.1.2.2.1]
theorem EvR.all {e:Ev} (h:EvR e):∀n∈evL e,I64 n:=by
  intro n hn;simp only[evL,List.mem_cons,List.not_mem_nil,or_false] at hn;rcases hn with rfl | rfl | rfl | rfl | rfl | rfl | rfl
  · exact h.kind
  · exact h.player
  · exact h.n
  · exact h.now
  · exact h.a
  · exact h.b
  · exact h.c
def qb5 (e:Ev):ByteArray:=joinB 32 ((evL e).map numS)
theorem qll (e:Ev) (h:EvR e):((evL e).map numS).length=7∧∀x∈(evL e).map numS,x.size≤21:=by
  refine⟨rfl,fun x hx=>?_⟩;obtain⟨n,hn,rfl⟩:=List.mem_map.1 hx;exact qs5 (h.all n hn)
theorem qnX (e:Ev) (h:EvR e):(qb5 e).size≤154:=by
  have:=qsg 32 21 ((evL e).map numS) (qll e h).2;rw[(qll e h).1] at this;exact this
theorem qx9 (e:Ev) (h:EvR e):qjY e=some (qb5 e):=by
  unfold qjY;have step:∀(i:Nat) (hi:i<7) (l:List ByteArray),l.length≤7→qdD e ((l,(i:Int),()),())=some (.inl ((l++[numS ((evL e)[i]'hi)],((i+1:Nat):Int),()),())):=by
    intro i hi l hl;unfold qdD;have hg:getD' [e.1,e.2.1,e.2.2.1,e.2.2.2.1,e.2.2.2.2.1.1,e.2.2.2.2.1.2.1,e.2.2.2.2.1.2.2.1] ((i:Int)).toNat (0:Int)=(evL e)[i]'hi:=by
      rw[Int.toNat_natCast];show getD' (evL e) i 0=_;rw[gd_eq (evL e) i hi]
    have hn:I64 ((evL e)[i]'hi):=h.all _ (List.getElem_mem (l:=evL e) hi);simp only[show decide ((i:Int)<7)=true by simp;omega,cond_true];rw[show inb (i:Int) 7=true from inb_iff.2 ⟨by omega,by omega⟩,qb,hg,qj1 hn,Option.bind_some,qJ (by simp only[List.length_cons,List.length_nil];omega),qb,qg (by omega) (by omega)];rfl
  have all:∀(k i:Nat),i+k=7→iterW (qdD e) ((((evL e).take i).map numS,(i:Int),()),())=some (((evL e).map numS,()),()):=by
    intro k
    induction k with
    | zero =>
      intro i hi
      have:i=7:=by omega
      subst this;refine qk ?_;rw[List.take_of_length_le (by exact Nat.le_refl _)];rfl
    | succ k ih =>
      intro i hi
      have hi7:i<7:=by omega
      rw[qn (step i hi7 _ (by rw[List.length_map,List.length_take];show min i 7≤7;omega))];have:=ih (i+1) (by omega);rw[List.take_succ_eq_append_getElem (show i<(evL e).length from hi7),List.map_append] at this;exact this
  have h0:=all 7 0 (by omega);rw[List.take_zero] at h0;have h0':iterW (qdD e) ((([]:List ByteArray),(0:Int),()),())=_:=h0;rw[h0',Option.bind_some];have hsz:=qnX e h;have hj:=qxN 32 ((evL e).map numS) (by rw[(qll e h).1];omega) (by unfold qb5 at hsz;omega);have hj':joinS ((((evL e).map numS,()),()):(List ByteArray×Unit)×Unit).1.1 (ByteArray.mk #[32])=some (qb5 e):=hj;rw[hj'];rfl
theorem qwv (c d:UInt8):∀l:List ByteArray,d∈(joinB c l).data.toList→d=c∨∃x∈l,d∈x.data.toList
  | [],h=>by rw[qu6] at h;cases h
  | [x],h=>by rw[qpQ] at h;exact .inr ⟨x,by simp,h⟩
  | x::y::l,h=>by
    rw[qnZ,qkO,qkO] at h;rcases List.mem_append.1 h with h | h
    · rcases List.mem_append.1 h with h | h
      · exact .inr ⟨x,by simp,h⟩
      · exact .inl (List.mem_singleton.1 h)
    · rcases qwv c d (y::l) h with h | ⟨z,hz,h⟩
      · exact .inl h
      · exact .inr ⟨z,List.mem_cons_of_mem _ hz,h⟩
theorem entry_ok (e:Ev) (h:EvR e):OKT (qb5 e):=by
  refine⟨by have:=qnX e h;omega,fun c hc=>?_⟩;rcases qwv 32 c _ hc with rfl | ⟨x,hx,hc⟩
  · decide
  · obtain⟨n,_,rfl⟩:=List.mem_map.1 hx;have:=qv8 n c hc;omega
abbrev Jn:=List (ByteArray×Int×Unit)
noncomputable def sumJ (b:Int) (s:ByteArray):Int:=(qd2 b s).getD 0
theorem qw2 (b:Int) (s:ByteArray) (hs:s.size≤1000000):qd2 b s=some (sumJ b s):=by
  have:∃v,qd2 b s=some v:=by
    unfold qd2;have key:∀(k i:Nat) (h:Int),i+k=s.size→∃h',iterW (qcp s) ((h,(i:Int),()),())=some ((h',()),()):=by
      intro k
      induction k with
      | zero =>
        intro i h hi
        have:i=s.size:=by omega
        subst this;refine⟨h,qk ?_⟩;unfold qcp;simp
      | succ k ih =>
        intro i h hi;obtain⟨c,hc⟩:∃c,strAt s (i:Int)=some c:=by
          have hi2:i<s.size:=by omega
          refine⟨s[i],?_⟩;unfold strAt;rw[show decide ((0:Int)≤(i:Int))=true by simp,cond_true,Int.toNat_natCast];simp[hi2]
        have e:qcp s ((h,(i:Int),()),())=some (.inl ((wu64 ((ixor .u64 h (wu64 ((c.toNat:Nat):Int)))*1099511628211),((i+1:Nat):Int),()),())):=by
          unfold qcp;simp only[show decide ((i:Int)<((s.size:Nat):Int))=true by simp;omega,cond_true];rw[hc,Option.bind_some,qg (by omega) (by omega)];rfl
        rw[qn e];exact ih (i+1) _ (by omega)
    obtain⟨h',hh⟩:=key s.size 0 (ixor .u64 b 14695981039346656037) (by omega);have hh':iterW (qcp s) (((ixor .u64 b 14695981039346656037),(0:Int),()),())=_:=hh;rw[hh',Option.bind_some];exact⟨_,rfl⟩
  obtain⟨v,hv⟩:=this;unfold sumJ;rw[hv];rfl
def lastJ (l:Jn):Int:=match l.getLast? with
  | some x=>x.2.1
  | none=>0
theorem qr2 (l:Jn) (hl:l.length≤1000000):qeb l=some (lastJ l):=by
  unfold qeb lastJ;by_cases h:l=[]
  · subst h;rfl
  · have h0:0<l.length:=List.length_pos_iff.2 h;rw[beq_f (by omega),cond_false,qg (by omega) (by omega),show((l.length:Nat):Int)-1=((l.length-1:Nat):Int) by omega,qtC l _ (by omega),Option.bind_some,List.getLast?_eq_getElem?,List.getElem?_eq_getElem (by omega)]
def JOK (l:Jn):Prop:=l.length≤1000∧∀i (hi:i<l.length),OKT l[i].1∧l[i].2.1=sumJ (lastJ (l.take i)) l[i].1
theorem good_ok {l:Jn} (h:JOK l):qhn l=some ((l.length:Nat):Int):=by
  unfold qhn;have hlen:=h.1;have step:∀i (hi:i<l.length),qbN l (((i:Int),()),())=some (.inl ((((i+1:Nat):Int),()),())):=by
    intro i hi;obtain⟨h1,h2⟩:=h.2 i hi;unfold qbN;have hne:((i:Int)==1000)=false:=beq_f (by omega);simp only[ltd l i hi,cond_true];rw[qtC l i hi,Option.bind_some];have hb:qm 0 (i:Int) l.length=true:=by
      simp only[qm,Bool.and_eq_true,decide_eq_true_eq];omega
    simp only[hne,Bool.not_false,imp,cond_true,hb,qb,gopt,Int.toNat_natCast,List.drop_zero];rw[qr2 _ (by rw[List.length_take];omega),Option.bind_some];have hw:qey (lastJ (l.take i)) l[i]=some 0:=by
      unfold qey;rw[qxC h1,show((0:Int)!=0)=false from rfl,cond_false,qw2 _ _ (by have:=h1.1;omega),Option.bind_some,h2,bne_f rfl,cond_false]
    rw[hw,Option.bind_some,qg (by omega) (by omega)];rfl
  have key:∀(k i:Nat),i+k=l.length→iterW (qbN l) (((i:Int),()),())=some (.inl ((),())):=by
    intro k
    induction k with
    | zero =>
      intro i hi
      have:i=l.length:=by omega
      subst this;refine qk ?_;unfold qbN;simp
    | succ k ih =>
      intro i hi;rw[qn (step i (by omega))];exact ih (i+1) (by omega)
  have h0:=key l.length 0 (by omega);have h0':iterW (qbN l) (((0:Int),()),())=_:=h0;rw[h0',Option.bind_some,Sum.elim_inl]
theorem qme {l:Jn} (h:JOK l):qcQ l=some 0:=by
  unfold qcQ;have:=h.1;rw[show decide (((l.length:Nat):Int)>1000)=false by rw[decide_eq_false_iff_not];omega,cond_false,good_ok h,Option.bind_some,show decide (((l.length:Nat):Int)<((l.length:Nat):Int))=false by simp,cond_false]
theorem cloneJ (s:Jn) (h:s.length≤1000000):qM s=some s:=by
  unfold qM;have:room (([]:Jn).length+s.length) 24=true:=qJ (by simp;omega);rw[this]
  cases s with
  | nil=>simp[qb,agree_self]
  | cons a l=>simp[qb]
noncomputable def nextJ (l:Jn) (s:ByteArray):Jn:=l++[(s,(sumJ (lastJ l) s,()))]
theorem qrP {l:Jn} (h:JOK l) (hl:l.length<1000) {s:ByteArray} (hs:OKT s):qS l s=some (nextJ l s,(0,()))∧JOK (nextJ l s):=by
  have hlen:=h.1;constructor
  · unfold qS;rw[qme h,Option.bind_some,show((0:Int)!=0)=false from rfl,cond_false,qxC hs,show((0:Int)!=0)=false from rfl,cond_false,beq_f (by omega),cond_false,cloneJ l (by omega),Option.bind_some,qr2 l (by omega),Option.bind_some,qw2 _ _ (by have:=hs.1;omega),Option.bind_some,qJ (by simp only[List.length_cons,List.length_nil];omega),qb];rfl
  · refine⟨by unfold nextJ;rw[List.length_append,List.length_singleton];omega,fun i hi=>?_⟩;unfold nextJ at hi ⊢;rw[List.length_append,List.length_singleton] at hi;by_cases c:i<l.length
    · rw[List.getElem_append_left c,List.take_append_of_le_length (by omega)];exact h.2 i c
    · have:i=l.length:=by omega
      subst this;rw[List.getElem_append_right (by omega),List.take_left']
      · simp only[Nat.sub_self,List.getElem_cons_zero];exact⟨hs,trivial⟩
      · rfl

abbrev PM:=Int×Mv×Unit
abbrev dPM:PM:=(0,((0,(0,(0,()))),()))
theorem qdw {A:Type} (xs:List A) (i:Nat) (h:i<xs.length):at? xs (i:Int)=some xs[i]:=by
  rw[at?_eq xs _ (Int.natCast_nonneg i) (Int.ofNat_lt.2 h)];simp only[Int.toNat_natCast]
theorem quC {A C:Type} (l:List A) (G:A→List C):∀n,n≤l.length→(List.range n).flatMap (fun i=>(l[i]?).toList.flatMap G)=(l.take n).flatMap G
  | 0,_=>by simp
  | n+1,h=>by
    rw[List.range_succ,List.flatMap_append,quC l G n (by omega),List.take_succ_eq_append_getElem (by omega),List.flatMap_append];simp[List.getElem?_eq_getElem (show n<l.length by omega)]
theorem qnz {A C R:Type} (xs:List A) (B:Nat) (f:(((List C)×Int×Unit)×Unit)→Option ((((List C)×Int×Unit)×Unit) ⊕ R)) (G:A→List C) (fin:List C→R) (a0:List C) (hG:∀x∈xs,(G x).length≤B)
    (hs:∀i (hi:i<xs.length) (a:List C),a.length≤a0.length+i*B→f ((a,(i:Int),()),())=some (.inl ((a++G xs[i],((i:Int)+1),()),()))) (he:∀a,f ((a,(xs.length:Int),()),())=some (.inr (fin a))) :
    iterW f ((a0,(0:Int),()),())=some (fin (a0++xs.flatMap G)):=by
  have:=qjH xs.length B f (fun i=>(xs[i]?).toList.flatMap G) fin a0 (fun i hi=>by
    simp only[List.getElem?_eq_getElem hi,Option.toList_some,List.flatMap_cons,List.flatMap_nil,List.append_nil];exact hG _ (List.getElem_mem hi)) (fun i hi a ha=>by
    simp only[List.getElem?_eq_getElem hi,Option.toList_some,List.flatMap_cons,List.flatMap_nil,List.append_nil]
    exact hs i hi a ha) he
  rw[this,quC xs G _ (Nat.le_refl _),List.take_length]
def ofL (l:List PM) (pl:Int):List Mv:=l.flatMap fun x=>bif x.1==pl then [x.2.1] else []
def woL (l:List PM) (pl:Int):List PM:=l.filter fun x=>!(x.1==pl)
def odd1 (x:PM):Bool:=(x.1 !=0)&&(x.1 !=1)
def pmErr (l:List PM):Int:=if 4<(ofL l 0).length∨4<(ofL l 1).length then 2 else if l.any odd1=true then 4 else 0
theorem qwd (l:List PM) (pl:Int) (hl:l.length≤1000000):qhg l pl=some (ofL l pl):=by
  unfold qhg
  have:=qnz l 1 (qgE l pl) (fun x=>bif x.1==pl then [x.2.1] else []) (fun a=>((a,()),())) [] (fun x _=>by
    cases (x.1==pl)
    · exact Nat.zero_le _
    · exact Nat.le_refl _) (fun i hi a ha=>by
    simp only[List.length_nil] at ha;unfold qgE;simp only[show decide ((i:Int)<((l.length:Nat):Int))=true by simp;omega,cond_true];rw[qdw l i hi,Option.bind_some,qg (n:=(i:Int)+1) (by omega) (by omega)];cases (l[i].1==pl)
    · simp only[cond_false,Option.bind_some,List.append_nil]
    · simp only[cond_true];rw[qJ (by simp only[List.length_cons,List.length_nil];omega),qb]
      rfl) (fun a=>by unfold qgE;simp)
  rw[this,Option.bind_some];rfl
theorem qqm (l:List PM) (hl:l.length≤1000000):qeq l=some (pmErr l):=by
  unfold qeq pmErr;rw[qwd l 0 hl,Option.bind_some,qwd l 1 hl,Option.bind_some]
  have hL:=qaw l odd1 (qc9 l) (.inr 4) (.inl ((),())) (fun i hi=>by
    unfold qc9 odd1;simp only[show decide ((i:Int)<((l.length:Nat):Int))=true by simp;omega,cond_true];rw[qdw l i hi,Option.bind_some,qg (n:=(i:Int)+1) (by omega) (by omega),show decide ((i:Int)≥0)=true by simp]
    cases ((l[i].1 !=0)&&(l[i].1 !=1))<;>rfl) (by unfold qc9;simp)
  rw[hL];by_cases h:4<(ofL l 0).length∨4<(ofL l 1).length
  · rw[if_pos h];by_cases h0:4<(ofL l 0).length
    · rw[show decide ((((ofL l 0).length:Nat):Int)>4)=true by simp only[decide_eq_true_eq];omega];rfl
    · rw[show decide ((((ofL l 0).length:Nat):Int)>4)=false by simp only[decide_eq_false_iff_not];omega,show decide ((((ofL l 1).length:Nat):Int)>4)=true by simp only[decide_eq_true_eq];omega];rfl
  · rw[if_neg h,show decide ((((ofL l 0).length:Nat):Int)>4)=false by simp only[decide_eq_false_iff_not];omega,show decide ((((ofL l 1).length:Nat):Int)>4)=false by simp only[decide_eq_false_iff_not];omega];simp only[cond_false,Option.bind_some]
    cases l.any odd1<;>rfl
theorem qp1 (s:List PM) (h:s.length≤1000000):qz s=some s:=by
  unfold qz;have:room (([]:List PM).length+s.length) 32=true:=qJ (by simp;omega);rw[this]
  cases s with
  | nil=>simp[qb,agree_self]
  | cons a l=>simp[qb]
theorem concatPM (a b:List PM) (ha:a.length≤1000) (hb:b.length≤1000):qax [a,b]=some (a++b):=by
  have w1:w64 (0+((a.length:Nat):Int))=(a.length:Int):=by rw[Int.zero_add];exact qg (by omega) (by omega)
  have w2:w64 ((a.length:Int)+((b.length:Nat):Int))=((a.length+b.length:Nat):Int):=by rw[qg (by omega) (by omega)];omega
  have w3:w64 ((0:Int)+1)=1:=by decide
  have w4:w64 ((1:Int)+1)=2:=by decide
  have g0:at? [a,b] 0=some a:=rfl;have g1:at? [a,b] 1=some b:=rfl;have l1:iterW (qD [a,b]) (((0:Int),(0:Int),()),())=some (((((a.length+b.length:Nat):Int)),()),()):=by
    have s0:qD [a,b] (((0:Int),(0:Int),()),())=some (.inl ((((a.length:Nat):Int),(1:Int),()),())):=by
      unfold qD;simp only[g0,w1,w3,Option.bind_some];rw[show decide (((a.length:Nat):Int)<0)=false by simp];rfl
    have s1:qD [a,b] ((((a.length:Nat):Int),(1:Int),()),())=some (.inl ((((a.length+b.length:Nat):Int),(2:Int),()),())):=by
      unfold qD;simp only[g1,w2,w4,Option.bind_some];rw[show decide (((a.length+b.length:Nat):Int)<0)=false by simp;omega];rfl
    have s2:qD [a,b] ((((a.length+b.length:Nat):Int),(2:Int),()),())=some (.inr ((((a.length+b.length:Nat):Int),()),())):=rfl;rw[qn s0,qn s1,qk s2]
  have l2:iterW (qC [a,b]) ((([]:List PM),(0:Int),()),())=some ((a++b,()),()):=by
    have s0:qC [a,b] ((([]:List PM),(0:Int),()),())=some (.inl ((a,(1:Int),()),())):=by
      unfold qC;simp only[g0,w3,Option.bind_some];rw[qJ (by simp;omega)];rfl
    have s1:qC [a,b] ((a,(1:Int),()),())=some (.inl ((a++b,(2:Int),()),())):=by
      unfold qC;simp only[g1,w4,Option.bind_some];rw[qJ (by omega)];rfl
    have s2:qC [a,b] ((a++b,(2:Int),()),())=some (.inr ((a++b,()),())):=rfl;rw[qn s0,qn s1,qk s2]
  unfold qax;simp only[l1,Option.bind_some];rw[show decide (((a.length+b.length:Nat):Int)<0)=false by simp;omega]
  have w5:w64 (((a.length+b.length:Nat):Int)-0)=((a.length+b.length:Nat):Int):=by rw[Int.sub_zero];exact qg (by omega) (by omega)
  simp only[w5,cond_false];by_cases c:a.length+b.length=0
  · rw[c];simp only[Int.natCast_zero,show decide ((0:Int)>0)=false by decide,cond_false,Option.bind_some];rw[l2];rfl
  · have c1:decide (((a.length+b.length:Nat):Int)>0)=true:=by simp;omega
    have c2:decide (0<((a.length+b.length:Nat):Int))=true:=by simp;omega
    have c3:room ((((a.length+b.length:Nat):Int)).toNat) 32=true:=qJ (by omega)
    have c4:∀l:List PM,qm 0 0 l.length=true:=fun l=>by simp[qm]
    simp only[c1,c2,c3,c4,cond_true,Bool.and_self,qb,Option.bind_some,List.take_zero];rw[l2];rfl
def fstI (p:Nat→Bool):Nat→Nat→Nat
  | i,0=>i
  | i,k+1=>bif p i then i else fstI p (i+1) k
theorem fst_rng (p:Nat→Bool):∀(k i:Nat),i≤fstI p i k∧fstI p i k≤i+k∧(fstI p i k<i+k→p (fstI p i k)=true)∧∀j,i≤j→j<fstI p i k→p j=false
  | 0,i=>⟨Nat.le_refl _,Nat.le_refl _,fun h=>absurd h (Nat.lt_irrefl _),fun j h1 h2=>absurd h2 (Nat.not_lt.2 h1)⟩
  | k+1,i=>by
    have ih:=fst_rng p k (i+1);unfold fstI;cases h:p i
    · simp only[cond_false];refine⟨by omega,by omega,fun hl=>ih.2.2.1 (by omega),fun j h1 h2=>?_⟩;by_cases e:j=i
      · subst e;exact h
      · exact ih.2.2.2 j (by omega) h2
    · simp only[cond_true];exact⟨Nat.le_refl _,by omega,fun _=>h,fun j h1 h2=>absurd h2 (Nat.not_lt.2 h1)⟩
theorem qw6 {β:Type} (p:Nat→Bool) (g:Nat→β) (B:β):∀(k i:Nat),scan (fun i=>bif p i then some (g i) else none) B i k=if fstI p i k<i+k then g (fstI p i k) else B
  | 0,i=>by
    unfold fstI scan;rw[if_neg (show ¬i<i+0 by omega)]
  | k+1,i=>by
    conv=>lhs;unfold scan
    unfold fstI;cases h:p i
    · simp only[cond_false];rw[qw6 p g B k (i+1),show i+1+k=i+(k+1) by omega]
    · simp only[cond_true];rw[if_pos (by omega)]
def fstP (l:List PM) (pl:Int):Nat:=fstI (fun i=>(l.getD i dPM).1==pl) 0 l.length
theorem qtp (l:List PM) (i:Nat) (h:i<l.length):l.getD i dPM=l[i]:=by simp[List.getD_eq_getElem?_getD,h]
theorem wo_L2 (l:List PM) (pl:Int) (hl:l.length≤1000000):∀(k w j:Nat) (ys:List PM),j+k=l.length→w≤j→ys.length=l.length→ys.take w=(l.take j).filter (fun x=>!(x.1==pl))→ys.drop j=l.drop j →
    ∃(w':Nat) (zs:List PM),iterW (qbn pl) (((w:Int),(j:Int),()),(ys,()))=some (((w':Int),()),(zs,()))∧w'≤l.length∧zs.length=l.length∧zs.take w'=woL l pl:=by
  intro k
  induction k with
  | zero =>
    intro w j ys hj hw hy h1 h2
    have:j=l.length:=by omega
    subst this;refine⟨w,ys,qk ?_,hw,hy,by rw[h1,List.take_length];rfl⟩;unfold qbn;simp only[show decide (((l.length:Nat):Int)<((ys.length:Nat):Int))=false by simp;omega,cond_false]
  | succ k ih =>
    intro w j ys hj hw hy h1 h2
    have hjl:j<l.length:=by omega
    have hjy:j<ys.length:=by omega
    have hyj:ys[j]=l[j]:=by
      have e1:(ys.drop j)[0]?=(l.drop j)[0]?:=by rw[h2]
      rw[List.getElem?_drop,List.getElem?_drop,Nat.add_zero,List.getElem?_eq_getElem hjy,List.getElem?_eq_getElem hjl] at e1;exact Option.some.inj e1
    have hdr:∀zs:List PM,zs.drop j=l.drop j→zs.drop (j+1)=l.drop (j+1):=fun zs h=>by
      rw[←List.drop_drop,←List.drop_drop,h]
    have hg:getD' ys j dPM=l[j]:=by unfold getD';rw[qtp ys j hjy,hyj]
    have htk:(l.take (j+1)).filter (fun x=>!(x.1==pl))=(l.take j).filter (fun x=>!(x.1==pl))++(if (!(l[j].1==pl))=true then [l[j]] else []):=by
      rw[List.take_succ_eq_append_getElem hjl,List.filter_append,List.filter_cons,List.filter_nil]
    by_cases hk:(l[j].1==pl)=true
    · obtain⟨w',zs,q1,q2⟩:=ih w (j+1) ys (by omega) (by omega) hy (by rw[htk,hk,h1];simp) (hdr ys h2);refine⟨w',zs,?_,q2⟩;rw[qn (y:=(((w:Int),((j+1:Nat):Int),()),(ys,())))]
      · exact q1
      · unfold qbn;simp only[show decide ((j:Int)<((ys.length:Nat):Int))=true by simp;omega,cond_true];rw[inb_iff.2 ⟨by omega,by omega⟩,qb,Int.toNat_natCast];rw[hg,hk,Bool.not_true,cond_false,Option.bind_some,qg (n:=(j:Int)+1) (by omega) (by omega)];rfl
    · have hk:=Bool.eq_false_iff.2 hk
      have hws:w<ys.length:=by omega
      obtain⟨w',zs,q1,q2⟩:=ih (w+1) (j+1) (ys.set w l[j]) (by omega) (by omega) (by rw[List.length_set];exact hy) (by
        rw[htk,hk,←h1,List.take_succ_eq_append_getElem (by rw[List.length_set];exact hws),List.getElem_set_self,List.take_set_of_le (Nat.le_refl _)]
        simp) (by
        rw[List.drop_set_of_lt (by omega)]
        exact hdr ys h2)
      refine⟨w',zs,?_,q2⟩;rw[qn (y:=((((w+1:Nat):Int),((j+1:Nat):Int),()),(ys.set w l[j],())))]
      · exact q1
      · unfold qbn;simp only[show decide ((j:Int)<((ys.length:Nat):Int))=true by simp;omega,cond_true];rw[inb_iff.2 ⟨by omega,by omega⟩,qb,Int.toNat_natCast];rw[hg,hk,Bool.not_false,cond_true,inb_iff.2 ⟨by omega,by omega⟩,qb,Option.bind_some,qg (n:=(j:Int)+1) (by omega) (by omega),qg (n:=(w:Int)+1) (by omega) (by omega),Int.toNat_natCast];rfl
theorem qoe (l:List PM) (pl:Int) (hl:l.length≤1000000):qcz l pl=some (woL l pl):=by
  unfold qcz;rw[qp1 l hl,Option.bind_some];have key:∀k i:Nat,i+k=l.length→(∀j,j<i→((l.getD j dPM).1==pl)=false)→Option.bind (iterW (qaO l pl) (((i:Int),()),())) (Sum.elim (fun _=>some l) some)=some (woL l pl):=by
    have pre:∀i,i≤l.length→(∀j,j<i→((l.getD j dPM).1==pl)=false)→(l.take i).filter (fun x=>!(x.1==pl))=l.take i:=fun i hi h=>by
      rw[List.filter_eq_self];intro x hx;obtain⟨j,hj,rfl⟩:=List.mem_iff_getElem.1 hx;rw[List.length_take] at hj;rw[List.getElem_take,←qtp l j (by omega),h j (by omega)];rfl
    intro k
    induction k with
    | zero =>
      intro i hi h
      have:i=l.length:=by omega
      subst this;rw[qk (r := .inl ((),())) (by unfold qaO;simp)];have:=pre l.length (Nat.le_refl _) h;rw[List.take_length] at this;show some l=some (woL l pl);unfold woL;rw[this]
    | succ k ih =>
      intro i hi h
      have hil:i<l.length:=by omega
      have hg:getD' l i dPM=l.getD i dPM:=rfl;cases hp:((l.getD i dPM).1==pl)
      · rw[qn (y:=((((i+1:Nat):Int),()),()))]
        · exact ih (i+1) (by omega) fun j hj=>by
            by_cases e:j=i
            · subst e;exact hp
            · exact h j (by omega)
        · unfold qaO;simp only[show decide ((i:Int)<((l.length:Nat):Int))=true by simp;omega,cond_true];rw[inb_iff.2 ⟨by omega,by omega⟩,qb,Int.toNat_natCast,hg,hp,cond_false,qg (n:=(i:Int)+1) (by omega) (by omega)];rfl
      · obtain⟨w',zs,q1,q2,q3,q4⟩:=wo_L2 l pl hl (l.length-(i+1)) i (i+1) l (by omega) (by omega) rfl (by
          rw[List.take_succ_eq_append_getElem hil,List.filter_append,List.filter_cons,List.filter_nil,←qtp l i hil,hp,pre i (by omega) h]
          simp) rfl
        have hf:qaO l pl (((i:Int),()),())=some (.inr (.inr (woL l pl))):=by
          unfold qaO;simp only[show decide ((i:Int)<((l.length:Nat):Int))=true by simp;omega,cond_true];rw[inb_iff.2 ⟨by omega,by omega⟩,qb,Int.toNat_natCast,hg,hp,cond_true,beq_f (show ¬(i:Int) = -1 by omega),cond_false,qg (n:=(i:Int)+1) (by omega) (by omega)];rw[show((i:Int)+1)=((i+1:Nat):Int) by omega,q1,Option.bind_some];simp only[Int.toNat_natCast];rw[show qm (w':Int) ((zs.length:Nat):Int) zs.length=true by simp only[qm,Bool.and_eq_true,decide_eq_true_eq];omega,qb];rw[show ∀ys:List PM,qm 0 (w':Int) (zs.take w'++ys).length=true from fun ys=>by
            simp only[qm,Bool.and_eq_true,decide_eq_true_eq,List.length_append,List.length_take]
            omega,qb,←q4]
          rw[show ∀ys:List PM,(zs.take w'++ys).take w'=zs.take w' from fun ys=>by
            rw[List.take_append_of_le_length (by rw[List.length_take];omega),List.take_take,Nat.min_self]]
          rfl
        rw[qk hf];rfl
  exact key l.length 0 (by omega) (fun j hj=>by omega)
def openM (r:Rules) (p:Place):List Mv:=if qaD r p=0 then qgL r p else []
theorem qsi {r:Rules} {p:Place} (h:Valid r p):qg3 r p=some (openM r p):=by
  unfold qg3 openM;rw[qlD h,Option.bind_some];by_cases c:qaD r p=0
  · rw[bne_f c,cond_false,if_pos c,qiS h];rfl
  · rw[bne_t c,cond_true,if_neg c]
theorem openM_mem {r:Rules} {p:Place} {m:Mv}:m∈openM r p↔qaD r p=0∧qA r p m=true:=by
  unfold openM;by_cases c:qaD r p=0
  · rw[if_pos c,qfr];exact⟨fun h=>⟨c,h⟩,fun h=>h.2⟩
  · rw[if_neg c];exact⟨fun h=>(by cases h),fun h=>absurd h.1 c⟩
theorem qu3 {r:Rules} {p:Place} (h:Valid r p):(openM r p).length≤100000:=by
  unfold openM;split
  · exact qhs h
  · simp
def resN (r:Rules) (p:Place) (l:List PM) (i:Nat):Mv×Bool×List PM×Unit :=
  if (l.getD i dPM).2.1∈openM r p then((l.getD i dPM).2.1,(true,(l.take i++l.drop (i+1),()))) else((0,(0,(0,()))),(false,(woL l p.turn,())))
def nextP (r:Rules) (p:Place) (l:List PM):Mv×Bool×List PM×Unit :=
  if fstP l p.turn<l.length then resN r p l (fstP l p.turn) else((0,(0,(0,()))),(false,(woL l p.turn,())))
theorem next_spec {r:Rules} {p:Place} (h:Valid r p) (l:List PM) (hl:l.length≤1000):qhj r p l=some (nextP r p l):=by
  unfold qhj
  have hL:=qnq l.length (qem l p r) (fun i=>bif (l.getD i dPM).1==p.turn then some (Sum.inr (resN r p l i)) else none) (.inl ((),())) (fun i hi=>by
    unfold qem resN;simp only[show decide ((i:Int)<((l.length:Nat):Int))=true by simp;omega,cond_true];rw[qdw l i hi,Option.bind_some,qg (n:=(i:Int)+1) (by omega) (by omega),qtp l i hi];show(bif (l[i].1==p.turn) then _ else _)=_;cases hp:(l[i].1==p.turn)
    · rfl
    · simp only[cond_true];rw[show decide ((i:Int)<0)=false by simp];simp only[Bool.not_false,cond_false,qK,agree_self]
      have hgat:∀z,gat true z l (i:Int)=some l[i]:=fun z=>by show at? l (i:Int)=_;exact qdw l i hi
      rw[hgat,Option.bind_some,qsi h,Option.bind_some,qfe _ _ (by have:=qu3 h;omega),Option.bind_some,Option.bind_some];simp only;by_cases hm:l[i].2.1∈openM r p
      · rw[decide_eq_true hm,if_pos hm];simp only[Bool.not_true,cond_false];rw[show qm 0 (i:Int) l.length=true by simp only[qm,Bool.and_eq_true,decide_eq_true_eq];omega,show qm ((i:Int)+1) ((l.length:Nat):Int) l.length=true by simp only[qm,Bool.and_eq_true,decide_eq_true_eq];omega];simp only[qb,qK,agree_self,Option.bind_some,Int.toNat_natCast,List.drop_zero,List.take_length];rw[concatPM _ _ (by rw[List.length_take];omega) (by rw[List.length_drop];omega)];rw[show((i:Int)+1).toNat=i+1 by omega];rfl
      · rw[decide_eq_false hm,if_neg hm];simp only[Bool.not_false,cond_true];rw[show p.2.2.1=p.turn from rfl,qoe l _ (by omega)]
        rfl) (by unfold qem;simp)
  rw[hL,qw6,Nat.zero_add];unfold nextP;show Option.bind (some (if fstP l p.turn<l.length then Sum.inr (resN r p l (fstP l p.turn)) else Sum.inl ((),()))) _=_;by_cases c:fstP l p.turn<l.length
  · rw[if_pos c,if_pos c];rfl
  · rw[if_neg c,if_neg c];simp only[Option.bind_some,Sum.elim_inl];have hg:∀z:PM,gat false z l (-1)=some z:=fun z=>rfl;rw[hg,Option.bind_some];rw[show p.2.2.1=p.turn from rfl,qoe l _ (by omega)];rfl
theorem addP_spec (l:List PM) (hl:l.length≤1000) (pl:Int) (m:Mv):qjP l pl m=some (if pmErr l≠0 then([],(pmErr l,())) else if pl≠0∧pl≠1 then([],(1,())) else if (ofL l pl).length=4 then([],(9,())) else(l++[(pl,(m,()))],(0,()))):=by
  unfold qjP;rw[qqm l (by omega),Option.bind_some];by_cases c:pmErr l=0
  rotate_left
  · rw[bne_t c,cond_true,if_pos c]
  rw[bne_f c,cond_false,if_neg (fun h=>h c)];by_cases c1:pl≠0∧pl≠1
  · rw[if_pos c1,bne_t c1.1,bne_t c1.2];rfl
  rw[if_neg c1,show((pl !=0)&&(pl !=1))=false by
    rw[Bool.and_eq_false_iff];by_cases e:pl=0
    · exact .inl (bne_f e)
    · exact .inr (bne_f (by omega)),cond_false,qwd l pl (by omega),Option.bind_some]
  by_cases c2:(ofL l pl).length=4
  · rw[if_pos c2,c2];rfl
  rw[if_neg c2,beq_f (show ¬(((ofL l pl).length:Nat):Int)=4 by omega),cond_false];simp only[qK,agree_self];rw[qp1 l (by omega),Option.bind_some,qJ (by simp only[List.length_cons,List.length_nil];omega),qb,Option.bind_some]
def faultP (r:Rules) (p:Place) (l:List PM):Int:=if qae r p≠0 then qae r p else pmErr l
theorem qwb (r:Rules) (p:Place) (l:List PM) (hr:Rng qaB r) (hn:p.1.length≤9223372036854775807) (hl:l.length≤1000):qef r p l=some (faultP r p l):=by
  unfold qef faultP;rw[qjG r p hr hn,Option.bind_some];by_cases c:qae r p=0
  · rw[bne_f c,cond_false,if_neg (fun h=>h c),qqm l (by omega),Option.bind_some]
  · rw[bne_t c,cond_true,if_pos c]
theorem qx4 (r:Rules) (p:Place) (hr:Rng qaB r) (hv:Valid r p) (c:qam r=0) (l:List PM) (hl:l.length≤1000):qbw r p l=some (if pmErr l≠0 then((0,(0,(0,()))),(false,([],(pmErr l,())))) else((nextP r p l).1,((nextP r p l).2.1,((nextP r p l).2.2.1,(0,()))))):=by
  unfold qbw;rw[qwb r p l hr (by have:=qbD hv;omega) hl,Option.bind_some];unfold faultP;rw[qlM c hv];simp only[ne_eq,not_true_eq_false,if_false];by_cases h:pmErr l=0
  · rw[bne_f h,cond_false,next_spec hv l hl,Option.bind_some,if_neg (by simp[h])]
  · rw[bne_t h,cond_true,if_pos h]

theorem qbo {r:Rules} {s:List Place×List Mv} (h:OKG r s):qx (r,(s.1,(s.2,())))=some s.2:=by
  have hm:=h.most;have hc:qcJ s.2=some s.2:=by
    unfold qcJ
    cases hs:s.2 with
    | nil =>
      rw[show(([]:List Mv).isEmpty)=true from rfl,cond_true,qJ (by simp),qb];exact agree_self _
    | cons m l =>
      rw[hs] at hm;rw[show(m::l).isEmpty=false from rfl,cond_false,qJ (by simp at hm ⊢;omega),qb,List.nil_append]
  unfold qx;simp only[hc,Option.bind_some]
structure RG (r:Rules) (s:List Place×List Mv):Prop where
  ok:OKG r s
  reach:qva r s.2 = .inl s
theorem qtw {r:Rules} (m:Mv):∀(k:List Mv) (s:List Place×List Mv),runG r (k++[m]) s=match runG r k s with
    | .inl s'=>if stepG r s' m=0 then .inl (nextG r s' m) else .inr (stepG r s' m)
    | .inr e => .inr e
  | [],s=>rfl
  | x::k,s=>by
    rw[List.cons_append];unfold runG;split
    · exact qtw m k _
    · rfl
theorem RG.next {r:Rules} {s:List Place×List Mv} {m:Mv} (h:RG r s) (c:stepG r s m=0):RG r (nextG r s m):=⟨qv5 h.ok c,by
  show runG r (s.2++[m]) _=_;have:runG r s.2 ([qaE r],[]) = .inl s:=h.reach;rw[qtw,this]
  simp only[c,if_true]⟩
theorem RG.begin {r:Rules} (c:qam r=0):RG r ([qaE r],[]):=⟨qpB c,rfl⟩
def backG (s:List Place×List Mv):List Place×List Mv:=(s.1.dropLast,s.2.dropLast)
theorem back_next (r:Rules) (s:List Place×List Mv) (m:Mv):backG (nextG r s m)=s:=by
  unfold backG nextG;simp
theorem RG.last_step {r:Rules} {s:List Place×List Mv} (h:RG r s) (h0:0<s.2.length):RG r (backG s)∧∃m,s=nextG r (backG s) m∧stepG r (backG s) m=0:=by
  have hne:s.2≠[]:=fun e=>by rw[e] at h0;simp at h0
  have hk:s.2=s.2.dropLast++[s.2.getLast hne]:=(List.dropLast_concat_getLast hne).symm;have hr:=h.reach;unfold qva at hr;rw[hk,qtw] at hr
  cases hq:runG r s.2.dropLast ([qaE r],[]) with
  | inr e=>rw[hq] at hr;cases hr
  | inl s' =>
    rw[hq] at hr;simp only at hr;split at hr
    · rename_i c;have e:nextG r s' (s.2.getLast hne)=s:=Sum.inl.inj hr
      have hb:backG s=s':=by rw[←e];exact back_next r s' _
      obtain⟨o1,o2⟩:=run_ok _ _ _ (qpB h.ok.ok) hq;rw[List.nil_append] at o2;refine⟨⟨by rw[hb];exact o1,?_⟩,_,by rw[hb];exact e.symm,by rw[hb];exact c⟩;rw[hb,o2];exact hq
    · cases hr
theorem RG.back {r:Rules} {s:List Place×List Mv} (h:RG r s) (h0:0<s.2.length):RG r (backG s):=(h.last_step h0).1
theorem RG.back_open {r:Rules} {s:List Place×List Mv} (h:RG r s) (h0:0<s.2.length):qE r (backG s).1=0:=by
  obtain⟨_,m,_,c⟩:=h.last_step h0;exact(step_0 c).1
theorem qmJ (s:List Place×List Mv):(backG s).2.length=s.2.length-1:=by unfold backG;simp
def par (n:Nat):Int:=((n % 2:Nat):Int)
theorem qhS (n:Nat):((n:Nat):Int).tmod 2=par n:=(Int.ofNat_tmod n 2).symm
theorem qw3 (n:Nat):par (n+1)=1-par n:=by unfold par;omega
theorem par_rng (n:Nat):0≤par n∧par n≤1:=by unfold par;omega
theorem qxO (r:Rules) (s:List Place×List Mv) (m:Mv):lastP (nextG r s m).1=qn5 r (lastP s.1) m:=by
  unfold nextG lastP;simp only[List.length_append,List.length_singleton,Nat.add_sub_cancel];exact gd_app2 _ _
theorem RG.turn {r:Rules}:∀(n:Nat) {s:List Place×List Mv},RG r s→s.2.length=n→(lastP s.1).turn=par n
  | 0,s,h,hn=>by
    have he:s.2=[]:=List.length_eq_zero_iff.1 hn;have hr:=h.reach;rw[he] at hr;have:s=([qaE r],[]):=(Sum.inl.inj hr).symm;rw[this];rfl
  | n+1,s,h,hn=>by
    obtain⟨hb,m,e,_⟩:=h.last_step (by omega);have:=RG.turn n hb (by rw[qmJ];omega);rw[e,qxO,qw3,←this];rfl
theorem back_spec {r:Rules} {s:List Place×List Mv} (h:OKG r s):qdF (r,(s.1,(s.2,())))=some (if s.2.length=0 then((r,(s.1,(s.2,()))),8) else((r,((backG s).1,((backG s).2,()))),0)):=by
  obtain⟨l,ms⟩:=s;have hl:l.length=ms.length+1:=h.len;have hm:ms.length≤400:=h.most;unfold qdF;simp only;by_cases c:ms.length=0
  · rw[if_pos c,c];rfl
  · rw[if_neg c,beq_f (show ¬((ms.length:Nat):Int)=0 by omega),cond_false]
    have w1:w64 (((l.length:Nat):Int)-1)=((l.length-1:Nat):Int):=by rw[qg (by omega) (by omega)];omega
    have w2:w64 (((ms.length:Nat):Int)-1)=((ms.length-1:Nat):Int):=by rw[qg (by omega) (by omega)];omega
    have b1:qm 0 ((l.length-1:Nat):Int) l.length=true:=by simp only[qm,Bool.and_eq_true,decide_eq_true_eq];omega
    have b2:qm 0 ((ms.length-1:Nat):Int) ms.length=true:=by simp only[qm,Bool.and_eq_true,decide_eq_true_eq];omega
    simp only[w1,w2,b1,b2,qb,qK,agree_self,Option.bind_some,Int.toNat_natCast];unfold backG;rw[List.dropLast_eq_take,List.dropLast_eq_take]

theorem qoa {A:Type} (p q:A→Bool):∀l:List A,(∀x∈l,p x=true→q x=true)→l.countP q≤l.countP p→∀x∈l,p x=q x
  | [],_,_,x,hx=>absurd hx List.not_mem_nil
  | a::l,h,hc,x,hx=>by
    have hm:l.countP p≤l.countP q:=List.countP_mono_left (fun y hy hp=>h y (List.mem_cons_of_mem _ hy) hp);have ha:=h a List.mem_cons_self;rw[List.countP_cons,List.countP_cons] at hc;have e:p a=q a:=by
      cases e1:p a with
      | true=>rw[ha e1]
      | false =>
        cases e2:q a with
        | false=>rfl
        | true=>rw[e1,e2] at hc;simp at hc;omega
    rcases List.mem_cons.1 hx with e' | e'
    · rw[e'];exact e
    · refine qoa p q l (fun y hy=>h y (List.mem_cons_of_mem _ hy)) ?_ x e';rw[e] at hc;omega

def bec (pr:Nat→Nat) (g:Nat):Nat→Nat→Bool
  | 0,_=>false
  | m+1,k=>k==g||(decide (0<pr k)&&bec pr g m (pr k-1))
theorem qte (pr:Nat→Nat) (g:Nat):∀m k,bec pr g m k=true→bec pr g (m+1) k=true
  | 0,k,h=>by simp[bec] at h
  | m+1,k,h=>by
    unfold bec at h ⊢;rw[Bool.or_eq_true,Bool.and_eq_true] at h ⊢;rcases h with h | ⟨h1,h2⟩
    · exact .inl h
    · exact .inr ⟨h1,qte pr g m _ h2⟩
theorem qws (pr:Nat→Nat) (g:Nat) {m m':Nat} (h:m≤m') {k:Nat} (hb:bec pr g m k=true):bec pr g m' k=true:=by
  induction h with
  | refl=>exact hb
  | step _ ih=>exact qte pr g _ _ ih
theorem qxV (pr:Nat→Nat) (g n:Nat) (hp:∀k,k<n→pr k≤n) (m k:Nat) (hk:k<n) (h:bec pr g m k=true):bec pr g (n+1) k=true:=by
  have st:∀s,(∀k,k<n→bec pr g (s+1) k=bec pr g s k)→∀m,s≤m→∀k,k<n→bec pr g m k=bec pr g s k:=by
    intro s hs m hm
    induction hm with
    | refl=>intro k _;rfl
    | step hm ih =>
      rename_i m;intro k hk;rw[←hs k hk];unfold bec;by_cases c:0<pr k
      · have:=hp k hk;rw[ih (pr k-1) (by omega)]
      · rw[decide_eq_false c,Bool.false_and,Bool.false_and]
  have gr:∀t,(∃s,s<t∧∀k,k<n→bec pr g (s+1) k=bec pr g s k)∨t≤(List.range n).countP (bec pr g t):=by
    intro t
    induction t with
    | zero=>exact .inr (by omega)
    | succ t ih =>
      rcases ih with ⟨s,h1,h2⟩ | h1
      · exact .inl ⟨s,by omega,h2⟩
      · by_cases c:(List.range n).countP (bec pr g (t+1))≤(List.range n).countP (bec pr g t)
        · have:=qoa (bec pr g t) (bec pr g (t+1)) (List.range n) (fun x _ hx=>qte pr g t x hx) c;exact .inl ⟨t,by omega,fun k hk=>(this k (List.mem_range.2 hk)).symm⟩
        · exact .inr (by omega)
  by_cases c:m≤n+1
  · exact qws pr g c h
  · rcases gr (n+1) with ⟨s,h1,h2⟩ | h1
    · rw[st s h2 m (by omega) k hk] at h;exact qws pr g (by omega) h
    · have:(List.range n).countP (bec pr g (n+1))≤(List.range n).length:=List.countP_le_length;rw[List.length_range] at this;omega

def passG (pr:Nat→Nat) (f:Nat→Bool) (k:Nat):Nat→Bool:=fun j=>if j=k then(f k||(decide (0<pr k)&&f (pr k-1))) else f j
def passL (pr:Nat→Nat) (l:List Nat) (f:Nat→Bool):Nat→Bool:=l.foldl (passG pr) f
theorem qwu (pr:Nat→Nat) (f:Nat→Bool) (k j:Nat) (h:f j=true):passG pr f k j=true:=by
  unfold passG;split
  · rename_i e;subst e;rw[h];rfl
  · exact h
theorem qsT (pr:Nat→Nat):∀(l:List Nat) (f:Nat→Bool) (j:Nat),f j=true→passL pr l f j=true
  | [],f,j,h=>h
  | a::l,f,j,h=>qsT pr l _ j (qwu pr f a j h)
theorem qvg (pr:Nat→Nat):∀(l:List Nat) (f:Nat→Bool) (k:Nat),k∈l→0<pr k→f (pr k-1)=true→passL pr l f k=true
  | [],f,k,hk,_,_=>absurd hk List.not_mem_nil
  | a::l,f,k,hk,hp,h=>by
    show passL pr l (passG pr f a) k=true;by_cases e:k=a
    · subst e;refine qsT pr l _ k ?_;unfold passG;rw[if_pos rfl,h,decide_eq_true hp];simp
    · exact qvg pr l _ k ((List.mem_cons.1 hk).resolve_left e) hp (qwu pr f a _ h)
theorem qpK (pr:Nat→Nat) (Q:Nat→Prop) (hq:∀k,0<pr k→Q (pr k-1)→Q k):∀(l:List Nat) (f:Nat→Bool),(∀j,f j=true→Q j)→∀j,passL pr l f j=true→Q j
  | [],f,h,j,hj=>h j hj
  | a::l,f,h,j,hj=>by
    refine qpK pr Q hq l (passG pr f a) (fun i hi=>?_) j hj;unfold passG at hi;split at hi
    · rename_i e;subst e;rw[Bool.or_eq_true,Bool.and_eq_true,decide_eq_true_eq] at hi;rcases hi with hi | ⟨h1,h2⟩
      · exact h _ hi
      · exact hq _ h1 (h _ h2)
    · exact h _ hi
def closN (pr:Nat→Nat) (n g:Nat):Nat→Nat→Bool
  | 0=>fun j=>j==g
  | t+1=>passL pr (List.range n) (closN pr n g t)
theorem clos_eq (pr:Nat→Nat) (n g:Nat) (hp:∀k,k<n→pr k≤n) (k:Nat) (hk:k<n):closN pr n g n k=bec pr g (n+1) k:=by
  rw[Bool.eq_iff_iff];constructor
  · intro h;have:∀t j,closN pr n g t j=true→∃m,bec pr g m j=true:=by
      intro t
      induction t with
      | zero =>
        intro j h;have h:(j==g)=true:=h;exact⟨1,by unfold bec;rw[h];rfl⟩
      | succ t ih =>
        intro j h;refine qpK pr (fun j=>∃m,bec pr g m j=true) (fun k hk ⟨m,hm⟩=>⟨m+1,?_⟩) (List.range n) _ ih j h;unfold bec;rw[hm,decide_eq_true hk];simp
    obtain⟨m,hm⟩:=this _ _ h;exact qxV pr g n hp m k hk hm
  · have:∀t k,k<n→bec pr g (t+1) k=true→closN pr n g t k=true:=by
      intro t
      induction t with
      | zero =>
        intro k hk h;unfold bec at h;rw[Bool.or_eq_true] at h;rcases h with h | h
        · exact h
        · simp[bec] at h
      | succ t ih =>
        intro k hk h;unfold bec at h;rw[Bool.or_eq_true,Bool.and_eq_true,decide_eq_true_eq] at h;rcases h with h | ⟨h1,h2⟩
        · have:∀t,closN pr n g t k=true:=by
            intro t
            induction t with
            | zero=>exact h
            | succ t ih=>exact qsT pr _ _ _ ih
          exact this _
        · have:=hp k hk;exact qvg pr _ _ k (List.mem_range.2 hk) h1 (ih _ (by omega) h2)
    exact this n k hk

def sumN (f:Nat→Int):Nat→Int
  | 0=>0
  | n+1=>sumN f n+f n
theorem qnA {f g:Nat→Int}:∀n,(∀i,i<n→f i=g i)→sumN f n=sumN g n
  | 0,_=>rfl
  | n+1,h=>by unfold sumN;rw[qnA n (fun i hi=>h i (by omega)),h n (by omega)]
theorem qtt (f g:Nat→Int):∀n,sumN (fun i=>f i+g i) n=sumN f n+sumN g n
  | 0=>rfl
  | n+1=>by unfold sumN;rw[qtt f g n];omega
theorem qpb (f:Nat→Int) (B:Int):∀n,(∀i,i<n→0≤f i∧f i≤B)→0≤sumN f n∧sumN f n≤n*B
  | 0,_=>by simp[sumN]
  | n+1,h=>by
    have h1:=qpb f B n (fun i hi=>h i (by omega));have h2:=h n (by omega);unfold sumN;rw[show((n+1:Nat):Int)*B=(n:Int)*B+B by rw[Int.natCast_add,Int.add_mul];simp];omega
theorem qwr (f:Nat→Int):∀n,(∀i,i<n→0≤f i)→(0<sumN f n↔∃i,i<n∧0<f i)
  | 0,_=>by simp[sumN]
  | n+1,h=>by
    have h1:=qwr f n (fun i hi=>h i (by omega));have h2:=h n (by omega);have h3:0≤sumN f n:=by
      clear h1 h2
      induction n with
      | zero=>simp[sumN]
      | succ n ih =>
        have:=ih (fun i hi=>h i (by omega));have:=h n (by omega);unfold sumN;omega
    unfold sumN;constructor
    · intro hp;by_cases c:0<f n
      · exact⟨n,by omega,c⟩
      · obtain⟨i,hi,hf⟩:=h1.1 (by omega);exact⟨i,by omega,hf⟩
    · rintro ⟨i,hi,hf⟩
      by_cases c:i=n
      · subst c;omega
      · have:=h1.2 ⟨i,by omega,hf⟩;omega
theorem qr4 {A:Type} (q:A→Bool) (k:A→Nat) (n:Nat):∀l:List A,(∀x∈l,q x=true→k x<n)→sumN (fun j=>((l.countP (fun x=>q x&&(k x==j)):Nat):Int)) n=((l.countP q:Nat):Int)
  | [],_=>by
    have:∀n,sumN (fun j=>(0:Int)) n=0:=fun n=>by
      induction n with
      | zero=>rfl
      | succ n ih=>unfold sumN;rw[ih];rfl
    exact this n
  | a::l,h=>by
    have ih:=qr4 q k n l (fun x hx=>h x (List.mem_cons_of_mem _ hx))
    rw[List.countP_cons,Int.natCast_add,←ih,qnA (g:=fun j=>((l.countP (fun x=>q x&&(k x==j)):Nat):Int)+(if (q a&&(k a==j))=true then 1 else 0)) n (fun j hj=>by
      show((_:Nat):Int)=_;rw[List.countP_cons,Int.natCast_add]
      split<;>rfl),qtt]
    congr 1;have one:∀n m,m<n→sumN (fun j=>if m=j then(1:Int) else 0) n=1:=by
      intro n
      induction n with
      | zero=>intro m hm;omega
      | succ n ih =>
        intro m hm;unfold sumN;by_cases c:m=n
        · subst c;have z:∀t,t≤m→sumN (fun j=>if m=j then(1:Int) else 0) t=0:=by
            intro t
            induction t with
            | zero=>intro _;rfl
            | succ t ih=>intro ht;unfold sumN;rw[ih (by omega),if_neg (by omega)];rfl
          rw[z m (Nat.le_refl _),if_pos rfl];rfl
        · rw[ih m (by omega),if_neg c];rfl
    cases hq:q a with
    | false =>
      have:∀n,sumN (fun j=>if (false&&(k a==j))=true then(1:Int) else 0) n=0:=fun n=>by
        induction n with
        | zero=>rfl
        | succ n ih=>unfold sumN;rw[ih];rfl
      rw[this];rfl
    | true =>
      have:=one n (k a) (h a List.mem_cons_self hq);simp only[Bool.true_and,beq_iff_eq,if_true];exact this

def tup {A:Type} (f:Nat→A):A×A×A×A×A×A×Unit:=(f 0,f 1,f 2,f 3,f 4,f 5,())
theorem tup_get {A:Type} (f:Nat→A) (d:A) (k:Nat) (h:k<6):getD' [f 0,f 1,f 2,f 3,f 4,f 5] k d=f k:=by
  obtain rfl | rfl | rfl | rfl | rfl | rfl:k=0∨k=1∨k=2∨k=3∨k=4∨k=5:=by omega
  all_goals rfl
theorem tup_set {A:Type} (f:Nat→A) (v:A) (k:Nat) (h:k<6):((bif ((k:Int)==(0:Int)) then v else f 0),(bif ((k:Int)==(1:Int)) then v else f 1),(bif ((k:Int)==(2:Int)) then v else f 2),(bif ((k:Int)==(3:Int)) then v else f 3),(bif ((k:Int)==(4:Int)) then v else f 4),(bif ((k:Int)==(5:Int)) then v else f 5),())=tup (fun j=>if j=k then v else f j):=by
  obtain rfl | rfl | rfl | rfl | rfl | rfl:k=0∨k=1∨k=2∨k=3∨k=4∨k=5:=by omega
  all_goals rfl

def ownB (pl c:Int):Bool:=decide (c>0)&&((w64 (c-1)).tmod 2==pl)
def kc (c:Int):Nat:=((c-1) / 2).toNat
theorem kc_eq {c:Int} (h:0<c) (h':c≤12):w64 ((w64 (c-1)).tdiv 2)=((kc c:Nat):Int):=by
  unfold kc;rw[qg (n:=c-1) (by omega) (by omega),Int.tdiv_eq_ediv_of_nonneg (by omega),qg (by omega) (by omega)];omega
theorem qph {pl c:Int} (h:ownB pl c=true):0<c:=by
  unfold ownB at h;rw[Bool.and_eq_true,decide_eq_true_eq] at h;exact h.1
def handP (p:Place) (pl:Int):List Int:=getD' [p.2.1.1,p.2.1.2.1] pl.toNat []
def hk (p:Place) (pl:Int) (k:Nat):Int:=getD' (handP p pl) k 0
def nN (p:Place) (pl:Int) (n:Nat):Int:=((p.1.countP (ownB pl):Nat):Int)+sumN (hk p pl) n
def qbi (p:Place) (pl:Int) (n:Nat):List Nat:=(p.1.filter (ownB pl)).map kc++(List.range n).filter (fun k=>decide (hk p pl k>0))
def qdL (p:Place) (pl:Int) (n:Nat):List Int:=(qbi p pl n).map fun k:Nat=>(k:Int)
theorem quY {r:Rules} {p:Place} (hv:Valid r p) {pl:Int} (hpl:pl=0∨pl=1):(handP p pl).length=r.pieces.length:=by
  rcases hpl with h | h
  · subst h;exact hv.l0
  · subst h;exact hv.l1
theorem quQ {r:Rules} {p:Place} (hv:Valid r p) {pl:Int} (hpl:pl=0∨pl=1) (k:Nat):0≤hk p pl k∧hk p pl k≤1000:=by
  unfold hk;by_cases c:k<(handP p pl).length
  · rw[gd_eq _ k c];rcases hpl with h | h
    · subst h;exact hv.hand0 _ (List.getElem_mem (l:=p.2.1.1) (by exact c))
    · subst h;exact hv.hand1 _ (List.getElem_mem (l:=p.2.1.2.1) (by exact c))
  · simp[getD',List.getElem?_eq_none (Nat.not_lt.1 c)]
theorem qi6 {r:Rules} {p:Place} (hv:Valid r p):p.1.length≤64:=by
  have h1:=hv.cells;have h2:=hv.r0.area;have h3:((p.1.length:Nat):Int)=r.width*r.height:=h1;omega
theorem qwt {r:Rules} {p:Place} (hv:Valid r p) {c:Int} (hc:c∈p.1):0≤c∧c≤2*((r.pieces.length:Nat):Int)∧c≤12:=by
  have h1:=hv.cell c hc;have h2:=hv.r0.t6;omega
theorem himp (b:Bool):imp b true=true:=by cases b<;>rfl
theorem qvp {A:Type} (q:A→Bool) (l:List A) (i:Nat):((l.take i).filter q).length≤i:=Nat.le_trans (List.length_filter_le _ _) (by simp;omega)
theorem qyo {r:Rules} {p:Place} (hv:Valid r p) {pl:Int} (hpl:pl=0∨pl=1):qjL p pl=some (qdL p pl r.pieces.length,(nN p pl r.pieces.length,())):=by
  have hc64:=qi6 hv;have ht6:=hv.r0.t6;have hH:=quY hv hpl;have h1:iterW (qdx p pl) ((([]:List Int),(0:Int),(0:Int),()),())=some ((((p.1.filter (ownB pl)).map (fun c=>((kc c:Nat):Int))),(((p.1.countP (ownB pl):Nat):Int)),()),()):=by
    have:=qab (f:=qdx p pl) p.1.length (fun i=>((((p.1.take i).filter (ownB pl)).map (fun c=>((kc c:Nat):Int)),(((p.1.take i).countP (ownB pl):Nat):Int),(i:Int),()),())) ((((p.1.filter (ownB pl)).map (fun c=>((kc c:Nat):Int))),(((p.1.countP (ownB pl):Nat):Int)),()),()) (fun i hi=>by
      have hm:p.1[i]∈p.1:=List.getElem_mem _;have h12:=qwt hv hm
      have hcl:(p.1.take i).countP (ownB pl)≤i:=by rw[List.countP_eq_length_filter];exact qvp _ _ _
      unfold qdx;simp only[ltd p.1 i hi,cond_true];rw[at?_eq _ _ (by omega) (by omega)];simp only[Option.bind_some,Int.toNat_natCast,himp,qb];rw[show(decide (p.1[i]>0)&&((w64 (p.1[i]-1)).tmod 2==pl))=ownB pl p.1[i] from rfl,List.take_succ_eq_append_getElem hi,List.filter_append,List.map_append,List.countP_append];rw[qg (n:=(i:Int)+1) (by omega) (by omega)]
      cases hq:ownB pl p.1[i] with
      | true =>
        have hp0:=qph hq;rw[kc_eq hp0 h12.2.2,qg (n:=(((p.1.take i).countP (ownB pl):Nat):Int)+1) (by omega) (by omega),cond_true];rw[qJ (by rw[List.length_map];have:=qvp (ownB pl) p.1 i;simp only[List.length_singleton];omega),qb];simp[hq]
      | false =>
        simp[hq]) (by
      unfold qdx
      simp only[nltd,cond_false,List.take_length])
    exact this
  have h2:iterW (qc1 p pl) ((((p.1.filter (ownB pl)).map (fun c=>((kc c:Nat):Int))),(((p.1.countP (ownB pl):Nat):Int)),(0:Int),()),())=some ((qdL p pl r.pieces.length,nN p pl r.pieces.length,()),()):=by
    have hcp:p.1.countP (ownB pl)≤64:=Nat.le_trans List.countP_le_length hc64;have hfl:(p.1.filter (ownB pl)).length≤64:=Nat.le_trans (List.length_filter_le _ _) hc64
    have:=qab (f:=qc1 p pl) r.pieces.length (fun i=>((qdL p pl i,nN p pl i,(i:Int),()),())) ((qdL p pl r.pieces.length,nN p pl r.pieces.length,()),()) (fun i hi=>by
      have hk1:=quQ hv hpl i;have hs:=qpb (hk p pl) 1000 i (fun j _=>quQ hv hpl j);unfold qc1;simp only[show getD' [p.2.1.1,p.2.1.2.1] pl.toNat []=handP p pl from rfl];simp only[ltd (handP p pl) i (by omega),cond_true];rw[at?_eq _ _ (by omega) (by omega)];simp only[Option.bind_some,Int.toNat_natCast];rw[show(handP p pl)[i]'(by omega)=hk p pl i from(gd_eq _ i (by omega) 0).symm];rw[qg (n:=(i:Int)+1) (by omega) (by omega)]
      have e1:nN p pl (i+1)=nN p pl i+hk p pl i:=by unfold nN;rw[sumN];omega
      have hn:0≤nN p pl i∧nN p pl i≤6064:=by unfold nN;omega
      have e2:qdL p pl (i+1)=bif decide (hk p pl i>0) then qdL p pl i++[(i:Int)] else qdL p pl i:=by
        unfold qdL qbi;rw[List.range_succ,List.filter_append]
        cases hq:decide (hk p pl i>0)<;>simp[hq]
      rw[e1,e2]
      cases hq:decide (hk p pl i>0) with
      | true =>
        have hl:(qdL p pl i).length≤100:=by
          unfold qdL qbi;rw[List.length_map,List.length_append,List.length_map];have:((List.range i).filter (fun k=>decide (hk p pl k>0))).length≤(List.range i).length:=List.length_filter_le _ _;rw[List.length_range] at this;omega
        rw[cond_true,qJ (by simp only[List.length_singleton];omega),qb,qg (n:=nN p pl i+hk p pl i) (by omega) (by omega)];rfl
      | false =>
        have hz:hk p pl i=0:=by rw[decide_eq_false_iff_not] at hq;omega
        rw[hz,Int.add_zero]
        rfl) (by
      unfold qc1;simp only[show getD' [p.2.1.1,p.2.1.2.1] pl.toNat []=handP p pl from rfl]
      rw[show((r.pieces.length:Nat):Int)=(((handP p pl).length:Nat):Int) by rw[hH],nltd,cond_false])
    have e0:qdL p pl 0=(p.1.filter (ownB pl)).map (fun c=>((kc c:Nat):Int)):=by
      unfold qdL qbi;simp
    have e1:nN p pl 0=((p.1.countP (ownB pl):Nat):Int):=by unfold nN;simp[sumN]
    rw[←e0,←e1];exact this
  unfold qjL;rw[h1,Option.bind_some,show inb pl 2=true from inb_iff.2 (by omega),qb,h2,Option.bind_some]
theorem qsI {r:Rules} {p:Place} (hv:Valid r p) {pl:Int} {k:Nat} (hk':k∈qbi p pl r.pieces.length):k<r.pieces.length:=by
  unfold qbi at hk';rcases List.mem_append.1 hk' with h | h
  · obtain⟨c,hc,e⟩:=List.mem_map.1 h;obtain⟨h1,h2⟩:=List.mem_filter.1 hc;have h3:=qwt hv h1;have h4:=qph h2;rw[←e];unfold kc;omega
  · exact List.mem_range.1 (List.mem_filter.1 h).1
theorem quJ {p:Place} {pl:Int} {n:Nat} (q:Nat→Bool):(qbi p pl n).any q=true↔∃k,q k=true∧((∃c∈p.1,ownB pl c=true∧kc c=k)∨(k<n∧hk p pl k>0)):=by
  rw[List.any_eq_true];constructor
  · rintro ⟨k,hk1,hq⟩
    refine⟨k,hq,?_⟩;rcases List.mem_append.1 hk1 with h | h
    · obtain⟨c,hc,e⟩:=List.mem_map.1 h;obtain⟨h1,h2⟩:=List.mem_filter.1 hc;exact .inl ⟨c,h1,h2,e⟩
    · obtain⟨h1,h2⟩:=List.mem_filter.1 h;exact .inr ⟨List.mem_range.1 h1,by simpa using h2⟩
  · rintro ⟨k,hq,h⟩
    refine⟨k,List.mem_append.2 ?_,hq⟩;rcases h with ⟨c,h1,h2,h3⟩ | ⟨h1,h2⟩
    · exact .inl (List.mem_map.2 ⟨c,List.mem_filter.2 ⟨h1,h2⟩,h3⟩)
    · exact .inr (List.mem_filter.2 ⟨List.mem_range.2 h1,by simpa using h2⟩)

def dQ:Piece:=(0,0,0,[],())
def qgR (r:Rules) (k:Nat):Piece:=getD' r.pieces k dQ
def prN (r:Rules) (k:Nat):Nat:=(qgR r k).2.2.1.toNat
theorem qhd (r:Rules) {k:Nat} (h:k<r.pieces.length):qgR r k∈r.pieces:=by unfold qgR;rw[gd_eq _ k h];exact List.getElem_mem _
theorem qmO (r:Rules) {k:Nat} (h:k<r.pieces.length):at? r.2.2.2.1 (k:Int)=some (qgR r k):=by
  rw[at?_eq _ _ (by omega) (by show(k:Int)<((r.pieces.length:Nat):Int);omega)];unfold qgR;rw[gd_eq _ k h];rfl
theorem pr_le {r:Rules} (hv:VR0 r):∀k,k<r.pieces.length→prN r k≤r.pieces.length:=fun k h=>by
  have:=hv.prom _ (qhd r h);unfold prN;omega
theorem qxQ {r:Rules} (hv:VR0 r) (g:Nat):∀m i k:Nat,i+m=r.pieces.length+1→k<r.pieces.length→Option.bind (α:=((Unit)×(Unit)) ⊕ Bool) (iterW (qbm r (g:Int)) (((k:Int),(i:Int),()),())) (Sum.elim (fun x4=>some false) some)=some (bec (prN r) g m k):=by
  have ht6:=hv.t6;have hw:w64 (((r.2.2.2.1.length:Nat):Int)+1)=((r.pieces.length:Nat):Int)+1:=qg (by show _≤((r.pieces.length:Nat):Int)+1;omega) (by show((r.pieces.length:Nat):Int)+1≤_;omega);intro m
  induction m with
  | zero =>
    intro i k hi hk
    rw[qk (r := .inl ((),())) (by
      unfold qbm;simp only;rw[hw,decide_eq_false (by omega)]
      rfl)]
    rfl
  | succ m ih =>
    intro i k hi hk;have hp:=hv.prom _ (qhd r hk);by_cases e:k=g
    · rw[qk (r := .inr true) (by
        unfold qbm;simp only
        rw[hw,decide_eq_true (by omega),cond_true,beq_t (by omega),cond_true])]
      unfold bec;rw[beq_t e];rfl
    · by_cases c:(qgR r k).2.2.1=0
      · rw[qk (r := .inr false) (by
          unfold qbm;simp only
          rw[hw,decide_eq_true (by omega),cond_true,beq_f (by omega),cond_false,qmO r hk,Option.bind_some,beq_t c,cond_true])]
        unfold bec;rw[beq_f e,decide_eq_false (show ¬0<prN r k by unfold prN;omega)];rfl
      · have e2:w64 ((qgR r k).2.2.1-1)=((prN r k-1:Nat):Int):=by
          unfold prN;rw[qg (by omega) (by omega)];omega
        have hlt:prN r k-1<r.pieces.length:=by unfold prN;omega
        rw[qn (y:=((((prN r k-1:Nat):Int),((i+1:Nat):Int),()),())) (by
          unfold qbm;simp only;rw[hw,decide_eq_true (by omega),cond_true,beq_f (by omega),cond_false,qmO r hk,Option.bind_some,beq_f c,cond_false,Option.bind_some,e2,qg (n:=(i:Int)+1) (by omega) (by omega)]
          rfl),ih (i+1) (prN r k-1) (by omega) hlt]
        conv=>rhs;unfold bec
        rw[beq_f e,decide_eq_true (show 0<prN r k by unfold prN;omega)];rfl
theorem quw {r:Rules} (hv:VR0 r) (g k:Nat) (hk:k<r.pieces.length):qiz r (k:Int) (g:Int)=some (bec (prN r) g (r.pieces.length+1) k):=qxQ hv g _ 0 k (by omega) hk

theorem qxJ (q:Piece) (hq:q.2.2.2.1.length≤16) (i:Nat):iterW (qf1 q (((i:Int),()),())) (((0:Int),()),())=some (bif q.2.2.2.1.any (fun w=>w.2.2.2.1 !=0) then .inr (.inr (.inr ((true,()),()))) else .inl ((),())):=by
  refine qaw (β:=((Unit)×(Unit)) ⊕ (((Int×Unit)×(Unit)) ⊕ (((Unit)×(Unit)) ⊕ ((Bool×Unit)×(Unit))))) q.2.2.2.1 (fun w=>w.2.2.2.1 !=0) _ (.inr (.inr (.inr ((true,()),())))) (.inl ((),())) (fun j hj=>?_) ?_
  · unfold qf1;simp only;rw[ltd _ j hj,cond_true,at?_eq _ _ (by omega) (by omega),Option.bind_some,decide_eq_true (show(j:Int)≥0 by omega),decide_eq_true (show(i:Int)≥0 by omega),qg (n:=(j:Int)+1) (by omega) (by omega)];simp only[Int.toNat_natCast]
    cases (q.2.2.2.1[j].2.2.2.1 !=0)<;>rfl
  · unfold qf1;simp only;rw[nltd];rfl
def qsk (r:Rules) (k:Nat):Bool:=(qgR r k).2.2.2.1.any fun w=>w.2.2.2.1 !=0
def ableX (r:Rules) (p:Place) (pl:Int) (x:End):Bool:=(x.2.2.2.1||(x.1==2))||((((x.1==0)&&decide (nN p pl r.pieces.length≥x.2.2.1))||((x.1==1)&&(qbi p pl r.pieces.length).any (bec (prN r) x.2.1.toNat (r.pieces.length+1))))||(r.keeps&&(qbi p pl r.pieces.length).any (qsk r)))
theorem able_spec {r:Rules} {p:Place} (hv:Valid r p) {pl:Int} (hpl:pl=0∨pl=1) {x:End} (hx:x∈r.ends):qmh r p x pl=some (ableX r p pl x):=by
  have hE:=hv.r0.ends x hx;have ht1:=hv.r0.t1;have ht6:=hv.r0.t6;have hx1:0≤x.2.1:=by
    have:=hE.2.2
    split at this<;>omega
  have hg:x.2.1=((x.2.1.toNat:Nat):Int):=by omega
  have hTl:(qbi p pl r.pieces.length).length≤100:=by
    have hfl:(p.1.filter (ownB pl)).length≤64:=Nat.le_trans (List.length_filter_le _ _) (qi6 hv);have:((List.range r.pieces.length).filter (fun k=>decide (hk p pl k>0))).length≤(List.range r.pieces.length).length:=List.length_filter_le _ _;rw[List.length_range] at this;unfold qbi;rw[List.length_append,List.length_map];omega
  have hlen:(qdL p pl r.pieces.length).length=(qbi p pl r.pieces.length).length:=List.length_map _;have hget:∀i (hi:i<(qbi p pl r.pieces.length).length),getD' (qdL p pl r.pieces.length) i 0=(((qbi p pl r.pieces.length)[i]:Nat):Int):=fun i hi=>by
    rw[gd_eq _ i (by omega)];unfold qdL;rw[List.getElem_map]
  have i1:iterW (qgy (qdL p pl r.pieces.length,(nN p pl r.pieces.length,())) r x) (((0:Int),()),())=some (bif (qbi p pl r.pieces.length).any (bec (prN r) x.2.1.toNat (r.pieces.length+1)) then .inr ((true,()),()) else .inl ((),())):=by
    refine qaw (β:=((Unit)×(Unit)) ⊕ ((Bool×Unit)×(Unit))) (qbi p pl r.pieces.length) _ _ (.inr ((true,()),())) (.inl ((),())) (fun i hi=>?_) ?_
    · unfold qgy;simp only;rw[decide_eq_true (show(i:Int)<(((qdL p pl r.pieces.length).length:Nat):Int) by omega),cond_true,inbN _ i (by omega),qb,Int.toNat_natCast,hget i hi,hg,quw hv.r0 _ _ (qsI hv (List.getElem_mem _)),Option.bind_some,decide_eq_true (show(i:Int)≥0 by omega),qg (n:=(i:Int)+1) (by omega) (by omega)];rfl
    · unfold qgy;simp only;rw[decide_eq_false (by omega)];rfl
  have i2:iterW (qgF (qdL p pl r.pieces.length,(nN p pl r.pieces.length,())) r) (((0:Int),()),())=some (bif (qbi p pl r.pieces.length).any (qsk r) then .inr ((true,()),()) else .inl ((),())):=by
    refine qaw (β:=((Unit)×(Unit)) ⊕ ((Bool×Unit)×(Unit))) (qbi p pl r.pieces.length) _ _ (.inr ((true,()),())) (.inl ((),())) (fun i hi=>?_) ?_
    · have hlt:=qsI hv (List.getElem_mem hi);have hwl:=hv.r0.ways _ (qhd r hlt);unfold qgF;simp only;rw[decide_eq_true (show(i:Int)<(((qdL p pl r.pieces.length).length:Nat):Int) by omega),cond_true,inbN _ i (by omega),qb,Int.toNat_natCast,hget i hi,qmO r hlt,Option.bind_some,qg (n:=(i:Int)+1) (by omega) (by omega)];rw[qxJ _ hwl i];show _=bif (qgR r (qbi p pl r.pieces.length)[i]).2.2.2.1.any (fun w=>w.2.2.2.1 !=0) then _ else _
      cases (qgR r (qbi p pl r.pieces.length)[i]).2.2.2.1.any (fun w=>w.2.2.2.1 !=0)<;>rfl
    · unfold qgF;simp only;rw[decide_eq_false (by omega)];rfl
  unfold qmh;rw[qyo hv hpl,Option.bind_some,i1,i2];unfold ableX;show _=some (_||(_||(r.2.2.2.2.2.2.1&&_)))
  cases (x.2.2.2.1||(x.1==2)) with
  | true=>rfl
  | false =>
    cases ((x.1==0)&&decide (nN p pl r.pieces.length≥x.2.2.1)) with
    | true=>rfl
    | false =>
      cases (x.1==1)<;>cases (qbi p pl r.pieces.length).any (bec (prN r) x.2.1.toNat (r.pieces.length+1))<;>cases r.2.2.2.2.2.2.1<;>cases (qbi p pl r.pieces.length).any (qsk r)<;>rfl
def ableR (r:Rules) (p:Place) (pl:Int):Bool:=(r.blocked !=2)||r.ends.any (ableX r p pl)
theorem qrx (r:Rules) (p:Place) (pl:Int) (hr:Rng qaB r) (hn:p.1.length≤9223372036854775807):qfw r p pl=some (if qae r p=0 then if pl=0∨pl=1 then(ableR r p pl,(0,())) else(false,(1,())) else(false,(qae r p,()))):=by
  unfold qfw;rw[qjG r p hr hn,Option.bind_some];by_cases c:qae r p=0
  · have hv:=qmF c;have h6:=hv.r0.ends6;rw[bne_f c,cond_false,if_pos c];by_cases cp:pl=0∨pl=1
    · rw[if_pos cp,show((pl !=0)&&(pl !=1))=false by rcases cp with h | h<;>subst h<;>rfl,cond_false]
      have i1:iterW (qej r p pl) (((0:Int),()),())=some (bif r.ends.any (ableX r p pl) then .inr ((true,(0:Int),()),()) else .inl ((),())):=by
        refine qaw (β:=((Unit)×(Unit)) ⊕ ((Bool×Int×Unit)×(Unit))) r.ends _ _ (.inr ((true,(0:Int),()),())) (.inl ((),())) (fun i hi=>?_) ?_
        · have hi':i<r.2.2.2.2.2.2.2.1.length:=hi;unfold qej;simp only;rw[ltd _ i hi',cond_true,at?_eq _ _ (by omega) (by omega),Option.bind_some];simp only[Int.toNat_natCast];rw[able_spec hv cp (x:=r.2.2.2.2.2.2.2.1[i]) (List.getElem_mem (l:=r.ends) hi),Option.bind_some,decide_eq_true (show(i:Int)≥0 by omega),qg (n:=(i:Int)+1) (by omega) (by omega)];rfl
        · unfold qej;simp only;rw[show decide (((r.ends.length:Nat):Int)<((r.2.2.2.2.2.2.2.1.length:Nat):Int))=false from nltd r.ends];rfl
      rw[i1];unfold ableR;show _=some ((r.2.2.2.2.2.2.2.2.1 !=2)||_,_)
      cases (r.2.2.2.2.2.2.2.2.1 !=2)<;>cases r.ends.any (ableX r p pl)<;>rfl
    · rw[if_neg cp,show((pl !=0)&&(pl !=1))=true by rw[bne_t (by omega),bne_t (by omega)];rfl];rfl
  · rw[bne_t c,if_neg c];rfl
set_option maxHeartbeats 0

structure MS where
  g:List Place×List Mv
  res:Int
  rea:Int
  c:Clk
  o:Offs
  pm:List PM
  last:Int
  j:Jn
abbrev StT:=List Mv×Int×Int×Clk×Offs×List PM×Unit
abbrev qiZ:=Rules×CRule×Game×StT×Int×Jn×Unit
def tupM (r:Rules) (cr:CRule) (m:MS):qiZ:=(r,(cr,(gm r m.g,(([],(m.res,(m.rea,(m.c,(m.o,(m.pm,())))))),(m.last,(m.j,()))))))
def dClk:Clk:=((0,(0,())),((0,(0,())),((0,(0,())),(0,(0,(false,(0,())))))))
def dOff:Offs:=((0,(0,())),(((0,(0,())),((0,(0,())),())),()))
noncomputable def ofMove (o:Offs) (pl:Int):Offs:=((qft o pl).getD (dOff,(0,()))).1
noncomputable def qpt (o:Offs) (k pl n:Int):Offs×Int:=let x:=(qcw o k pl n).getD (dOff,(0,())); (x.1,x.2.1)
noncomputable def qqw (o:Offs) (k pl n:Int):Offs×Int:=let x:=(qaM o k pl n).getD (dOff,(0,())); (x.1,x.2.1)
noncomputable def ofAcc (o:Offs) (k pl n:Int):Offs×Int:=let x:=(qcL o k pl n).getD (dOff,(0,())); (x.1,x.2.1)
noncomputable def qwI (o:Offs) (n:Int):Offs:=((qeF o n).getD (dOff,(0,()))).1
noncomputable def lookC (cr:CRule) (c:Clk) (now:Int):Clk:=((qai cr c now).getD (dClk,(0,()))).1
theorem qqg (o:Offs) (pl:Int):∃e,qft o pl=some (ofMove o pl,(e,())):=by
  obtain⟨o',e,h⟩:=qx6 o pl;exact⟨e,by unfold ofMove;rw[h];rfl⟩
theorem qlc (o:Offs) (k pl n:Int):qcw o k pl n=some ((qpt o k pl n).1,((qpt o k pl n).2,())):=by
  obtain⟨o',e,h⟩:=qx5 o k pl n;unfold qpt;rw[h];rfl
theorem qlw (o:Offs) (k pl n:Int):qaM o k pl n=some ((qqw o k pl n).1,((qqw o k pl n).2,())):=by
  obtain⟨o',e,h⟩:=qtH o k pl n;unfold qqw;rw[h];rfl
theorem qsh (o:Offs) (k pl n:Int):qcL o k pl n=some ((ofAcc o k pl n).1,((ofAcc o k pl n).2,()))∧((ofAcc o k pl n).2=0→(k=0∨k=1)∧(pl=0∨pl=1)∧0≤n∧n≤400):=by
  obtain⟨o',e,h,h'⟩:=quL o k pl n;unfold ofAcc;rw[h];exact⟨rfl,h'⟩
theorem qpv (o:Offs) (n:Int):∃e,qeF o n=some (qwI o n,(e,())):=by
  obtain⟨o',e,h⟩:=qx0 o n;exact⟨e,by unfold qwI;rw[h];rfl⟩
theorem qjF (cr:CRule) (c:Clk) (now:Int) (hl:cr.1.length≤9223372036854775807):∃e,qai cr c now=some (lookC cr c now,(e,())):=by
  obtain⟨c',e,h,_⟩:=qlY cr c now hl;exact⟨e,by unfold lookC;rw[h];rfl⟩
noncomputable def moveM (r:Rules) (cr:CRule) (m:MS) (x:Mv) (now:Int):MS:={ m with g:=nextG r m.g x,c:=qhW cr m.c now,o:=ofMove m.o (par m.g.2.length) }
noncomputable def annM (r:Rules) (cr:CRule) (now:Int):Nat→MS→MS
  | 0,m=>m
  | k+1,m=>if qE r m.g.1=0∧m.g.2.length<400 then
      if (nextP r (lastP m.g.1) m.pm).2.1=true then annM r cr now k (moveM r cr { m with pm:=(nextP r (lastP m.g.1) m.pm).2.2.1 } (nextP r (lastP m.g.1) m.pm).1 now)
      else { m with pm:=(nextP r (lastP m.g.1) m.pm).2.2.1 }
    else m
noncomputable def qeN (r:Rules) (cr:CRule) (m:MS) (e:Ev):MS×Int :=
  if par m.g.2.length≠e.2.1 then(m,12) else if e.2.2.2.2.1∉openM r (lastP m.g.1) then(m,13) else if m.g.2.length=400 then(m,2)
  else(annM r cr e.2.2.2.1 (m.pm.length+1) (moveM r cr m e.2.2.2.2.1 e.2.2.2.1),0)
noncomputable def qei (m:MS) (e:Ev):MS×Int :=
  let x:=if e.1=3 then qqw m.o e.2.2.1 e.2.1 ((m.g.2.length:Nat):Int) else qpt m.o e.2.2.1 e.2.1 ((m.g.2.length:Nat):Int)
  if x.2=0 then({ m with o:=x.1 },0) else(m,x.2)
def backN:Nat→List Place×List Mv→List Place×List Mv
  | 0,s=>s
  | k+1,s=>backN k (backG s)
noncomputable def qa2 (m:MS) (e:Ev):MS×Int :=
  let x:=ofAcc m.o e.2.2.1 e.2.1 ((m.g.2.length:Nat):Int)
  if x.2≠0 then(m,x.2) else if e.2.2.1=0 then({ m with o:=x.1,res:=3,rea:=4 },0)
  else
    let g:=backN (qcU (1-e.2.1) ((m.g.2.length:Nat):Int)).toNat m.g
    ({ m with g:=g,o:=qwI x.1 ((g.2.length:Nat):Int),c:=(m.c.1,(m.c.2.1,(m.c.2.2.1,(par g.2.length,(e.2.2.2.1,m.c.2.2.2.2.2))))),pm:=[] },0)
def fallR (r:Rules) (p:Place) (pl:Int):Int:=if ableR r p (1-pl)=true then 2-pl else 3
noncomputable def qbU (r:Rules) (cr:CRule) (m:MS) (e:Ev):MS×Int :=
  if e.2.2.1=2 then
    if (lookC cr m.c e.2.2.2.1).2.2.2.2.2.2.1<0 then(m,10)
    else({ m with res:=fallR r (lastP m.g.1) (lookC cr m.c e.2.2.2.1).2.2.2.2.2.2.1,rea:=2,c:=lookC cr m.c e.2.2.2.1 },0)
  else if e.2.2.1≠0∧e.2.2.1≠1 then(m,1) else if par m.g.2.length≠e.2.1 then(m,12)
  else if e.2.2.1=0∧3≤qa8 m.g.1∨e.2.2.1=1∧20≤(lastP m.g.1).quiet then({ m with res:=3,rea:=5 },0) else(m,10)
def qaz (m:MS) (e:Ev):MS×Int :=
  if par m.g.2.length=e.2.1 then(m,12) else if (ofL m.pm e.2.1).length=4 then(m,9) else({ m with pm:=m.pm++[(e.2.1,(e.2.2.2.2.1,()))] },0)
noncomputable def kindM (r:Rules) (cr:CRule) (m:MS) (e:Ev):MS×Int :=
  if e.1=0 then qeN r cr m e else if e.1=1∨e.1=3 then qei m e else if e.1=2 then qa2 m e else if e.1=5 then qbU r cr m e
  else if e.1=6 then qaz m e else({ m with res:=2-e.2.1,rea:=3 },0)
def overM (r:Rules) (m:MS):MS:=if m.res=0∧qE r m.g.1≠0 then { m with res:=qE r m.g.1,rea:=1 } else m
noncomputable def doneM (r:Rules) (m:MS) (e:Ev):MS:=overM r { m with last:=e.2.2.2.1,j:=nextJ m.j (qb5 e) }
noncomputable def doM (r:Rules) (cr:CRule) (m:MS) (e:Ev):MS×Int :=
  if (e.1<0∨6<e.1)∨(e.2.1≠0∧e.2.1≠1) then(m,1) else if e.2.2.2.1<m.last∨100000000<e.2.2.2.1 then(m,11) else if m.res≠0 then(m,14)
  else if m.j.length=1000 then(m,9)
  else if (0≤(lookC cr m.c e.2.2.2.1).2.2.2.2.2.2.1∧e.1≠4)∧¬(e.1=5∧e.2.2.1=2) then(m,11)
  else if (kindM r cr m e).2≠0 then(m,(kindM r cr m e).2) else(doneM r (kindM r cr m e).1 e,0)
structure MOK (r:Rules) (cr:CRule) (m:MS):Prop where
  rng:Rng qaB r
  len:cr.1.length≤9223372036854775807
  g:RG r m.g
  cok:chkC cr=0
  clk:m.res=0→GoodC cr m.c m.last
  turn:m.res=0→m.c.2.2.2.1=par m.g.2.length
  opn:m.res=0→qE r m.g.1=0
  pm:pmErr m.pm=0
  few:m.pm.length≤8
  j:JOK m.j
structure MID (r:Rules) (cr:CRule) (m:MS) (now:Int):Prop where
  rng:Rng qaB r
  len:cr.1.length≤9223372036854775807
  g:RG r m.g
  clk:GoodC cr m.c now
  turn:m.c.2.2.2.1=par m.g.2.length
  pm:pmErr m.pm=0
  few:m.pm.length≤8
theorem qrN {r:Rules} {cr:CRule} {m:MS} {now:Int} (h:MID r cr m now) {x:Mv} (c:stepG r m.g x=0):qaK (tupM r cr m) x now=some (tupM r cr (moveM r cr m x now),()):=by
  obtain⟨e,he⟩:=qqg m.o (par m.g.2.length);obtain⟨hp,_⟩:=qnl h.len h.clk;have ht:=RG.turn m.g.2.length h.g rfl;unfold qaK tupM gm;simp only;rw[qaq h.g.ok,Option.bind_some,play_spec h.g.ok,Option.bind_some,if_pos c,hp,Option.bind_some];rw[show(lastP m.g.1).2.2.1=(lastP m.g.1).turn from rfl,ht,he,Option.bind_some];rfl
theorem qpn {r:Rules} {cr:CRule} {m:MS} {now:Int} (h:MID r cr m now) {x:Mv} (c:stepG r m.g x=0):MID r cr (moveM r cr m x now) now:=by
  obtain⟨_,p1,p2,p3⟩:=qnl h.len h.clk
  have hlen:(moveM r cr m x now).g.2.length=m.g.2.length+1:=by unfold moveM nextG;simp
  refine⟨h.rng,h.len,h.g.next c,p1,?_,h.pm,h.few⟩;show(qhW cr m.c now).2.2.2.1=_;rw[p2,h.turn,hlen,qw3]
theorem qjB (pl:Int):∀l:List PM,(ofL l pl).length=l.countP (fun x=>x.1==pl)
  | []=>rfl
  | x::l=>by
    have ih:=qjB pl l;unfold ofL at *;rw[List.flatMap_cons,List.length_append,ih,List.countP_cons];cases (x.1==pl)
    · simp
    · simp;omega
theorem qwK:∀l:List PM,l.length=l.countP (fun x=>x.1==0)+l.countP (fun x=>x.1==1)+l.countP odd1
  | []=>rfl
  | x::l=>by
    have ih:=qwK l;simp only[List.length_cons,List.countP_cons];rw[show odd1 x=((x.1 !=0)&&(x.1 !=1)) from rfl];by_cases h0:x.1=0
    · simp only[h0];simp;omega
    · by_cases h1:x.1=1
      · simp only[h1];simp;omega
      · simp[h0,h1];omega
theorem qtZ (l:List PM):pmErr l=0↔l.countP (fun x=>x.1==0)≤4∧l.countP (fun x=>x.1==1)≤4∧l.countP odd1=0:=by
  unfold pmErr;rw[qjB,qjB];constructor
  · intro h;split at h
    · cases h
    · rename_i c;split at h
      · cases h
      · rename_i d;refine⟨by omega,by omega,?_⟩;rw[List.countP_eq_zero];intro x hx q;exact d (List.any_eq_true.2 ⟨x,hx,q⟩)
  · rintro ⟨a,b,c⟩
    rw[if_neg (by omega),if_neg];intro d;obtain⟨x,hx,q⟩:=List.any_eq_true.1 d;exact(List.countP_eq_zero.1 c x hx) q
theorem pm_len {l:List PM} (h:pmErr l=0):l.length≤8:=by
  have:=(qtZ l).1 h;have:=qwK l;omega
theorem pm_sub {l l':List PM} (hs:l'.Sublist l) (h:pmErr l=0):pmErr l'=0:=by
  have h1:=(qtZ l).1 h;have a:=hs.countP_le (p:=fun x=>x.1==0);have b:=hs.countP_le (p:=fun x=>x.1==1);have c:=hs.countP_le (p:=odd1);exact(qtZ l').2 ⟨by omega,by omega,by omega⟩
theorem qst (r:Rules) (p:Place) (l:List PM):(nextP r p l).2.2.1.Sublist l:=by
  unfold nextP;split
  · unfold resN;split
    · show(l.take _++l.drop _).Sublist l;rw[←List.eraseIdx_eq_take_drop_succ];exact List.eraseIdx_sublist _ _
    · exact List.filter_sublist
  · exact List.filter_sublist
theorem qsR {r:Rules} {p:Place} {l:List PM} (h:(nextP r p l).2.1=true):(nextP r p l).1∈openM r p∧(nextP r p l).2.2.1.length+1=l.length:=by
  unfold nextP at *;split at h
  · rename_i c;rw[if_pos c];unfold resN at *;split at h
    · rename_i d;rw[if_pos d];refine⟨d,?_⟩;show(l.take _++l.drop _).length+1=_;rw[List.length_append,List.length_take,List.length_drop];omega
    · cases h
  · cases h
theorem qiD {r:Rules} {s:List Place×List Mv} {m:Mv} (hr:qE r s.1=0) (hm:m∈openM r (lastP s.1)) (hl:s.2.length<400):stepG r s m=0:=by
  unfold stepG;rw[if_pos hr,if_pos (openM_mem.1 hm).2,if_neg (by omega)]
def flatT (x:qiZ):ByteArray×Int×Int×(List (Int×Int×Int×(List (Int×Int×Int×Int×Unit))×Unit))×(List Int)×Bool×Bool×(List (Int×Int×Int×Bool×Unit))×Int×Int×Int×(List (Int×Int×Unit))×Int×Int×Game×(List Mv)×Int×Int×Int×Int×Int×Int×Int×Int×Int×Int×Bool×Int×Int×Int×Int×Int×Int×Int×(List PM)×Int×Jn×Unit :=
  (x.1.1,(x.1.2.1,(x.1.2.2.1,(x.1.2.2.2.1,(x.1.2.2.2.2.1,(x.1.2.2.2.2.2.1,(x.1.2.2.2.2.2.2.1,(x.1.2.2.2.2.2.2.2.1,(x.1.2.2.2.2.2.2.2.2.1,(x.1.2.2.2.2.2.2.2.2.2.1,(x.1.2.2.2.2.2.2.2.2.2.2.1,(x.2.1.1,(x.2.1.2.1,(x.2.1.2.2.1,((x.2.2.1.1,(x.2.2.1.2.1,(x.2.2.1.2.2.1,()))),(x.2.2.2.1.1,(x.2.2.2.1.2.1,(x.2.2.2.1.2.2.1,
  (x.2.2.2.1.2.2.2.1.1.1,(x.2.2.2.1.2.2.2.1.1.2.1,(x.2.2.2.1.2.2.2.1.2.1.1,(x.2.2.2.1.2.2.2.1.2.1.2.1,(x.2.2.2.1.2.2.2.1.2.2.1.1,(x.2.2.2.1.2.2.2.1.2.2.1.2.1,(x.2.2.2.1.2.2.2.1.2.2.2.1,(x.2.2.2.1.2.2.2.1.2.2.2.2.1,(x.2.2.2.1.2.2.2.1.2.2.2.2.2.1,(x.2.2.2.1.2.2.2.1.2.2.2.2.2.2.1,
  (x.2.2.2.1.2.2.2.2.1.1.1,(x.2.2.2.1.2.2.2.2.1.1.2.1,(x.2.2.2.1.2.2.2.2.1.2.1.1.1,(x.2.2.2.1.2.2.2.2.1.2.1.1.2.1,(x.2.2.2.1.2.2.2.2.1.2.1.2.1.1,(x.2.2.2.1.2.2.2.2.1.2.1.2.1.2.1,(x.2.2.2.1.2.2.2.2.2.1,x.2.2.2.2)))))))))))))))))))))))))))))))))))
def withP (x:qiZ) (l:List PM):qiZ:=(x.1,(x.2.1,(x.2.2.1,((x.2.2.2.1.1,(x.2.2.2.1.2.1,(x.2.2.2.1.2.2.1,(x.2.2.2.1.2.2.2.1,(x.2.2.2.1.2.2.2.2.1,(l,())))))),x.2.2.2.2))))
theorem dm_L1 (e:Ev) (x:qiZ):qaU e ((),(flatT x,()))=Option.bind (Option.bind (qaT x.2.2.1) fun a=>bif (a==(0:Int)) then(Option.bind (qx x.2.2.1) fun b=>some (((decide (((b.length:Nat):Int)<(400:Int))),()),())) else some ((false,()),())) fun b =>
    bif b.1.1 then(Option.bind (Option.bind (ql x.2.2.1) fun p=>Option.bind (qbw x.1 p x.2.2.2.1.2.2.2.2.2.1) fun y=>some ((y.1,(y.2.1,(y.2.2.1,()))),())) fun z=>bif (!z.1.2.1) then some (.inr ((),(flatT (withP x z.1.2.2.1),()))) else Option.bind (qaK (withP x z.1.2.2.1) z.1.1 e.2.2.2.1) fun w=>some (.inl ((),(flatT w.1,()))))
    else some (.inr ((),(flatT x,()))):=by
  unfold qaU;simp only[qK,agree_self];rfl

theorem mid_pm {r:Rules} {cr:CRule} {m:MS} {now:Int} (h:MID r cr m now) {l:List PM} (hs:l.Sublist m.pm):MID r cr { m with pm:=l } now :=
  ⟨h.rng,h.len,h.g,h.clk,h.turn,pm_sub hs h.pm,pm_len (pm_sub hs h.pm)⟩
theorem qtr {r:Rules} {cr:CRule} {now:Int} (e:Ev) (he:e.2.2.2.1=now):∀(k:Nat) (m:MS),MID r cr m now→m.pm.length<k →
    iterW (qaU e) ((),(flatT (tupM r cr m),()))=some ((),(flatT (tupM r cr (annM r cr now k m)),()))∧MID r cr (annM r cr now k m) now
  | 0,m,_,hk=>absurd hk (Nat.not_lt_zero _)
  | k+1,m,h,hk=>by
    have hL:=dm_L1 e (tupM r cr m);rw[show(tupM r cr m).2.2.1=(r,(m.g.1,(m.g.2,()))) from rfl,show(tupM r cr m).1=r from rfl,show(tupM r cr m).2.2.2.1.2.2.2.2.2.1=m.pm from rfl,qi7 h.g.ok,qbo h.g.ok,qaq h.g.ok] at hL;simp only[Option.bind_some] at hL;unfold annM;by_cases c0:qE r m.g.1=0
    · rw[c0] at hL;simp only[beq_self_eq_true,cond_true,Option.bind_some] at hL;by_cases c1:m.g.2.length<400
      · rw[show decide (((m.g.2.length:Nat):Int)<400)=true by simp;omega,cond_true,qx4 r _ h.rng h.g.ok.last h.g.ok.ok _ (by have:=h.few;omega),Option.bind_some] at hL;rw[if_neg (fun q=>q h.pm)] at hL;simp only[Option.bind_some] at hL;rw[if_pos ⟨c0,c1⟩];have hmid:=mid_pm h (qst r (lastP m.g.1) m.pm);by_cases c2:(nextP r (lastP m.g.1) m.pm).2.1=true
        · rw[c2,Bool.not_true,cond_false,he] at hL;obtain⟨n1,n2⟩:=qsR c2;have hst:stepG r m.g (nextP r (lastP m.g.1) m.pm).1=0:=qiD c0 n1 c1;have hmv:qaK (withP (tupM r cr m) (nextP r (lastP m.g.1) m.pm).2.2.1) (nextP r (lastP m.g.1) m.pm).1 now=_:=qrN hmid hst;rw[hmv,Option.bind_some] at hL;rw[if_pos c2];have ih:=qtr e he k _ (qpn hmid hst) (by show(nextP r (lastP m.g.1) m.pm).2.2.1.length<k;omega);rw[qn hL];exact ih
        · have c3:(nextP r (lastP m.g.1) m.pm).2.1=false:=by simpa using c2
          rw[c3,Bool.not_false,cond_true] at hL;rw[if_neg c2];exact⟨qk hL,hmid⟩
      · rw[show decide (((m.g.2.length:Nat):Int)<400)=false by simp;omega,cond_false] at hL;rw[if_neg (fun q=>c1 q.2)];exact⟨qk hL,h⟩
    · rw[beq_f c0,cond_false,Option.bind_some,cond_false] at hL;rw[if_neg (fun q=>c0 q.1)];exact⟨qk hL,h⟩
def unflat (y:ByteArray×Int×Int×(List (Int×Int×Int×(List (Int×Int×Int×Int×Unit))×Unit))×(List Int)×Bool×Bool×(List (Int×Int×Int×Bool×Unit))×Int×Int×Int×(List (Int×Int×Unit))×Int×Int×Game×(List Mv)×Int×Int×Int×Int×Int×Int×Int×Int×Int×Int×Bool×Int×Int×Int×Int×Int×Int×Int×(List PM)×Int×Jn×Unit):qiZ:=((y.1,(y.2.1,(y.2.2.1,(y.2.2.2.1,(y.2.2.2.2.1,(y.2.2.2.2.2.1,(y.2.2.2.2.2.2.1,(y.2.2.2.2.2.2.2.1,(y.2.2.2.2.2.2.2.2.1,(y.2.2.2.2.2.2.2.2.2.1,(y.2.2.2.2.2.2.2.2.2.2.1,()))))))))))),((y.2.2.2.2.2.2.2.2.2.2.2.1,(y.2.2.2.2.2.2.2.2.2.2.2.2.1,(y.2.2.2.2.2.2.2.2.2.2.2.2.2.1,()))),((y.2.2.2.2.2.2.2.2.2.2.2.2.2.2.1.1,(y.2.2.2.2.2.2.2.2.2.2.2.2.2.2.1.2.1,(y.2.2.2.2.2.2.2.2.2.2.2.2.2.2.1.2.2.1,()))),((y.2.2.2.2.2.2.2.2.2.2.2.2.2.2.2.1,(y.2.2.2.2.2.2.2.2.2.2.2.2.2.2.2.2.1,(y.2.2.2.2.2.2.2.2.2.2.2.2.2.2.2.2.2.1,(((y.2.2.2.2.2.2.2.2.2.2.2.2.2.2.2.2.2.2.1,(y.2.2.2.2.2.2.2.2.2.2.2.2.2.2.2.2.2.2.2.1,())),((y.2.2.2.2.2.2.2.2.2.2.2.2.2.2.2.2.2.2.2.2.1,(y.2.2.2.2.2.2.2.2.2.2.2.2.2.2.2.2.2.2.2.2.2.1,())),((y.2.2.2.2.2.2.2.2.2.2.2.2.2.2.2.2.2.2.2.2.2.2.1,(y.2.2.2.2.2.2.2.2.2.2.2.2.2.2.2.2.2.2.2.2.2.2.2.1,())),(y.2.2.2.2.2.2.2.2.2.2.2.2.2.2.2.2.2.2.2.2.2.2.2.2.1,(y.2.2.2.2.2.2.2.2.2.2.2.2.2.2.2.2.2.2.2.2.2.2.2.2.2.1,(y.2.2.2.2.2.2.2.2.2.2.2.2.2.2.2.2.2.2.2.2.2.2.2.2.2.2.1,(y.2.2.2.2.2.2.2.2.2.2.2.2.2.2.2.2.2.2.2.2.2.2.2.2.2.2.2.1,()))))))),(((y.2.2.2.2.2.2.2.2.2.2.2.2.2.2.2.2.2.2.2.2.2.2.2.2.2.2.2.2.1,(y.2.2.2.2.2.2.2.2.2.2.2.2.2.2.2.2.2.2.2.2.2.2.2.2.2.2.2.2.2.1,())),(((y.2.2.2.2.2.2.2.2.2.2.2.2.2.2.2.2.2.2.2.2.2.2.2.2.2.2.2.2.2.2.1,(y.2.2.2.2.2.2.2.2.2.2.2.2.2.2.2.2.2.2.2.2.2.2.2.2.2.2.2.2.2.2.2.1,())),((y.2.2.2.2.2.2.2.2.2.2.2.2.2.2.2.2.2.2.2.2.2.2.2.2.2.2.2.2.2.2.2.2.1,(y.2.2.2.2.2.2.2.2.2.2.2.2.2.2.2.2.2.2.2.2.2.2.2.2.2.2.2.2.2.2.2.2.2.1,())),())),())),(y.2.2.2.2.2.2.2.2.2.2.2.2.2.2.2.2.2.2.2.2.2.2.2.2.2.2.2.2.2.2.2.2.2.2.1,())))))),y.2.2.2.2.2.2.2.2.2.2.2.2.2.2.2.2.2.2.2.2.2.2.2.2.2.2.2.2.2.2.2.2.2.2.2))))
structure SpecK (r:Rules) (cr:CRule) (m:MS) (now:Int) (x:MS×Int) (y:Option (qiZ×Int)):Prop where
  val:y=some (tupM r cr x.1,x.2)
  err:x.2≠0→x.1=m
  mid:x.2=0→x.1.res=0→MID r cr x.1 now
  g:RG r x.1.g
  pm:pmErr x.1.pm=0
  kept:x.1.last=m.last∧x.1.j=m.j
theorem SpecK.same {r:Rules} {cr:CRule} {m:MS} {now:Int} (h:MID r cr m now) {k:Int} (hk:k≠0) {y:Option (qiZ×Int)} (hy:y=some (tupM r cr m,k)):SpecK r cr m now (m,k) y :=
  ⟨hy,fun _=>rfl,fun c=>absurd c hk,h.g,h.pm,⟨rfl,rfl⟩⟩
theorem SpecK.done {r:Rules} {cr:CRule} {m m':MS} {now:Int} (h:MID r cr m' now) (h1:m'.last=m.last) (h2:m'.j=m.j) {y:Option (qiZ×Int)} (hy:y=some (tupM r cr m',0)):SpecK r cr m now (m',0) y :=
  ⟨hy,fun c=>absurd rfl c,fun _ _=>h,h.g,h.pm,⟨h1,h2⟩⟩
theorem qtg {r:Rules} {cr:CRule} {now:Int}:∀(k:Nat) (m:MS),(annM r cr now k m).last=m.last∧(annM r cr now k m).j=m.j
  | 0,m=>⟨rfl,rfl⟩
  | k+1,m=>by
    unfold annM;split
    · split
      · exact qtg k _
      · exact⟨rfl,rfl⟩
    · exact⟨rfl,rfl⟩
theorem bneI (a b:Int):(a !=b)=decide (a≠b):=by
  by_cases h:a=b
  · rw[bne_f h,decide_eq_false (fun q=>q h)]
  · rw[bne_t h,decide_eq_true h]
theorem dm_eq (x:qiZ) (e:Ev):qaZ x e=Option.bind (ql x.2.2.1) fun p=>bif (p.2.2.1 !=e.2.1) then some (x,12) else Option.bind (qg3 x.1 p) fun l=>Option.bind (qt l e.2.2.2.2.1) fun b=>bif (!b) then some (x,13) else
    Option.bind (qx x.2.2.1) fun q=>bif (((q.length:Nat):Int)==(400:Int)) then some (x,2) else Option.bind (qaK x e.2.2.2.2.1 e.2.2.2.1) fun w=>Option.bind (iterW (qaU e) ((),(flatT w.1,()))) fun y=>some (unflat y.2.1,0):=by
  unfold qaZ;simp only[qK,agree_self]
  cases ql x.2.2.1 with
  | none=>rfl
  | some p=>rfl
theorem qvV {r:Rules} {cr:CRule} {m:MS} {e:Ev} (h:MID r cr m e.2.2.2.1) (h0:qE r m.g.1=0):SpecK r cr m e.2.2.2.1 (qeN r cr m e) (qaZ (tupM r cr m) e):=by
  have ht:=RG.turn m.g.2.length h.g rfl;have hv:=h.g.ok.last;rw[dm_eq,show(tupM r cr m).2.2.1=(r,(m.g.1,(m.g.2,()))) from rfl,show(tupM r cr m).1=r from rfl,qaq h.g.ok,qbo h.g.ok];simp only[Option.bind_some];rw[show(lastP m.g.1).2.2.1=(lastP m.g.1).turn from rfl,ht,qsi hv];simp only[Option.bind_some];rw[qfe _ _ (by have:=qu3 hv;omega)];simp only[Option.bind_some];unfold qeN;by_cases c1:par m.g.2.length=e.2.1
  rotate_left
  · rw[if_pos c1,bne_t c1,cond_true];exact SpecK.same h (by decide) rfl
  rw[if_neg (fun q=>q c1),bne_f c1,cond_false];by_cases c2:e.2.2.2.2.1∈openM r (lastP m.g.1)
  rotate_left
  · rw[if_pos c2,decide_eq_false c2,Bool.not_false,cond_true];exact SpecK.same h (by decide) rfl
  rw[if_neg (fun q=>q c2),decide_eq_true c2,Bool.not_true,cond_false];by_cases c3:m.g.2.length=400
  · rw[if_pos c3,c3];exact SpecK.same h (by decide) rfl
  rw[if_neg c3,beq_f (show ¬((m.g.2.length:Nat):Int)=400 by omega),cond_false];have hst:stepG r m.g e.2.2.2.2.1=0:=qiD h0 c2 (by have:=h.g.ok.most;omega);rw[qrN h hst,Option.bind_some];obtain⟨l1,l2⟩:=qtr e rfl (m.pm.length+1) _ (qpn h hst) (by show m.pm.length<m.pm.length+1;omega);rw[l1,Option.bind_some];obtain⟨k1,k2⟩:=qtg (r:=r) (cr:=cr) (now:=e.2.2.2.1) (m.pm.length+1) (moveM r cr m e.2.2.2.2.1 e.2.2.2.1);exact SpecK.done (m:=m) l2 k1 k2 rfl
theorem qt9 {r:Rules} {cr:CRule} {m:MS} {e:Ev} (h:MID r cr m e.2.2.2.1):SpecK r cr m e.2.2.2.1 (qei m e) (qaP (tupM r cr m) e):=by
  have hy:qaP (tupM r cr m) e=Option.bind (bif (e.1==(3:Int)) then qaM m.o e.2.2.1 e.2.1 ((m.g.2.length:Nat):Int) else qcw m.o e.2.2.1 e.2.1 ((m.g.2.length:Nat):Int)) fun x=>bif (x.2.1==(0:Int)) then some (tupM r cr { m with o:=x.1 },x.2.1) else some (tupM r cr m,x.2.1):=by
    unfold qaP;simp only[qp,qo,qi,qh,qK,agree_self,show(tupM r cr m).2.2.1.1=r from rfl,show(tupM r cr m).2.2.1.2.1=m.g.1 from rfl,show(tupM r cr m).2.2.1.2.2.1=m.g.2 from rfl,qbo h.g.ok,Option.bind_some];rw[show(tupM r cr m).2.2.2.1.2.2.2.2.1=m.o from rfl];simp only[qlw,qlc,Option.bind_some,qK,agree_self];cases (e.1==(3:Int))
    · simp only[cond_false,Option.bind_some]
      cases ((qpt m.o e.2.2.1 e.2.1 ((m.g.2.length:Nat):Int)).2==(0:Int))<;>rfl
    · simp only[cond_true,Option.bind_some]
      cases ((qqw m.o e.2.2.1 e.2.1 ((m.g.2.length:Nat):Int)).2==(0:Int))<;>rfl
  rw[hy];unfold qei;by_cases c:e.1=3
  · rw[beq_t c,cond_true,if_pos c,qlw,Option.bind_some];simp only;by_cases c1:(qqw m.o e.2.2.1 e.2.1 ((m.g.2.length:Nat):Int)).2=0
    · rw[if_pos c1,beq_t c1,cond_true,c1];refine SpecK.done (m:=m) ?_ (by rfl) (by rfl) (by rfl);exact⟨h.rng,h.len,h.g,h.clk,h.turn,h.pm,h.few⟩
    · rw[if_neg c1,beq_f c1,cond_false];exact SpecK.same h c1 rfl
  · rw[beq_f c,cond_false,if_neg c,qlc,Option.bind_some];simp only;by_cases c1:(qpt m.o e.2.2.1 e.2.1 ((m.g.2.length:Nat):Int)).2=0
    · rw[if_pos c1,beq_t c1,cond_true,c1];refine SpecK.done (m:=m) ?_ (by rfl) (by rfl) (by rfl);exact⟨h.rng,h.len,h.g,h.clk,h.turn,h.pm,h.few⟩
    · rw[if_neg c1,beq_f c1,cond_false];exact SpecK.same h c1 rfl
theorem da_L1 (z:(Int×Int×Unit)×Unit) (i:Int) (g:Game):qb3 z ((i,()),(flG g,()))=bif decide (i<z.1.1) then Option.bind (qdF g) fun w=>some (.inl ((w64 (i+1),()),(flG w.1,()))) else some (.inr ((),(flG g,()))):=rfl
theorem quM {r:Rules} (z:(Int×Int×Unit)×Unit) (n:Nat) (hz:z.1.1=(n:Int)) (hn:n≤1000000):∀(k i:Nat) (s:List Place×List Mv),i+k=n→RG r s→k≤s.2.length →
    iterW (qb3 z) (((i:Int),()),(flG (gm r s),()))=some ((),(flG (gm r (backN k s)),()))∧RG r (backN k s)
  | 0,i,s,hi,h,hk=>by
    refine⟨qk ?_,h⟩;rw[da_L1,hz,decide_eq_false (by omega),cond_false];rfl
  | k+1,i,s,hi,h,hk=>by
    have ih:=quM z n hz hn k (i+1) (backG s) (by omega) (h.back (by omega)) (by rw[qmJ];omega);have hL:=da_L1 z (i:Int) (gm r s);rw[hz,decide_eq_true (by omega),cond_true,show gm r s=(r,(s.1,(s.2,()))) from rfl,back_spec h.ok,if_neg (by omega),Option.bind_some,qg (by omega) (by omega)] at hL;rw[show gm r s=(r,(s.1,(s.2,()))) from rfl,qn hL];exact ih
theorem qqp (pl:Int) (n:Nat):0≤qcU pl (n:Int)∧qcU pl (n:Int)≤2∧(qcU pl (n:Int)).toNat≤n:=by
  unfold qcU;generalize (if (0:Int)>(n:Int) then(0:Int) else(n:Int)).tmod 2=t;by_cases c:(if t=pl then(2:Int) else 1)>(n:Int)∨pl≠0∧pl≠1
  · rw[if_pos c];simp
  · rw[if_neg c];have:¬(if t=pl then(2:Int) else 1)>(n:Int):=fun q=>c (.inl q)
    split at this<;>rename_i q
    · rw[if_pos q];omega
    · rw[if_neg q];omega
theorem qm5:∀(k:Nat) (s:List Place×List Mv),(backN k s).2.length=s.2.length-k
  | 0,s=>rfl
  | k+1,s=>by
    show(backN k (backG s)).2.length=_;rw[qm5 k,qmJ];omega
theorem qnV {r:Rules}:∀(k:Nat) {s:List Place×List Mv},RG r s→k≤s.2.length→qE r s.1=0→qE r (backN k s).1=0
  | 0,s,h,hk,h0=>h0
  | k+1,s,h,hk,h0=>qnV k (h.back (by omega)) (by rw[qmJ];omega) (h.back_open (by omega))
theorem qtm {r:Rules} {cr:CRule} {m:MS} {e:Ev} (h:MID r cr m e.2.2.2.1) (h0:qE r m.g.1=0):SpecK r cr m e.2.2.2.1 (qa2 m e) (qa0 (tupM r cr m) e):=by
  obtain⟨a1,a2⟩:=qsh m.o e.2.2.1 e.2.1 ((m.g.2.length:Nat):Int);unfold qa0;simp only[qK,agree_self,show(tupM r cr m).2.2.1.1=r from rfl,show(tupM r cr m).2.2.1.2.1=m.g.1 from rfl,show(tupM r cr m).2.2.1.2.2.1=m.g.2 from rfl,qbo h.g.ok,Option.bind_some];rw[show(tupM r cr m).2.2.2.1.2.2.2.2.1=m.o from rfl];simp only[a1,qn7,Option.bind_some,qK,agree_self];unfold qa2;simp only;by_cases c1:(ofAcc m.o e.2.2.1 e.2.1 ((m.g.2.length:Nat):Int)).2=0
  rotate_left
  · rw[if_pos c1,bne_t c1,cond_true];exact SpecK.same h c1 rfl
  rw[if_neg (fun q=>q c1),bne_f c1,cond_false];by_cases c2:e.2.2.1=0
  · rw[if_pos c2,beq_t c2,cond_true];exact⟨rfl,fun q=>absurd rfl q,fun _ q=>(by cases q),h.g,h.pm,⟨rfl,rfl⟩⟩
  rw[if_neg c2,beq_f c2,cond_false];have hpl:w64 (1-e.2.1)=1-e.2.1:=qg (by have:=(a2 c1).2.1;omega) (by have:=(a2 c1).2.1;omega);rw[hpl];obtain⟨p0,p1,p2⟩:=qqp (1-e.2.1) m.g.2.length;obtain⟨l1,l2⟩:=quM (r:=r) ((qcU (1-e.2.1) ((m.g.2.length:Nat):Int),((0:Int),())),()) (qcU (1-e.2.1) ((m.g.2.length:Nat):Int)).toNat (by simp only;omega) (by omega) _ 0 m.g (Nat.zero_add _) h.g p2;have hbl:=qm5 (qcU (1-e.2.1) ((m.g.2.length:Nat):Int)).toNat m.g;have hbo:=qnV (qcU (1-e.2.1) ((m.g.2.length:Nat):Int)).toNat h.g p2 h0;generalize (backN (qcU (1-e.2.1) ((m.g.2.length:Nat):Int)).toNat m.g)=G at *;have ht:=RG.turn G.2.length l2 rfl;obtain⟨f,hf⟩:=qpv (ofAcc m.o e.2.2.1 e.2.1 ((m.g.2.length:Nat):Int)).1 ((G.2.length:Nat):Int)
  have hc:GoodC cr (m.c.1,(m.c.2.1,(m.c.2.2.1,(par G.2.length,(e.2.2.2.1,m.c.2.2.2.2.2))))) e.2.2.2.1:=by
    have hk:=h.clk;have hv:=hk.v;have hs:=hv.since;have:=hk.now0;have hp:=par_rng G.2.length;have hd:=(qhJ hk.ok).del;have hv':VC cr (m.c.1,(m.c.2.1,(m.c.2.2.1,(par G.2.length,(e.2.2.2.1,m.c.2.2.2.2.2))))):=⟨hp,hv.fallen,⟨by show 0≤e.2.2.2.1;omega,hk.now1⟩,hv.p0,hv.p1,hv.m0,hv.m1,hv.l0,hv.l1⟩;refine⟨hk.ok,hv',Int.le_refl _,hk.now1,hk.up,hk.run,?_⟩;have hn:=left_nn hv';show max 0 (e.2.2.2.1-e.2.2.2.1-cr.2.2.1)≤_;omega
  refine SpecK.done (m:=m) (m':={ m with g:=G,o:=qwI (ofAcc m.o e.2.2.1 e.2.1 ((m.g.2.length:Nat):Int)).1 ((G.2.length:Nat):Int),c:=(m.c.1,(m.c.2.1,(m.c.2.2.1,(par G.2.length,(e.2.2.2.1,m.c.2.2.2.2.2))))),pm:=[] }) ⟨h.rng,h.len,l2,hc,rfl,rfl,Nat.zero_le _⟩ rfl rfl ?_;refine(congrArg (fun z=>Option.bind z _) l1).trans ?_;rw[Option.bind_some];simp only[flG,gm];rw[qbo l2.ok,Option.bind_some,hf];simp only[Option.bind_some];rw[qaq l2.ok,Option.bind_some];simp only[Option.bind_some];rw[show(lastP G.1).2.2.1=(lastP G.1).turn from rfl,ht];rfl
theorem qw8 {cr:CRule} {c:Clk} {last now:Int} (hl:cr.1.length≤9223372036854775807) (h:GoodC cr c last):(lookC cr c now).2.2.2.2.2.2.1≤1:=by
  obtain⟨e,he⟩:=qjF cr c now hl;have hv:=h.v;have hu:=h.up;have h2:=he;unfold qai at he;rw[qhF cr c hl,Option.bind_some,if_pos h.ok,if_pos ((qtE cr c).2 hv)] at he;simp only[show((0:Int)!=0)=false from rfl,cond_false] at he;by_cases c1:qf now c.2.2.2.2.1 100000000=true
  · rw[c1,Bool.not_true,cond_false,hu] at he;simp only[show decide ((-1:Int)<0)=true from rfl,Bool.true_and,imp,cond_true] at he;rw[inb_iff.2 (by have:=hv.turn;omega),qb] at he;cases q:decide (qB cr c now>getD' [c.1.1,c.1.2.1] c.2.2.2.1.toNat 0)
    · rw[q] at he;simp only[cond_false,Option.bind_some,Option.some.injEq,Prod.mk.injEq] at he;rw[←he.1];show c.2.2.2.2.2.2.1≤1;omega
    · rw[q] at he;simp only[cond_true,Option.bind_some,qb,Option.some.injEq,Prod.mk.injEq] at he;rw[←he.1];exact hv.turn.2
  · rw[show qf now c.2.2.2.2.1 100000000=false by simpa using c1,Bool.not_false,cond_true] at he;simp only[Option.some.injEq,Prod.mk.injEq] at he;rw[←he.1];show(0:Int)≤1;omega
theorem fall_spec {r:Rules} {p:Place} (hr:Rng qaB r) (c:qam r=0) (hv:Valid r p) {pl:Int} (hpl:pl=0∨pl=1):qhy r p pl=some (fallR r p pl,(0,())):=by
  have hn:p.1.length≤9223372036854775807:=by have:=qbD hv;omega
  have w1:w64 ((1:Int)-pl)=1-pl:=qg (by omega) (by omega);have w2:w64 ((2:Int)-pl)=2-pl:=qg (by omega) (by omega)
  have cp':1-pl=0∨1-pl=1:=by omega
  unfold qhy fallR;rw[w1,w2,qrx r p pl hr hn,qrx r p _ hr hn,qlM c hv];simp only[if_true,if_pos hpl,if_pos cp',Option.bind_some,bne_self_eq_false,cond_false]
  cases ableR r p (1-pl)<;>rfl
theorem qtK {r:Rules} {cr:CRule} {m:MS} {e:Ev} {last:Int} (hr:Rng qaB r) (hl:cr.1.length≤9223372036854775807) (hg:RG r m.g) (hk:GoodC cr m.c last) (hpm:pmErr m.pm=0)
    (hm:¬(e.2.2.1=2)→MID r cr m e.2.2.2.1):SpecK r cr m e.2.2.2.1 (qbU r cr m e) (qbl (tupM r cr m) e):=by
  have ht:=RG.turn m.g.2.length hg rfl;obtain⟨le,hle⟩:=qjF cr m.c e.2.2.2.1 hl;unfold qbl qbU;by_cases c1:e.2.2.1=2
  · rw[if_pos c1,beq_t c1,cond_true];simp only[show(tupM r cr m).2.1=cr from rfl,show(tupM r cr m).2.2.2.1.2.2.2.1=m.c from rfl];rw[hle,Option.bind_some];simp only;by_cases c2:(lookC cr m.c e.2.2.2.1).2.2.2.2.2.2.1<0
    · rw[if_pos c2,decide_eq_true c2,cond_true];exact⟨rfl,fun _=>rfl,fun q=>(by cases q),hg,hpm,⟨rfl,rfl⟩⟩
    · rw[if_neg c2,decide_eq_false c2,cond_false];have hf:=qw8 (now:=e.2.2.2.1) hl hk;simp only[show(tupM r cr m).2.2.1.1=r from rfl,show(tupM r cr m).2.2.1.2.1=m.g.1 from rfl,show(tupM r cr m).2.2.1.2.2.1=m.g.2 from rfl,show(tupM r cr m).1=r from rfl];rw[qaq hg.ok,Option.bind_some];have hfs:=fall_spec (pl:=(lookC cr m.c e.2.2.2.1).2.2.2.2.2.2.1) hr hg.ok.ok hg.ok.last (by omega);rw[pl_eta,hfs,Option.bind_some];refine⟨rfl,fun q=>absurd rfl q,fun _ q=>?_,hg,hpm,⟨rfl,rfl⟩⟩;exfalso;have q':fallR r (lastP m.g.1) (lookC cr m.c e.2.2.2.1).2.2.2.2.2.2.1=0:=q;unfold fallR at q'
      split at q'<;>omega
  · have h:=hm c1;rw[if_neg c1,beq_f c1,cond_false];simp only[qK,agree_self,show(tupM r cr m).2.2.1.1=r from rfl,show(tupM r cr m).2.2.1.2.1=m.g.1 from rfl,show(tupM r cr m).2.2.1.2.2.1=m.g.2 from rfl,qpN hg.ok,qaq hg.ok,Option.bind_some];rw[show(lastP m.g.1).2.2.1=(lastP m.g.1).turn from rfl,ht];have fin:∀b:Bool,(b=true↔(e.2.2.1=0∧3≤qa8 m.g.1∨e.2.2.1=1∧20≤(lastP m.g.1).quiet))→(e.2.2.1=0∨e.2.2.1=1)→SpecK r cr m e.2.2.2.1
        (if e.2.2.1≠0∧e.2.2.1≠1 then(m,1) else if par m.g.2.length≠e.2.1 then(m,12) else if e.2.2.1=0∧3≤qa8 m.g.1∨e.2.2.1=1∧20≤(lastP m.g.1).quiet then({ m with res:=3,rea:=5 },0) else(m,10))
        (bif (par m.g.2.length !=e.2.1) then some (tupM r cr m,(12:Int)) else bif (!b) then some (tupM r cr m,10) else some (tupM r cr { m with res:=3,rea:=5 },0)):=by
      intro b hb hn;rw[if_neg (by omega)];by_cases c2:par m.g.2.length=e.2.1
      rotate_left
      · rw[if_pos c2,bne_t c2,cond_true];exact SpecK.same h (by decide) rfl
      rw[if_neg (fun q=>q c2),bne_f c2,cond_false];cases b
      · rw[if_neg (fun q=>by cases hb.2 q)];exact SpecK.same h (by decide) rfl
      · rw[if_pos (hb.1 rfl)];exact⟨rfl,fun q=>absurd rfl q,fun _ q=>(by cases q),h.g,h.pm,⟨rfl,rfl⟩⟩
    by_cases d0:e.2.2.1=0
    · have:=fin (decide (3≤qa8 m.g.1)) (by rw[decide_eq_true_eq];omega) (.inl d0);simp only[d0,beq_self_eq_true,gopt,cond_true,Option.bind_some,Bool.true_and];simp only[d0] at this;rw[show decide (((qa8 m.g.1:Nat):Int)≥3)=decide (3≤qa8 m.g.1) from by congr 1;apply propext;omega];cases hb:decide (3≤qa8 m.g.1)
      · rw[hb] at this;exact this
      · rw[hb] at this;exact this
    by_cases d1:e.2.2.1=1
    · have:=fin (decide (20≤(lastP m.g.1).quiet)) (by rw[decide_eq_true_eq];omega) (.inr d1);simp only[d1] at this;simp only[d1,show((1:Int)==0)=false from rfl,gopt,cond_false,Option.bind_some,Bool.false_and,beq_self_eq_true,cond_true];exact this
    · rw[if_pos ⟨d0,d1⟩];simp only[beq_f d0,beq_f d1,gopt,cond_false,Option.bind_some,Bool.false_and,bne_t d0,bne_t d1,Bool.and_self,cond_true];exact SpecK.same h (by decide) rfl
theorem pm_add {l:List PM} (h:pmErr l=0) {pl:Int} (hpl:pl=0∨pl=1) (h4:(ofL l pl).length≠4) (x:Mv):pmErr (l++[(pl,(x,()))])=0:=by
  obtain⟨a,b,c⟩:=(qtZ l).1 h;rw[qjB] at h4;rw[qtZ];simp only[List.countP_append,List.countP_singleton];rcases hpl with rfl | rfl
  · exact⟨by show _+1≤4;omega,by show _+0≤4;omega,by show _+0=0;omega⟩
  · exact⟨by show _+0≤4;omega,by show _+1≤4;omega,by show _+0=0;omega⟩
theorem qrg {r:Rules} {cr:CRule} {m:MS} {e:Ev} (h:MID r cr m e.2.2.2.1) (hp:e.2.1=0∨e.2.1=1):SpecK r cr m e.2.2.2.1 (qaz m e) (qaR (tupM r cr m) e):=by
  have ht:=RG.turn m.g.2.length h.g rfl;unfold qaR qaz;simp only[qK,agree_self,show(tupM r cr m).2.2.1.1=r from rfl,show(tupM r cr m).2.2.1.2.1=m.g.1 from rfl,show(tupM r cr m).2.2.1.2.2.1=m.g.2 from rfl,qaq h.g.ok,Option.bind_some];rw[show(lastP m.g.1).2.2.1=(lastP m.g.1).turn from rfl,ht];by_cases c1:par m.g.2.length=e.2.1
  · rw[if_pos c1,beq_t c1,cond_true];exact SpecK.same h (by decide) rfl
  rw[if_neg c1,beq_f c1,cond_false,show(tupM r cr m).2.2.2.1.2.2.2.2.2.1=m.pm from rfl,addP_spec m.pm (by have:=h.few;omega),if_neg (show ¬(pmErr m.pm≠0) from fun q=>q h.pm),if_neg (show ¬(e.2.1≠0∧e.2.1≠1) by omega),Option.bind_some];by_cases c2:(ofL m.pm e.2.1).length=4
  · rw[if_pos c2,if_pos c2];exact SpecK.same h (by decide) rfl
  · rw[if_neg c2,if_neg c2];have hq:=pm_add h.pm hp c2 e.2.2.2.2.1;refine SpecK.done (m:=m) ?_ (by rfl) (by rfl) (by rfl);exact⟨h.rng,h.len,h.g,h.clk,h.turn,hq,pm_len hq⟩
theorem qup {r:Rules} {cr:CRule} {m:MS} {e:Ev} {last:Int} (hr:Rng qaB r) (hl:cr.1.length≤9223372036854775807) (hg:RG r m.g) (hk:GoodC cr m.c last) (hpm:pmErr m.pm=0) (hp:e.2.1=0∨e.2.1=1) (h0:qE r m.g.1=0)
    (h6:0≤e.1∧e.1≤6) (hm:¬(e.1=4∨e.1=5∧e.2.2.1=2)→MID r cr m e.2.2.2.1):SpecK r cr m e.2.2.2.1 (kindM r cr m e) (qct (tupM r cr m) e):=by
  have hy:qct (tupM r cr m) e=if e.1=0 then qaZ (tupM r cr m) e else if e.1=1∨e.1=3 then qaP (tupM r cr m) e else if e.1=2 then qa0 (tupM r cr m) e else if e.1=5 then qbl (tupM r cr m) e
      else if e.1=6 then qaR (tupM r cr m) e else some (tupM r cr { m with res:=2-e.2.1,rea:=3 },0):=by
    have w:w64 (2-e.2.1)=2-e.2.1:=qg (by omega) (by omega)
    have et:∀y:Option (qiZ×Int),(Option.bind y fun r6=>some ((r6.1.1,(r6.1.2.1,((r6.1.2.2.1.1,(r6.1.2.2.1.2.1,(r6.1.2.2.1.2.2.1,()))),r6.1.2.2.2))),r6.2))=y:=fun y=>by cases y<;>rfl
    unfold qct;by_cases c0:e.1=0
    · rw[if_pos c0,beq_t c0,cond_true];exact et _
    rw[if_neg c0,beq_f c0,cond_false];by_cases c1:e.1=1
    · rw[if_pos (.inl c1),beq_t c1];exact et _
    rw[beq_f c1,cond_false];by_cases c3:e.1=3
    · rw[if_pos (.inr c3),beq_t c3];exact et _
    rw[if_neg (by omega),beq_f c3,Option.bind_some];simp only[cond_false];by_cases c2:e.1=2
    · rw[if_pos c2,beq_t c2,cond_true];exact et _
    rw[if_neg c2,beq_f c2,cond_false];by_cases c5:e.1=5
    · rw[if_pos c5,beq_t c5,cond_true];exact et _
    rw[if_neg c5,beq_f c5,cond_false];by_cases c6:e.1=6
    · rw[if_pos c6,beq_t c6,cond_true];exact et _
    rw[if_neg c6,beq_f c6,cond_false,w];rfl
  rw[hy];unfold kindM;by_cases c0:e.1=0
  · rw[if_pos c0,if_pos c0];exact qvV (hm (by omega)) h0
  rw[if_neg c0,if_neg c0];by_cases c1:e.1=1∨e.1=3
  · rw[if_pos c1,if_pos c1];exact qt9 (hm (by omega))
  rw[if_neg c1,if_neg c1];by_cases c2:e.1=2
  · rw[if_pos c2,if_pos c2];exact qtm (hm (by omega)) h0
  rw[if_neg c2,if_neg c2];by_cases c5:e.1=5
  · rw[if_pos c5,if_pos c5];exact qtK hr hl hg hk hpm (fun q=>hm (by omega))
  rw[if_neg c5,if_neg c5];by_cases c6:e.1=6
  · rw[if_pos c6,if_pos c6];exact qrg (hm (by omega)) hp
  rw[if_neg c6,if_neg c6];exact⟨rfl,fun q=>absurd rfl q,fun _ q=>absurd q (by show ¬(2-e.2.1=0);omega),hg,hpm,⟨rfl,rfl⟩⟩
theorem qvb {r:Rules} {cr:CRule} {m:MS} (hg:RG r m.g):qao (tupM r cr m)=some (tupM r cr (overM r m),()):=by
  unfold qao overM;simp only[show(tupM r cr m).2.2.1.1=r from rfl,show(tupM r cr m).2.2.1.2.1=m.g.1 from rfl,show(tupM r cr m).2.2.1.2.2.1=m.g.2 from rfl,qi7 hg.ok,Option.bind_some,show(tupM r cr m).2.2.2.1.2.1=m.res from rfl];by_cases c:m.res=0
  · by_cases d:qE r m.g.1=0
    · rw[if_neg (fun q=>q.2 d),beq_t c,bne_f d];rfl
    · rw[if_pos ⟨c,d⟩,beq_t c,bne_t d];rfl
  · rw[if_neg (fun q=>c q.1),beq_f c];rfl
theorem qfq (r:Rules) (m:MS):(overM r m).g=m.g∧(overM r m).pm=m.pm∧(overM r m).j=m.j∧(overM r m).last=m.last:=by
  unfold overM
  split<;>exact⟨rfl,rfl,rfl,rfl⟩
theorem qtz {r:Rules} {cr:CRule} {m:MS} (h:MOK r cr m) {e:Ev} (he:EvR e):qch (tupM r cr m) e=some (tupM r cr (doM r cr m e).1,(doM r cr m e).2)∧MOK r cr (doM r cr m e).1:=by
  have et:(tupM r cr m)=((tupM r cr m).1,((tupM r cr m).2.1,(((tupM r cr m).2.2.1.1,((tupM r cr m).2.2.1.2.1,((tupM r cr m).2.2.1.2.2.1,()))),(tupM r cr m).2.2.2))):=rfl;obtain⟨le,hle⟩:=qjF cr m.c e.2.2.2.1 h.len;unfold qch doM;rw[←et];simp only[show(tupM r cr m).2.1=cr from rfl,show(tupM r cr m).2.2.2.1.2.1=m.res from rfl,show(tupM r cr m).2.2.2.1.2.2.2.1=m.c from rfl,show(tupM r cr m).2.2.2.2.1=m.last from rfl,show(tupM r cr m).2.2.2.2.2.1=m.j from rfl];by_cases c1:(e.1<0∨6<e.1)∨(e.2.1≠0∧e.2.1≠1)
  · rw[if_pos c1,show(((decide (e.1<(0:Int)))||(decide (e.1>(6:Int))))||((e.2.1 !=(0:Int))&&(e.2.1 !=(1:Int))))=true by
      simp only[bneI,Bool.or_eq_true,Bool.and_eq_true,decide_eq_true_eq];omega,cond_true]
    exact⟨rfl,h⟩
  rw[if_neg c1,show(((decide (e.1<(0:Int)))||(decide (e.1>(6:Int))))||((e.2.1 !=(0:Int))&&(e.2.1 !=(1:Int))))=false by
      rw[Bool.eq_false_iff];intro q;simp only[bneI,Bool.or_eq_true,Bool.and_eq_true,decide_eq_true_eq] at q;omega,cond_false]
  by_cases c2:e.2.2.2.1<m.last∨100000000<e.2.2.2.1
  · rw[if_pos c2,show((decide (e.2.2.2.1<m.last))||(decide (e.2.2.2.1>(100000000:Int))))=true by simp only[Bool.or_eq_true,decide_eq_true_eq];omega,cond_true];exact⟨rfl,h⟩
  rw[if_neg c2,show((decide (e.2.2.2.1<m.last))||(decide (e.2.2.2.1>(100000000:Int))))=false by rw[Bool.eq_false_iff];intro q;simp only[Bool.or_eq_true,decide_eq_true_eq] at q;omega,cond_false];by_cases c3:m.res=0
  rotate_left
  · rw[if_pos c3,bne_t c3,cond_true];exact⟨rfl,h⟩
  rw[if_neg (fun q=>q c3),bne_f c3,cond_false];by_cases c4:m.j.length=1000
  · rw[if_pos c4,c4];exact⟨rfl,h⟩
  rw[if_neg c4,beq_f (show ¬((m.j.length:Nat):Int)=1000 by omega),cond_false,hle,Option.bind_some];simp only;have hk:=h.clk c3;by_cases c5:(0≤(lookC cr m.c e.2.2.2.1).2.2.2.2.2.2.1∧e.1≠4)∧¬(e.1=5∧e.2.2.1=2)
  · rw[if_pos c5,show(((decide ((lookC cr m.c e.2.2.2.1).2.2.2.2.2.2.1≥(0:Int)))&&(e.1 !=(4:Int)))&&(!((e.1==(5:Int))&&(e.2.2.1==(2:Int)))))=true by
      simp only[bneI,Bool.and_eq_true,decide_eq_true_eq,Bool.not_eq_true',←Bool.not_eq_true,beq_iff_eq];exact c5,cond_true]
    exact⟨rfl,h⟩
  rw[if_neg c5,show(((decide ((lookC cr m.c e.2.2.2.1).2.2.2.2.2.2.1≥(0:Int)))&&(e.1 !=(4:Int)))&&(!((e.1==(5:Int))&&(e.2.2.1==(2:Int)))))=false by
      rw[Bool.eq_false_iff];intro q;simp only[bneI,Bool.and_eq_true,decide_eq_true_eq,Bool.not_eq_true',←Bool.not_eq_true,beq_iff_eq] at q;exact c5 q,cond_false]
  have hs:=qup (e:=e) h.rng h.len h.g hk h.pm (by omega) (h.opn c3) (by omega) (fun q=>by
    have hf:(lookC cr m.c e.2.2.2.1).2.2.2.2.2.2.1<0:=by
      by_cases q1:e.1=4
      · exact absurd (.inl q1) q
      · by_cases q2:e.1=5∧e.2.2.1=2
        · exact absurd (.inr q2) q
        · have:=fun a=>c5 ⟨⟨a,q1⟩,q2⟩;omega
    exact⟨h.rng,h.len,h.g,good_of h.len hle hf hk.run,h.turn c3,h.pm,h.few⟩)
  obtain⟨s1,s2,s3,s4,s5,s6⟩:=hs;rw[s1,Option.bind_some];by_cases c6:(kindM r cr m e).2=0
  rotate_left
  · rw[if_pos c6,bne_t c6,cond_true,s2 c6];exact⟨rfl,h⟩
  rw[if_neg (fun q=>q c6),bne_f c6,cond_false];simp only[show(tupM r cr (kindM r cr m e).1).2.2.2.2.2.1=(kindM r cr m e).1.j from rfl]
  have hj:JOK (kindM r cr m e).1.j:=by rw[s6.2];exact h.j
  obtain⟨j1,j2⟩:=qrP hj (by rw[s6.2];have:=h.j.1;omega) (entry_ok e he);rw[qx9 e he,Option.bind_some,j1,Option.bind_some];have ho:=qvb (r:=r) (cr:=cr) (m:={ (kindM r cr m e).1 with last:=e.2.2.2.1,j:=nextJ (kindM r cr m e).1.j (qb5 e) }) s4;rw[show((tupM r cr (kindM r cr m e).1).1,((tupM r cr (kindM r cr m e).1).2.1,(((tupM r cr (kindM r cr m e).1).2.2.1.1,((tupM r cr (kindM r cr m e).1).2.2.1.2.1,((tupM r cr (kindM r cr m e).1).2.2.1.2.2.1,()))),((tupM r cr (kindM r cr m e).1).2.2.2.1,(e.2.2.2.1,(nextJ (kindM r cr m e).1.j (qb5 e),()))))))=tupM r cr { (kindM r cr m e).1 with last:=e.2.2.2.1,j:=nextJ (kindM r cr m e).1.j (qb5 e) } from rfl,ho,Option.bind_some];refine⟨rfl,?_⟩;show MOK r cr (doneM r (kindM r cr m e).1 e);unfold doneM
  have hg':∀x:MS,(overM r x).g=x.g∧(overM r x).c=x.c∧(overM r x).pm=x.pm∧(overM r x).j=x.j∧(overM r x).last=x.last∧((overM r x).res=0→x.res=0∧qE r x.g.1=0):=fun x=>by
    unfold overM;split
    · rename_i q;exact⟨rfl,rfl,rfl,rfl,rfl,fun z=>absurd z q.2⟩
    · rename_i q
      exact⟨rfl,rfl,rfl,rfl,rfl,fun z=>⟨z,by
        by_cases w:qE r x.g.1=0
        · exact w
        · exact absurd ⟨z,w⟩ q⟩⟩
  obtain⟨g1,g2,g3,g4,g5,g6⟩:=hg' { (kindM r cr m e).1 with last:=e.2.2.2.1,j:=nextJ (kindM r cr m e).1.j (qb5 e) };refine⟨h.rng,h.len,by rw[g1];exact s4,h.cok,fun q=>?_,fun q=>?_,fun q=>?_,by rw[g3];exact s5,by rw[g3];exact pm_len s5,by rw[g4];exact j2⟩
  · rw[g2,g5];exact(s3 c6 (g6 q).1).clk
  · rw[g1,g2];exact(s3 c6 (g6 q).1).turn
  · rw[g1];exact(g6 q).2

theorem qbG {n:Int} (h:I64 n):qea (numS n)=some (n,(true,())):=by
  unfold qea;rw[atoi_num h,Option.bind_some];simp only[gopt,Bool.not_false,cond_true];rw[qj1 h,Option.bind_some];simp
theorem qub {e:Ev} (h:EvR e):qbL (qb5 e)=some (e,(0,())):=by
  have hs:qrY (qb5 e) (ByteArray.mk #[32])=some ((evL e).map numS):=by
    refine qvy 32 _ (by simp[evL]) (by have:=qnX e h;unfold qb5 at this;omega) (fun x hx=>?_);obtain⟨n,hn,rfl⟩:=List.mem_map.1 hx;intro q;have:=qv8 n _ q;rw[show(32:UInt8).toNat=32 from rfl] at this;omega
  have hloop:iterW (qu ((evL e).map numS)) (((0:Int),()),(((0:Int),((0:Int),((0:Int),((0:Int),((0:Int),((0:Int),((0:Int),()))))))),(((0:Int),((0:Int),((0:Int),((0:Int),((0:Int),((0:Int),((0:Int),()))))))),())))=some (.inl ((),(((0:Int),((0:Int),((0:Int),((0:Int),((0:Int),((0:Int),((0:Int),()))))))),((e.1,(e.2.1,(e.2.2.1,(e.2.2.2.1,(e.2.2.2.2.1.1,(e.2.2.2.2.1.2.1,(e.2.2.2.2.1.2.2.1,()))))))),())))):=by
    have s0:qu ((evL e).map numS) (((0:Int),()),(((0:Int),((0:Int),((0:Int),((0:Int),((0:Int),((0:Int),((0:Int),()))))))),(((0:Int),((0:Int),((0:Int),((0:Int),((0:Int),((0:Int),((0:Int),()))))))),())))=some (.inl (((1:Int),()),(((0:Int),((0:Int),((0:Int),((0:Int),((0:Int),((0:Int),((0:Int),()))))))),((e.1,((0:Int),((0:Int),((0:Int),((0:Int),((0:Int),((0:Int),()))))))),())))):=by
      unfold qu;simp only[show decide ((0:Int)<((((evL e).map numS).length:Nat):Int))=true from rfl,cond_true,show at? ((evL e).map numS) (0:Int)=some (numS e.1) from rfl,Option.bind_some,qbG h.kind,show inb (0:Int) 7=true from rfl,qb,Bool.not_true,cond_false];rfl
    have s1:qu ((evL e).map numS) (((1:Int),()),(((0:Int),((0:Int),((0:Int),((0:Int),((0:Int),((0:Int),((0:Int),()))))))),((e.1,((0:Int),((0:Int),((0:Int),((0:Int),((0:Int),((0:Int),()))))))),())))=some (.inl (((2:Int),()),(((0:Int),((0:Int),((0:Int),((0:Int),((0:Int),((0:Int),((0:Int),()))))))),((e.1,(e.2.1,((0:Int),((0:Int),((0:Int),((0:Int),((0:Int),()))))))),())))):=by
      unfold qu;simp only[show decide ((1:Int)<((((evL e).map numS).length:Nat):Int))=true from rfl,cond_true,show at? ((evL e).map numS) (1:Int)=some (numS e.2.1) from rfl,Option.bind_some,qbG h.player,show inb (1:Int) 7=true from rfl,qb,Bool.not_true,cond_false];rfl
    have s2:qu ((evL e).map numS) (((2:Int),()),(((0:Int),((0:Int),((0:Int),((0:Int),((0:Int),((0:Int),((0:Int),()))))))),((e.1,(e.2.1,((0:Int),((0:Int),((0:Int),((0:Int),((0:Int),()))))))),())))=some (.inl (((3:Int),()),(((0:Int),((0:Int),((0:Int),((0:Int),((0:Int),((0:Int),((0:Int),()))))))),((e.1,(e.2.1,(e.2.2.1,((0:Int),((0:Int),((0:Int),((0:Int),()))))))),())))):=by
      unfold qu;simp only[show decide ((2:Int)<((((evL e).map numS).length:Nat):Int))=true from rfl,cond_true,show at? ((evL e).map numS) (2:Int)=some (numS e.2.2.1) from rfl,Option.bind_some,qbG h.n,show inb (2:Int) 7=true from rfl,qb,Bool.not_true,cond_false];rfl
    have s3:qu ((evL e).map numS) (((3:Int),()),(((0:Int),((0:Int),((0:Int),((0:Int),((0:Int),((0:Int),((0:Int),()))))))),((e.1,(e.2.1,(e.2.2.1,((0:Int),((0:Int),((0:Int),((0:Int),()))))))),())))=some (.inl (((4:Int),()),(((0:Int),((0:Int),((0:Int),((0:Int),((0:Int),((0:Int),((0:Int),()))))))),((e.1,(e.2.1,(e.2.2.1,(e.2.2.2.1,((0:Int),((0:Int),((0:Int),()))))))),())))):=by
      unfold qu;simp only[show decide ((3:Int)<((((evL e).map numS).length:Nat):Int))=true from rfl,cond_true,show at? ((evL e).map numS) (3:Int)=some (numS e.2.2.2.1) from rfl,Option.bind_some,qbG h.now,show inb (3:Int) 7=true from rfl,qb,Bool.not_true,cond_false];rfl
    have s4:qu ((evL e).map numS) (((4:Int),()),(((0:Int),((0:Int),((0:Int),((0:Int),((0:Int),((0:Int),((0:Int),()))))))),((e.1,(e.2.1,(e.2.2.1,(e.2.2.2.1,((0:Int),((0:Int),((0:Int),()))))))),())))=some (.inl (((5:Int),()),(((0:Int),((0:Int),((0:Int),((0:Int),((0:Int),((0:Int),((0:Int),()))))))),((e.1,(e.2.1,(e.2.2.1,(e.2.2.2.1,(e.2.2.2.2.1.1,((0:Int),((0:Int),()))))))),())))):=by
      unfold qu;simp only[show decide ((4:Int)<((((evL e).map numS).length:Nat):Int))=true from rfl,cond_true,show at? ((evL e).map numS) (4:Int)=some (numS e.2.2.2.2.1.1) from rfl,Option.bind_some,qbG h.a,show inb (4:Int) 7=true from rfl,qb,Bool.not_true,cond_false];rfl
    have s5:qu ((evL e).map numS) (((5:Int),()),(((0:Int),((0:Int),((0:Int),((0:Int),((0:Int),((0:Int),((0:Int),()))))))),((e.1,(e.2.1,(e.2.2.1,(e.2.2.2.1,(e.2.2.2.2.1.1,((0:Int),((0:Int),()))))))),())))=some (.inl (((6:Int),()),(((0:Int),((0:Int),((0:Int),((0:Int),((0:Int),((0:Int),((0:Int),()))))))),((e.1,(e.2.1,(e.2.2.1,(e.2.2.2.1,(e.2.2.2.2.1.1,(e.2.2.2.2.1.2.1,((0:Int),()))))))),())))):=by
      unfold qu;simp only[show decide ((5:Int)<((((evL e).map numS).length:Nat):Int))=true from rfl,cond_true,show at? ((evL e).map numS) (5:Int)=some (numS e.2.2.2.2.1.2.1) from rfl,Option.bind_some,qbG h.b,show inb (5:Int) 7=true from rfl,qb,Bool.not_true,cond_false];rfl
    have s6:qu ((evL e).map numS) (((6:Int),()),(((0:Int),((0:Int),((0:Int),((0:Int),((0:Int),((0:Int),((0:Int),()))))))),((e.1,(e.2.1,(e.2.2.1,(e.2.2.2.1,(e.2.2.2.2.1.1,(e.2.2.2.2.1.2.1,((0:Int),()))))))),())))=some (.inl (((7:Int),()),(((0:Int),((0:Int),((0:Int),((0:Int),((0:Int),((0:Int),((0:Int),()))))))),((e.1,(e.2.1,(e.2.2.1,(e.2.2.2.1,(e.2.2.2.2.1.1,(e.2.2.2.2.1.2.1,(e.2.2.2.2.1.2.2.1,()))))))),())))):=by
      unfold qu;simp only[show decide ((6:Int)<((((evL e).map numS).length:Nat):Int))=true from rfl,cond_true,show at? ((evL e).map numS) (6:Int)=some (numS e.2.2.2.2.1.2.2.1) from rfl,Option.bind_some,qbG h.c,show inb (6:Int) 7=true from rfl,qb,Bool.not_true,cond_false];rfl
    have s7:qu ((evL e).map numS) (((7:Int),()),(((0:Int),((0:Int),((0:Int),((0:Int),((0:Int),((0:Int),((0:Int),()))))))),((e.1,(e.2.1,(e.2.2.1,(e.2.2.2.1,(e.2.2.2.2.1.1,(e.2.2.2.2.1.2.1,(e.2.2.2.2.1.2.2.1,()))))))),())))=some (.inr (.inl ((),(((0:Int),((0:Int),((0:Int),((0:Int),((0:Int),((0:Int),((0:Int),()))))))),((e.1,(e.2.1,(e.2.2.1,(e.2.2.2.1,(e.2.2.2.2.1.1,(e.2.2.2.2.1.2.1,(e.2.2.2.2.1.2.2.1,()))))))),()))))):=rfl;rw[qn s0,qn s1,qn s2,qn s3,qn s4,qn s5,qn s6,qk s7]
  unfold qbL;rw[hs,Option.bind_some,show(((((evL e).map numS).length:Nat):Int)!=7)=false from rfl,cond_false,hloop];rfl
noncomputable def startC (cr:CRule) (now:Int):Clk:=(((perAt cr 0).2.1,((perAt cr 0).2.1,())),((0,(0,())),((0,(0,())),(0,(now,(false,(-1,())))))))
theorem qjO (cr:CRule) (now:Int) (hl:cr.1.length≤9223372036854775807):qbk cr now=some (if chkC cr=0 then if 0≤now∧now≤100000000 then(startC cr now,(0,())) else(dClk,(11,())) else(dClk,(chkC cr,()))):=by
  unfold qbk;rw[qlp cr hl,Option.bind_some];by_cases c:chkC cr=0
  · rw[if_pos c,bne_f c,cond_false];have hcr:=qhJ c;have hw:qf now 0 100000000=decide (0≤now∧now≤100000000):=by
      rw[Bool.eq_iff_iff,qcN,decide_eq_true_eq]
    rw[hw];by_cases d:0≤now∧now≤100000000
    · rw[if_pos d,decide_eq_true d,Bool.not_true,cond_false,(qjb hcr (k:=0) (by omega) (by have:=hcr.len;omega)).1,Option.bind_some];rfl
    · rw[if_neg d,decide_eq_false d];rfl
  · rw[if_neg c,bne_t c,cond_true];rfl
theorem qnL {cr:CRule} (h:chkC cr=0):qcf cr=some cr:=by
  have hcr:=(qhJ h).len;unfold qcf;have:qaH cr.1=some cr.1:=by
    unfold qaH;have hr:room (([]:List (Int×Int×Unit)).length+cr.1.length) 16=true:=qJ (by simp only[List.length_nil];omega);rw[hr]
    cases cr.1 with
    | nil=>simp[qb,agree_self]
    | cons a l=>simp[qb]
  rw[this,Option.bind_some]
theorem qye {cr:CRule} {now:Int} (c:chkC cr=0) (h:0≤now∧now≤100000000):GoodC cr (startC cr now) now:=by
  have hcr:=qhJ c;have hlen:=hcr.len;have hd:=hcr.del;obtain⟨_,_,h2,_⟩:=qjb hcr (k:=0) (by omega) (by omega)
  have hv:VC cr (startC cr now):=⟨⟨Int.le_refl _,by show(0:Int)≤1;omega⟩,⟨Int.le_refl _,by show(-1:Int)≤1;omega⟩,h,⟨Int.le_refl _,by show(0:Int)≤_;omega⟩,⟨Int.le_refl _,by show(0:Int)≤_;omega⟩,
    ⟨Int.le_refl _,by show(0:Int)≤400;omega⟩,⟨Int.le_refl _,by show(0:Int)≤400;omega⟩,⟨by show 0≤(perAt cr 0).2.1;omega,by show(perAt cr 0).2.1≤_;omega⟩,⟨by show 0≤(perAt cr 0).2.1;omega,by show(perAt cr 0).2.1≤_;omega⟩⟩
  refine⟨c,hv,Int.le_refl _,h.2,rfl,rfl,?_⟩;have hn:=left_nn hv;show max 0 (now-now-cr.2.2.1)≤_;omega
def startB:ByteArray:=ByteArray.mk #[115,116,97,114,116,32]
def qaf (now:Int):ByteArray:=startB++numS now
theorem qhi {n:Int} (h:I64 n):(qaf n).size≤27∧qcK startB (numS n)=true:=by
  have h1:=qs5 h;have h2:startB.size=6:=rfl;refine⟨by unfold qaf;rw[ByteArray.size_append];omega,?_⟩;unfold qcK;rw[Nat.ble_eq];omega
theorem start_okt {n:Int} (h:I64 n):OKT (qaf n):=by
  refine⟨by have:=(qhi h).1;omega,fun c hc=>?_⟩;unfold qaf at hc;rw[qkO] at hc;rcases List.mem_append.1 hc with hc | hc
  · have:c∈[115,116,97,114,116,32]:=hc;simp only[List.mem_cons,List.not_mem_nil,or_false] at this
    rcases this with rfl | rfl | rfl | rfl | rfl | rfl<;>decide
  · have:=qv8 n c hc;omega
theorem jok_nil:JOK []:=⟨Nat.zero_le _,fun i hi=>absurd hi (Nat.not_lt_zero _)⟩
theorem qex {n:Int} (h:I64 n):qS [] (qaf n)=some (nextJ [] (qaf n),(0,()))∧JOK (nextJ [] (qaf n)):=qrP jok_nil (Nat.zero_lt_succ _) (start_okt h)
def off0:Offs:=((-1,(-1,())),(((-1,(-1,())),((-1,(-1,())),())),()))
noncomputable def rawM (r:Rules) (cr:CRule) (now:Int):MS:={ g:=([qaE r],[]),res:=0,rea:=0,c:=startC cr now,o:=off0,pm:=[],last:=now,j:=nextJ [] (qaf now) }
noncomputable def newM (r:Rules) (cr:CRule) (now:Int):MS:=overM r (rawM r cr now)
theorem qpk {r:Rules} {cr:CRule} {now:Int} (c:qam r=0):qao (tupM r cr (rawM r cr now))=some (tupM r cr (newM r cr now),()):=qvb (RG.begin c)
theorem over_ok {r:Rules} {m:MS}:(overM r m).c=m.c∧(overM r m).o=m.o∧((overM r m).res=0→m.res=0∧qE r m.g.1=0):=by
  unfold overM;split
  · rename_i q;exact⟨rfl,rfl,fun z=>absurd z q.2⟩
  · rename_i q
    exact⟨rfl,rfl,fun z=>⟨z,by
      by_cases w:qE r m.g.1=0
      · exact w
      · exact absurd ⟨z,w⟩ q⟩⟩
theorem qsH {r:Rules} {cr:CRule} {now:Int} (hr:Rng qaB r) (hl:cr.1.length≤9223372036854775807) (c:qam r=0) (c1:chkC cr=0) (h:0≤now∧now≤100000000):MOK r cr (newM r cr now):=by
  obtain⟨g1,g2,g3,g4⟩:=qfq r (rawM r cr now);obtain⟨g5,g6,g7⟩:=over_ok (r:=r) (m:=rawM r cr now);unfold newM;refine⟨hr,hl,by rw[g1];exact RG.begin c,c1,fun q=>?_,fun q=>?_,fun q=>?_,by rw[g2];rfl,by rw[g2];exact Nat.zero_le _,by rw[g3];exact(qex ⟨by omega,by omega⟩).2⟩
  · rw[g5,g4];exact qye c1 h
  · rw[g5,g1];rfl
  · rw[g1];exact(g7 q).2

noncomputable def runE (r:Rules) (cr:CRule):MS→List Ev→MS
  | m,[]=>m
  | m,e::es=>runE r cr (doM r cr m e).1 es
def okE (r:Rules) (cr:CRule):MS→List Ev→Prop
  | _,[]=>True
  | m,e::es=>EvR e∧(doM r cr m e).2=0∧okE r cr (doM r cr m e).1 es
theorem qp0 {r:Rules} {cr:CRule}:∀(es:List Ev) (m:MS),MOK r cr m→okE r cr m es→MOK r cr (runE r cr m es)
  | [],m,h,_=>h
  | e::es,m,h,ho=>qp0 es _ (qtz h ho.1).2 ho.2.2
theorem qt3 {r:Rules} {cr:CRule} (e:Ev):∀(es:List Ev) (m:MS),runE r cr m (es++[e])=(doM r cr (runE r cr m es) e).1
  | [],m=>rfl
  | x::es,m=>qt3 e es _
theorem qxz {r:Rules} {cr:CRule} {e:Ev}:∀(es:List Ev) (m:MS),okE r cr m es→EvR e→(doM r cr (runE r cr m es) e).2=0→okE r cr m (es++[e])
  | [],m,_,he,h=>⟨he,h,trivial⟩
  | x::es,m,ho,he,h=>⟨ho.1,ho.2.1,qxz es _ ho.2.2 he h⟩
theorem qx3 (r:Rules) (cr:CRule) (m:MS) (e:Ev):(kindM r cr m e).1.j=m.j∧(kindM r cr m e).1.last=m.last:=by
  unfold kindM;split
  · unfold qeN
    repeat' split
    all_goals first | exact⟨rfl,rfl⟩ | skip
    obtain⟨a,b⟩:=qtg (r:=r) (cr:=cr) (now:=e.2.2.2.1) (m.pm.length+1) (moveM r cr m e.2.2.2.2.1 e.2.2.2.1);exact⟨b,a⟩
  · split
    · unfold qei;simp only
      repeat' split
      all_goals exact⟨rfl,rfl⟩
    · split
      · unfold qa2;simp only
        repeat' split
        all_goals exact⟨rfl,rfl⟩
      · split
        · unfold qbU
          repeat' split
          all_goals exact⟨rfl,rfl⟩
        · split
          · unfold qaz
            repeat' split
            all_goals exact⟨rfl,rfl⟩
          · exact⟨rfl,rfl⟩
theorem do_jR (r:Rules) (cr:CRule) (m:MS) (e:Ev):((doM r cr m e).2=0→(doM r cr m e).1.j=nextJ m.j (qb5 e)∧m.res=0)∧((doM r cr m e).2≠0→(doM r cr m e).1=m):=by
  unfold doM
  repeat' split
  all_goals first | (rename_i c;exact⟨fun h=>absurd h c,fun _=>rfl⟩) | exact⟨fun h=>(by simp at h),fun _=>rfl⟩ | skip
  rename_i h3 _ _ _;refine⟨fun _=>⟨?_,by omega⟩,fun h=>absurd rfl h⟩;show(doneM r (kindM r cr m e).1 e).j=_;unfold doneM;rw[(qfq r _).2.2.1];show nextJ (kindM r cr m e).1.j (qb5 e)=_;rw[(qx3 r cr m e).1]
theorem run_j {r:Rules} {cr:CRule}:∀(es:List Ev) (m:MS),okE r cr m es→∃t:Jn,(runE r cr m es).j=m.j++t∧t.map (·.1)=es.map qb5
  | [],m,_=>⟨[],(List.append_nil _).symm,rfl⟩
  | e::es,m,ho=>by
    obtain⟨t,h1,h2⟩:=run_j es _ ho.2.2;have hj:=((do_jR r cr m e).1 ho.2.1).1;refine⟨(qb5 e,(sumJ (lastJ m.j) (qb5 e),()))::t,?_,by rw[List.map_cons,List.map_cons,h2]⟩;show(runE r cr (doM r cr m e).1 es).j=_;rw[h1,hj];unfold nextJ;rw[List.append_assoc];rfl
theorem qwE {r:Rules} {cr:CRule}:∀(es es':List Ev) (m:MS),okE r cr m (es++es')↔okE r cr m es∧okE r cr (runE r cr m es) es'
  | [],es',m=>⟨fun h=>⟨trivial,h⟩,fun h=>h.2⟩
  | e::es,es',m=>by
    have:=qwE (r:=r) (cr:=cr) es es' (doM r cr m e).1;constructor
    · intro h;exact⟨⟨h.1,h.2.1,(this.1 h.2.2).1⟩,(this.1 h.2.2).2⟩
    · intro h;exact⟨h.1.1,h.1.2.1,this.2 ⟨h.1.2.2,h.2⟩⟩
theorem quT (n:Int):qaC (qaf n) startB=some (numS n,(true,())):=by
  have hs:(qaf n).size=6+(numS n).size:=by unfold qaf;rw[ByteArray.size_append];rfl
  have hb:startB.size=6:=rfl
  have hl:(qaf n).data.toList=startB.data.toList++(numS n).data.toList:=by unfold qaf;rw[qkO]
  have hbl:startB.data.toList.length=6:=rfl
  have e1:(qaf n).extract 0 6=startB:=qr5 (by
    rw[qxq,hl,List.drop_zero,List.take_append_of_le_length (by omega),List.take_of_length_le (by omega)])
  have e2:(qaf n).extract 6 (qaf n).size=numS n:=qr5 (by
    rw[qxq,hl,hs,qhC (numS n),List.take_of_length_le (by rw[List.length_append];omega),List.drop_append_of_le_length (by omega),List.drop_of_length_le (by omega),List.nil_append])
  unfold qaC qaG qaF;rw[hb]
  have b1:qm 0 ((6:Nat):Int) (qaf n).size=true:=by simp only[qm,Bool.and_eq_true,decide_eq_true_eq];omega
  have b2:qm ((6:Nat):Int) (((qaf n).size:Nat):Int) (qaf n).size=true:=by simp only[qm,Bool.and_eq_true,decide_eq_true_eq];omega
  have b3:decide ((((qaf n).size:Nat):Int)≥((6:Nat):Int))=true:=by rw[decide_eq_true_eq];omega
  simp only[b1,b2,b3,imp,Bool.cond_self,qb,Int.toNat_natCast,e1,e2,Option.bind_some,beq_self_eq_true,Bool.and_self,Bool.not_true,cond_false]
def matU (m:MS) (pos:Place) (now:Int):StT×Place×Int×Unit:=((m.g.2,(m.res,(m.rea,(m.c,(m.o,(m.pm,())))))),(pos,(now,())))
def momM (m:MS) (now:Int):StT×Place×Int×Unit:=matU m (lastP m.g.1) now
noncomputable def momsM (r:Rules) (cr:CRule):MS→List Ev→List (StT×Place×Int×Unit)
  | _,[]=>[]
  | m,e::es=>momM (doM r cr m e).1 e.2.2.2.1::momsM r cr (doM r cr m e).1 es
theorem qpo {A:Type} (l:List A):(l.take ((l.length:Nat):Int).toNat).drop 1=l.drop 1:=by rw[Int.toNat_natCast,List.take_length]
theorem quB {r:Rules} {cr:CRule} (l:Jn) (es:List Ev) (ht:(l.drop 1).map (·.1)=es.map qb5) (hl:es.length≤1000):∀(k i:Nat) (m:MS),i+k=es.length→MOK r cr m→okE r cr m (es.drop i) →
    iterW (qbH l) (((i:Int),()),(flatT (tupM r cr m),()))=some (.inl ((),(flatT (tupM r cr (runE r cr m (es.drop i))),())))
  | 0,i,m,hi,h,ho=>by
    have hlen:(l.drop 1).length=es.length:=by have:=congrArg List.length ht;simpa using this
    rw[List.drop_of_length_le (by omega)];refine qk ?_;unfold qbH;simp only[qpo];rw[show decide ((i:Int)<(((l.drop 1).length:Nat):Int))=false by simp only[decide_eq_false_iff_not];omega,cond_false];rfl
  | k+1,i,m,hi,h,ho=>by
    have hlen:(l.drop 1).length=es.length:=by have:=congrArg List.length ht;simpa using this
    have hie:i<es.length:=by omega
    have hil:i<(l.drop 1).length:=by omega
    have htx:(l.drop 1)[i].1=qb5 es[i]:=by
      have:=congrArg (fun x=>x[i]?) ht;simp only[List.getElem?_map,List.getElem?_eq_getElem hil,List.getElem?_eq_getElem hie,Option.map_some,Option.some.injEq] at this;exact this
    rw[List.drop_eq_getElem_cons hie] at ho ⊢;obtain⟨he,h0,ho'⟩:=ho;obtain⟨d1,d2⟩:=qtz h he;have hs:qbH l (((i:Int),()),(flatT (tupM r cr m),()))=some (.inl ((((i+1:Nat):Int),()),(flatT (tupM r cr (doM r cr m es[i]).1),()))):=by
      unfold qbH;simp only[qpo];rw[show decide ((i:Int)<(((l.drop 1).length:Nat):Int))=true by simp only[decide_eq_true_eq];omega,cond_true,qdw _ i hil,Option.bind_some,htx,qub he,Option.bind_some];simp only[bne_self_eq_false,cond_false];refine(congrArg (fun z=>Option.bind z _) d1).trans ?_;rw[Option.bind_some,h0];simp only[bne_self_eq_false,cond_false];rw[qg (by omega) (by omega)];rfl
    rw[qn hs];exact quB l es ht hl k (i+1) _ (by omega) d2 ho'
theorem qxa {r:Rules} {cr:CRule} (l:Jn) (es:List Ev) (ht:(l.drop 1).map (·.1)=es.map qb5) (hl:es.length≤1000):∀(k i:Nat) (m:MS) (out:List (StT×Place×Int×Unit)),i+k=es.length→MOK r cr m→okE r cr m (es.drop i)→out.length≤i+1 →
    iterW (qbI l) ((out,((i:Int),())),(flatT (tupM r cr m),()))=some ((out++momsM r cr m (es.drop i),()),(flatT (tupM r cr (runE r cr m (es.drop i))),()))
  | 0,i,m,out,hi,h,ho,hout=>by
    have hlen:(l.drop 1).length=es.length:=by have:=congrArg List.length ht;simpa using this
    rw[List.drop_of_length_le (by omega)];refine qk ?_;unfold qbI;simp only[qpo,qK,agree_self];rw[show decide ((i:Int)<(((l.drop 1).length:Nat):Int))=false by simp only[decide_eq_false_iff_not];omega,cond_false];unfold momsM runE;rw[List.append_nil]
  | k+1,i,m,out,hi,h,ho,hout=>by
    have hlen:(l.drop 1).length=es.length:=by have:=congrArg List.length ht;simpa using this
    have hie:i<es.length:=by omega
    have hil:i<(l.drop 1).length:=by omega
    have htx:(l.drop 1)[i].1=qb5 es[i]:=by
      have:=congrArg (fun x=>x[i]?) ht;simp only[List.getElem?_map,List.getElem?_eq_getElem hil,List.getElem?_eq_getElem hie,Option.map_some,Option.some.injEq] at this;exact this
    rw[List.drop_eq_getElem_cons hie] at ho ⊢;obtain⟨he,h0,ho'⟩:=ho;obtain⟨d1,d2⟩:=qtz h he;have hs:qbI l ((out,((i:Int),())),(flatT (tupM r cr m),()))=some (.inl ((out++[momM (doM r cr m es[i]).1 es[i].2.2.2.1],(((i+1:Nat):Int),())),(flatT (tupM r cr (doM r cr m es[i]).1),()))):=by
      unfold qbI;simp only[qpo,qK,agree_self];rw[show decide ((i:Int)<(((l.drop 1).length:Nat):Int))=true by simp only[decide_eq_true_eq];omega,cond_true,qdw _ i hil,Option.bind_some,htx,qub he,Option.bind_some];simp only;refine(congrArg (fun z=>Option.bind z _) d1).trans ?_;rw[Option.bind_some];refine(congrArg (fun z=>Option.bind (Option.bind z _) _) (qbo d2.g.ok)).trans ?_;rw[Option.bind_some];refine(congrArg (fun z=>Option.bind (Option.bind z _) _) (qp1 (doM r cr m es[i]).1.pm (by have:=d2.few;omega))).trans ?_;rw[Option.bind_some];refine(congrArg (fun z=>Option.bind (Option.bind z _) _) (qaq d2.g.ok)).trans ?_;rw[Option.bind_some];simp only;rw[qJ (by simp only[List.length_cons,List.length_nil];omega),qb,Option.bind_some,qg (by omega) (by omega)];rfl
    have hz:=qxa l es ht hl k (i+1) _ (out++[momM (doM r cr m es[i]).1 es[i].2.2.2.1]) (by omega) d2 ho' (by simp;omega);rw[qn hs,hz,List.append_assoc];rfl

theorem new_j (r:Rules) (cr:CRule) (now:Int):(newM r cr now).j=[(qaf now,(sumJ 0 (qaf now),()))]:=by
  unfold newM;rw[(qfq r _).2.2.1];rfl
theorem new_c (r:Rules) (cr:CRule) (now:Int):(newM r cr now).c.2.2.2.2.1=now:=by
  unfold newM;rw[over_ok.1];rfl
theorem qps {r:Rules} {cr:CRule} {now:Int} (hr:Rng qaB r) (hl:cr.1.length≤9223372036854775807) (c:qam r=0) (c1:chkC cr=0) (hn:0≤now∧now≤100000000) {es:List Ev} (ho:okE r cr (newM r cr now) es) (hes:es.length≤400) :
    qar r cr (runE r cr (newM r cr now) es).j=some (momM (newM r cr now) now::momsM r cr (newM r cr now) es,(0,())):=by
  have hm:=qsH hr hl c c1 hn;have hm':=qp0 es _ hm ho;have z64:I64 now:=⟨by omega,by omega⟩;obtain⟨t,h1,h2⟩:=run_j es _ ho;have hj:=hm'.j;have hj0:=hm.j;rw[new_j] at h1 hj0;generalize (runE r cr (newM r cr now) es).j=l at *
  have ht:(l.drop 1).map (·.1)=es.map qb5:=by rw[h1];exact h2
  have htl:t.length=es.length:=by have:=congrArg List.length h2;simpa using this
  have hlen:l.length=es.length+1:=by rw[h1];simp[htl]
  have h0:at? l 0=some (qaf now,(sumJ 0 (qaf now),())):=by rw[h1];rfl
  have hb1:qm 1 ((l.length:Nat):Int) l.length=true:=by simp only[qm,Bool.and_eq_true,decide_eq_true_eq];omega
  have hb2:qm 0 1 l.length=true:=by simp only[qm,Bool.and_eq_true,decide_eq_true_eq];omega
  have htk:(l.take 1).drop 0=[(qaf now,(sumJ 0 (qaf now),()))]:=by rw[h1];rfl
  have hload:=quB (r:=r) (cr:=cr) l es ht (by omega) es.length 0 _ (Nat.zero_add _) hm ho;have hmom:=qxa (r:=r) (cr:=cr) l es ht (by omega) es.length 0 _ [momM (newM r cr now) now] (Nat.zero_add _) hm ho (by simp);rw[List.drop_zero] at hload hmom;unfold qar;simp only[qK,agree_self];rw[qme hj,Option.bind_some];simp only[bne_self_eq_false,cond_false];rw[beq_f (show ¬((l.length:Nat):Int)=0 by omega),cond_false,h0,Option.bind_some];rw[show qaC (qaf now,(sumJ 0 (qaf now),())).1 (ByteArray.mk #[115,116,97,114,116,32])=some (numS now,(true,())) from quT now,Option.bind_some];simp only;rw[qbG z64,Option.bind_some];simp only[Bool.not_true,Bool.or_self,cond_false];rw[qjE r hr,if_pos c,Option.bind_some];simp only[bne_self_eq_false,cond_false]
  rw[qhc (qa7 c),Option.bind_some,Option.bind_some];simp only[bne_self_eq_false,cond_false];rw[qjO cr now hl,if_pos c1,if_pos hn,Option.bind_some];simp only[bne_self_eq_false,cond_false];rw[qnL c1,Option.bind_some];refine(congrArg (fun z=>Option.bind z _) (?_:_=some (((0:Int),()),()))).trans ?_
  · refine(congrArg (fun z=>Option.bind z _) (qj1 z64)).trans ?_;rw[Option.bind_some,show qcK (ByteArray.mk #[115,116,97,114,116,32]) (numS now)=true from(qhi z64).2,qb];refine(congrArg (fun z=>Option.bind z _) (qex z64).1).trans ?_;rw[Option.bind_some];refine(congrArg (fun z=>Option.bind z _) (qpk (r:=r) (cr:=cr) (now:=now) c)).trans ?_;rw[Option.bind_some,hb1,qb];refine(congrArg (fun z=>Option.bind z _) hload).trans ?_;rfl
  rw[Option.bind_some];simp only[bne_self_eq_false,cond_false];rw[hb2,qb];rw[htk];rw[qme hj0,Option.bind_some];simp only[bne_self_eq_false,cond_false];rw[show((((([(qaf now,(sumJ 0 (qaf now),()))]:Jn).length:Nat):Int))==0)=false from rfl,cond_false];rw[show at? ([(qaf now,(sumJ 0 (qaf now),()))]:Jn) 0=some (qaf now,(sumJ 0 (qaf now),())) from rfl,Option.bind_some];rw[show qaC (qaf now,(sumJ 0 (qaf now),())).1 (ByteArray.mk #[115,116,97,114,116,32])=some (numS now,(true,())) from quT now,Option.bind_some];simp only;rw[qbG z64,Option.bind_some];simp only[Bool.not_true,Bool.or_self,cond_false];rw[Option.bind_some];simp only[bne_self_eq_false,cond_false];rw[Option.bind_some,Option.bind_some];simp only[bne_self_eq_false,cond_false]
  rw[qjO cr now hl,if_pos c1,if_pos hn,Option.bind_some];simp only[bne_self_eq_false,cond_false];rw[Option.bind_some,Option.bind_some];refine(congrArg (fun z=>Option.bind z _) (qj1 z64)).trans ?_;rw[Option.bind_some,show qcK (ByteArray.mk #[115,116,97,114,116,32]) (numS now)=true from(qhi z64).2,qb];refine(congrArg (fun z=>Option.bind z _) (qex z64).1).trans ?_;rw[Option.bind_some];refine(congrArg (fun z=>Option.bind z _) (qpk (r:=r) (cr:=cr) (now:=now) c)).trans ?_;rw[Option.bind_some];rw[show qm 1 ((([(qaf now,(sumJ 0 (qaf now),()))]:Jn).length:Nat):Int) ([(qaf now,(sumJ 0 (qaf now),()))]:Jn).length=true from rfl,qb]
  have hL10:iterW (qeM l) (((0:Int),()),(flatT (tupM r cr (newM r cr now)),()))=some (.inl ((),(flatT (tupM r cr (newM r cr now)),()))):=by
    refine qk ?_;unfold qeM;simp only[htk];rfl
  refine(congrArg (fun z=>Option.bind z _) hL10).trans ?_;rw[Option.bind_some];simp only[Sum.elim_inl];refine(congrArg (fun z=>Option.bind z _) (qbo hm.g.ok)).trans ?_;rw[Option.bind_some];refine(congrArg (fun z=>Option.bind z _) (qp1 (newM r cr now).pm (by have:=hm.few;omega))).trans ?_;rw[Option.bind_some];refine(congrArg (fun z=>Option.bind z _) (qaq hm.g.ok)).trans ?_;rw[Option.bind_some];refine(congrArg (fun z=>Option.bind z _) (qbo hm.g.ok)).trans ?_;rw[Option.bind_some];refine(congrArg (fun z=>Option.bind z _) (qp1 (newM r cr now).pm (by have:=hm.few;omega))).trans ?_;rw[Option.bind_some,hb1,qb]
  have hc:momM (newM r cr now) now=matU (newM r cr now) (lastP (newM r cr now).g.1) (newM r cr now).c.2.2.2.2.1:=by rw[new_c];rfl
  rw[hc] at hmom ⊢;refine(congrArg (fun z=>Option.bind z _) hmom).trans ?_;rfl

abbrev Mom:=StT×Place×Int×Unit
theorem trace_of {r:Rules} {cr:CRule} {l:Jn} {ms:List Mom} (h:qar r cr l=some (ms,(0,()))) (hl:ms.length≤1000):qgs r cr l=some (ms.map (·.1),(0,())):=by
  unfold qgs;rw[h,Option.bind_some];simp only[bne_self_eq_false,cond_false]
  have:=qnz ms 1 (qdj (ms,((0:Int),()))) (fun x=>[x.1]) (fun a=>((a,()),())) [] (fun x _=>Nat.le_refl _) (fun i hi a ha=>by
    simp only[List.length_nil] at ha;unfold qdj;simp only[qK,agree_self];rw[show decide ((i:Int)<((ms.length:Nat):Int))=true by simp;omega,cond_true,inb_iff.2 (by omega),qb,Int.toNat_natCast,gd_eq ms i hi,qJ (by simp only[List.length_cons,List.length_nil];omega),qb,qg (n:=(i:Int)+1) (by omega) (by omega)]) (fun a=>by
    unfold qdj
    simp)
  rw[this,Option.bind_some];have hm:ms.flatMap (fun x=>[x.1])=ms.map (·.1):=by
    induction ms with
    | nil=>rfl
    | cons x ms ih=>rw[List.flatMap_cons,List.map_cons];exact congrArg (x.1 :: ·) (by
        clear this h hl;clear ih
        induction ms with
        | nil=>rfl
        | cons y ms ih=>rw[List.flatMap_cons,List.map_cons];exact congrArg (y.1 :: ·) ih)
  rw[hm];rfl
abbrev qov:=Int×Int×Int×Int×Mv×Unit
def fitC (c:qov) (n:Int):Bool:=!((((((decide (c.1<(0:Int)))||(decide (c.1>(4:Int))))||((c.2.2.1 !=(0:Int))&&(c.2.2.1 !=(1:Int))))||(decide (c.2.1<(0:Int))))||(decide (c.2.1≥n)))||(((c.1==(4:Int))&&(c.2.2.2.1 !=(0:Int)))&&(c.2.2.2.1 !=(1:Int))))
theorem check_C (c:qov) (n:Int):qcj c n=if fitC c n=true then 0 else 1:=by
  unfold qcj fitC
  cases (((((((decide (c.1<(0:Int)))||(decide (c.1>(4:Int))))||((c.2.2.1 !=(0:Int))&&(c.2.2.1 !=(1:Int))))||(decide (c.2.1<(0:Int))))||(decide (c.2.1≥n)))||(((c.1==(4:Int))&&(c.2.2.2.1 !=(0:Int)))&&(c.2.2.2.1 !=(1:Int)))))<;>rfl

theorem qxD {r:Rules} {cr:CRule}:∀(es:List Ev) (m:MS),(momsM r cr m es).length=es.length
  | [],m=>rfl
  | e::es,m=>by
    unfold momsM;rw[List.length_cons,List.length_cons,qxD es]
theorem qxk {r:Rules} {cr:CRule}:∀(es:List Ev) (m:MS) (i:Nat) (hi:i<es.length),(momsM r cr m es)[i]?=some (momM (runE r cr m (es.take (i+1))) es[i].2.2.2.1)
  | [],m,i,hi=>absurd hi (Nat.not_lt_zero _)
  | e::es,m,0,hi=>rfl
  | e::es,m,i+1,hi=>by
    unfold momsM;rw[List.getElem?_cons_succ,qxk es _ i (by simpa using hi)];rfl
noncomputable def allM (r:Rules) (cr:CRule) (m:MS) (now:Int) (es:List Ev):List Mom:=momM m now::momsM r cr m es
theorem qvS {r:Rules} {cr:CRule} {m:MS} {now:Int} {es:List Ev}:(allM r cr m now es).length=es.length+1:=by
  unfold allM;rw[List.length_cons,qxD]
theorem all_get {r:Rules} {cr:CRule} {m:MS} {now:Int} {es:List Ev} (i:Nat) (hi:i<(allM r cr m now es).length):∃t,(allM r cr m now es)[i]=momM (runE r cr m (es.take i)) t:=by
  have hl:=qvS (r:=r) (cr:=cr) (m:=m) (now:=now) (es:=es)
  cases i with
  | zero=>exact⟨now,rfl⟩
  | succ i =>
    have hi':i<es.length:=by omega
    have:=qxk (r:=r) (cr:=cr) es m i hi';refine⟨es[i].2.2.2.1,?_⟩;have h2:(allM r cr m now es)[i+1]?=some (momM (runE r cr m (es.take (i+1))) es[i].2.2.2.1):=by
      unfold allM;rw[List.getElem?_cons_succ];exact this
    rw[List.getElem?_eq_getElem hi] at h2;exact Option.some.inj h2

def setI {A:Type} (f:Nat→A) (K:Int) (v:A):A×A×A×A×A×A×Unit:=((bif (K==(0:Int)) then v else f 0),(bif (K==(1:Int)) then v else f 1),(bif (K==(2:Int)) then v else f 2),(bif (K==(3:Int)) then v else f 3),(bif (K==(4:Int)) then v else f 4),(bif (K==(5:Int)) then v else f 5),())
def getI {A:Type} (f:Nat→A) (d:A) (K:Int):A:=getD' [f 0,f 1,f 2,f 3,f 4,f 5] K.toNat d
theorem qmG {A:Type} (f:Nat→A) (v:A) (k:Nat) (h:k<6):setI f (k:Int) v=tup (fun j=>if j=k then v else f j):=tup_set f v k h
theorem qgj {A:Type} (f:Nat→A) (d:A) (k:Nat) (h:k<6):getI f d (k:Int)=f k:=tup_get f d k h
theorem inb6 {k:Nat} (h:k<6):inb (k:Int) 6=true:=inb_iff.2 (by omega)

def ownC (p:Place) (pl:Int) (i j:Nat):Int:=(((p.1.take i).countP (fun c=>ownB pl c&&(kc c==j)):Nat):Int)
def qfW (p:Place) (pl:Int) (n i j:Nat):Int:=ownC p pl p.1.length j+(if j<i then hk p pl j else 0)
def haveF (r:Rules) (p:Place) (pl:Int) (j:Nat):Int:=qfW p pl r.pieces.length r.pieces.length j
theorem qsu (p:Place) (pl:Int) (i j:Nat):0≤ownC p pl i j∧ownC p pl i j≤i:=by
  have:(p.1.take i).countP (fun c=>ownB pl c&&(kc c==j))≤i:=by rw[List.countP_eq_length_filter];exact qvp _ _ _
  unfold ownC;omega
theorem qsG {r:Rules} {p:Place} (hv:Valid r p) {pl:Int} (hpl:pl=0∨pl=1) (n i j:Nat):0≤qfW p pl n i j∧qfW p pl n i j≤1064:=by
  have h1:=qsu p pl p.1.length j;have h2:=qi6 hv;have h3:=quQ hv hpl j;unfold qfW
  split<;>omega

theorem A1_eq (p:Place) (pl i:Int) (f:Nat→Int):qfO p pl ((i,()),(tup f,()))=bif decide (i<((p.1.length:Nat):Int)) then Option.bind (at? p.1 i) (fun d=>req (imp (decide (d>0)) true) (Option.bind (bif ownB pl d then req (inb (w64 ((w64 (d-1)).tdiv 2)) 6) (req (inb (w64 ((w64 (d-1)).tdiv 2)) 6) (some ((),(setI f (w64 ((w64 (d-1)).tdiv 2)) (w64 (getI f 0 (w64 ((w64 (d-1)).tdiv 2))+1)),())))) else some ((),(tup f,()))) fun x3:Unit×((Int×Int×Int×Int×Int×Int×Unit)×Unit)=>some (Sum.inl ((w64 (i+1),()),(x3.2.1,()))))) else some (Sum.inr ((),(tup f,()))):=rfl
theorem A1_spec {r:Rules} {p:Place} (hv:Valid r p) (pl:Int):iterW (qfO p pl) (((0:Int),()),(tup (fun _=>(0:Int)),()))=some ((),(tup (ownC p pl p.1.length),())):=by
  have hc64:=qi6 hv;have ht6:=hv.r0.t6
  have:=qab (f:=qfO p pl) p.1.length (fun i=>(((i:Int),()),(tup (ownC p pl i),()))) ((),(tup (ownC p pl p.1.length),())) (fun i hi=>by
    have hm:p.1[i]∈p.1:=List.getElem_mem _;have h12:=qwt hv hm;rw[A1_eq,ltd p.1 i hi,cond_true,at?_eq _ _ (by omega) (by omega)];simp only[Option.bind_some,Int.toNat_natCast,himp,qb];rw[qg (n:=(i:Int)+1) (by omega) (by omega)]
    cases hq:ownB pl p.1[i] with
    | true =>
      have hp0:=qph hq
      have hk6:kc p.1[i]<6:=by unfold kc;omega
      have hcr:=qsu p pl i (kc p.1[i]);rw[kc_eq hp0 h12.2.2,inb6 hk6,qb,qb,cond_true,qgj _ _ _ hk6,qmG _ _ _ hk6,qg (n:=ownC p pl i (kc p.1[i])+1) (by omega) (by omega),Option.bind_some];have:(fun j=>if j=kc p.1[i] then ownC p pl i (kc p.1[i])+1 else ownC p pl i j)=ownC p pl (i+1):=by
        funext j;unfold ownC;rw[List.take_succ_eq_append_getElem hi,List.countP_append,List.countP_singleton,hq,Bool.true_and];by_cases e:j=kc p.1[i]
        · subst e;simp
        · rw[if_neg e,beq_f (fun h=>e h.symm)];simp
      rw[this];rfl
    | false =>
      rw[cond_false,Option.bind_some];have:ownC p pl (i+1)=ownC p pl i:=by
        funext j;unfold ownC;rw[List.take_succ_eq_append_getElem hi,List.countP_append,List.countP_singleton,hq,Bool.false_and];simp
      rw[this]
      rfl) (by rw[A1_eq,nltd,cond_false])
  have e0:ownC p pl 0=fun _=>(0:Int):=by
    funext j;unfold ownC;simp
  rw[←e0];exact this
theorem A2_eq (p:Place) (pl i:Int) (f:Nat→Int):qfK p pl ((i,()),(tup f,()))=bif decide (i<(((handP p pl).length:Nat):Int)) then Option.bind (at? (handP p pl) i) (fun d=>req (inb i 6) (req (inb i 6) (some (Sum.inl ((w64 (i+1),()),(setI f i (w64 (getI f 0 i+d)),())))))) else some (Sum.inr ((),(tup f,()))):=rfl
theorem A2_spec {r:Rules} {p:Place} (hv:Valid r p) {pl:Int} (hpl:pl=0∨pl=1):iterW (qfK p pl) (((0:Int),()),(tup (ownC p pl p.1.length),()))=some ((),(tup (haveF r p pl),())):=by
  have hc64:=qi6 hv;have ht6:=hv.r0.t6;have hH:=quY hv hpl
  have:=qab (f:=qfK p pl) r.pieces.length (fun i=>(((i:Int),()),(tup (qfW p pl r.pieces.length i),()))) ((),(tup (haveF r p pl),())) (fun i hi=>by
    have hhr:=qsG hv hpl r.pieces.length i i;have hk1:=quQ hv hpl i;rw[A2_eq,ltd (handP p pl) i (by omega),cond_true,at?_eq _ _ (by omega) (by omega)];simp only[Option.bind_some,Int.toNat_natCast];rw[show(handP p pl)[i]'(by omega)=hk p pl i from(gd_eq _ i (by omega) 0).symm,qg (n:=(i:Int)+1) (by omega) (by omega),inb6 (by omega),qb,qb,qgj _ _ _ (by omega),qmG _ _ _ (by omega),qg (n:=qfW p pl r.pieces.length i i+hk p pl i) (by omega) (by omega)];have:(fun j=>if j=i then qfW p pl r.pieces.length i i+hk p pl i else qfW p pl r.pieces.length i j)=qfW p pl r.pieces.length (i+1):=by
      funext j;unfold qfW;by_cases e:j=i
      · subst e;rw[if_pos rfl,if_neg (by omega),if_pos (by omega)];omega
      · rw[if_neg e];by_cases e2:j<i
        · rw[if_pos e2,if_pos (by omega)]
        · rw[if_neg e2,if_neg (by omega)]
    rw[this]
    rfl) (by
    rw[A2_eq,show((r.pieces.length:Nat):Int)=(((handP p pl).length:Nat):Int) by rw[hH],nltd,cond_false]
    rfl)
  have e0:qfW p pl r.pieces.length 0=ownC p pl p.1.length:=by
    funext j;unfold qfW;rw[if_neg (by omega),Int.add_zero]
  rw[←e0];exact this
theorem A4_eq (q:Piece) (b0:Bool) (a0 k:Int) (H:Nat→Int) (b:Bool) (j:Int):qfi q ((b0,a0,k,()),()) ((),(tup H,())) ((b,j,()),())=bif decide (j<((q.2.2.2.1.length:Nat):Int)) then Option.bind (at? q.2.2.2.1 j) (fun w=>req (imp (!b) (inb k 6)) (some (Sum.inl ((b||(decide (getI H 0 k>0)&&decide (w.2.2.2.1>0)),w64 (j+1),()),())))) else some (Sum.inr ((b,()),())):=rfl
def qpI (r:Rules) (H:Nat→Int) (k:Nat):Bool:=(qgR r k).2.2.2.1.any fun w=>decide (H k>0)&&decide (w.2.2.2.1>0)
theorem A4_spec (q:Piece) (hq:q.2.2.2.1.length≤16) (b0:Bool) (a0:Int) (k:Nat) (hk':k<6) (H:Nat→Int) (b:Bool):iterW (qfi q ((b0,a0,(k:Int),()),()) ((),(tup H,()))) ((b,(0:Int),()),())=some ((b||q.2.2.2.1.any (fun w=>decide (H k>0)&&decide (w.2.2.2.1>0)),()),()):=by
  have:=qab (f:=qfi q ((b0,a0,(k:Int),()),()) ((),(tup H,()))) q.2.2.2.1.length (fun j=>((b||(q.2.2.2.1.take j).any (fun w=>decide (H k>0)&&decide (w.2.2.2.1>0)),(j:Int),()),())) ((b||q.2.2.2.1.any (fun w=>decide (H k>0)&&decide (w.2.2.2.1>0)),()),()) (fun j hj=>by
    rw[A4_eq,ltd _ j hj,cond_true,at?_eq _ _ (by omega) (by omega),Option.bind_some,inb6 hk',himp,qb,qgj _ _ _ hk',qg (n:=(j:Int)+1) (by omega) (by omega),List.take_succ_eq_append_getElem hj,List.any_append,←Bool.or_assoc]
    simp) (by rw[A4_eq,nltd,cond_false,List.take_length])
  have e:(b||(q.2.2.2.1.take 0).any (fun w=>decide (H k>0)&&decide (w.2.2.2.1>0)))=b:=by simp
  simp only[e] at this;exact this
theorem A3_eq (r:Rules) (H:Nat→Int) (b:Bool) (a k:Int):qfv r ((),(tup H,())) ((b,a,k,()),())=bif decide (k<((r.2.2.2.1.length:Nat):Int)) then Option.bind (Option.bind (at? r.2.2.2.1 k) fun d=>req (inb k 6) (Option.bind (iterW (qfi d ((b,a,k,()),()) ((),(tup H,()))) ((b,(0:Int),()),())) fun x12=>some ((x12.1.1,w64 (a+getI H 0 k),()),()))) (fun x13:(Bool×Int×Unit)×Unit=>some (Sum.inl ((x13.1.1,x13.1.2.1,w64 (k+1),()),()))) else some (Sum.inr ((b,a,()),())):=rfl
theorem A3_spec {r:Rules} (hv:VR0 r) (H:Nat→Int) (hH:∀j,0≤H j∧H j≤1064):iterW (qfv r ((),(tup H,()))) ((false,(0:Int),(0:Int),()),())=some (((List.range r.pieces.length).any (qpI r H),sumN H r.pieces.length,()),()):=by
  have ht6:=hv.t6;have hn:r.2.2.2.1.length=r.pieces.length:=rfl
  exact qab (f:=qfv r ((),(tup H,()))) r.pieces.length (fun k=>(((List.range k).any (qpI r H),sumN H k,(k:Int),()),())) (((List.range r.pieces.length).any (qpI r H),sumN H r.pieces.length,()),()) (fun k hk=>by
    have hs:=qpb H 1064 k (fun j _=>hH j);have hh:=hH k;rw[A3_eq,decide_eq_true (by omega),cond_true,qmO r hk,Option.bind_some,inb6 (by omega),qb,A4_spec _ (hv.ways _ (qhd r hk)) _ _ k (by omega),Option.bind_some,qgj _ _ _ (by omega),qg (n:=(k:Int)+1) (by omega) (by omega),qg (n:=sumN H k+H k) (by omega) (by omega),Option.bind_some,List.range_succ,List.any_append];simp only[List.any_cons,List.any_nil,Bool.or_false]
    rfl) (by rw[A3_eq,decide_eq_false (by omega),cond_false])
theorem A7_eq (r:Rules) (i:Int) (f:Nat→Bool):qfg r ((i,()),(tup f,()))=bif decide (i<((r.2.2.2.1.length:Nat):Int)) then Option.bind (at? r.2.2.2.1 i) (fun d=>req (inb i 6) (req (imp (decide (d.2.2.1>0)&&(!(getI f false i))) (inb (w64 (d.2.2.1-1)) 6)) (req (inb i 6) (some (Sum.inl ((w64 (i+1),()),(setI f i (getI f false i||(decide (d.2.2.1>0)&&getI f false (w64 (d.2.2.1-1)))),()))))))) else some (Sum.inr ((),(tup f,()))):=rfl
theorem A7_spec {r:Rules} (hv:VR0 r) (f:Nat→Bool):iterW (qfg r) (((0:Int),()),(tup f,()))=some ((),(tup (passL (prN r) (List.range r.pieces.length) f),())):=by
  have ht6:=hv.t6;have hn:r.2.2.2.1.length=r.pieces.length:=rfl
  exact qab (f:=qfg r) r.pieces.length (fun i=>(((i:Int),()),(tup (passL (prN r) (List.range i) f),()))) ((),(tup (passL (prN r) (List.range r.pieces.length) f),())) (fun i hi=>by
    have hp:=hv.prom _ (qhd r hi);have e1:passL (prN r) (List.range (i+1)) f=passG (prN r) (passL (prN r) (List.range i) f) i:=by
      unfold passL;rw[List.range_succ,List.foldl_append];rfl
    rw[A7_eq,decide_eq_true (by omega),cond_true,qmO r hi,Option.bind_some,inb6 (by omega),qb,qgj _ _ _ (by omega),qg (n:=(i:Int)+1) (by omega) (by omega),e1];generalize passL (prN r) (List.range i) f=F;by_cases c:(qgR r i).2.2.1>0
    · have e2:w64 ((qgR r i).2.2.1-1)=((prN r i-1:Nat):Int):=by
        unfold prN;rw[qg (by omega) (by omega)];omega
      have h6:prN r i-1<6:=by unfold prN;omega
      rw[e2,inb6 h6,himp,qb,qb,qgj _ _ _ h6,qmG _ _ _ (by omega)];unfold passG;rw[decide_eq_true c,decide_eq_true (show 0<prN r i by unfold prN;omega)];rfl
    · rw[decide_eq_false c,qmG _ _ _ (by omega)];unfold passG;rw[decide_eq_false (show ¬0<prN r i by unfold prN;omega)]
      rfl) (by rw[A7_eq,decide_eq_false (by omega),cond_false])
theorem A6_eq (r:Rules) (t:Int) (f:Nat→Bool):qfH r ((t,()),(tup f,()))=bif decide (t<((r.2.2.2.1.length:Nat):Int)) then Option.bind (Option.bind (iterW (qfg r) (((0:Int),()),(tup f,()))) fun x20=>some ((),(x20.2.1,()))) (fun x21:Unit×((Bool×Bool×Bool×Bool×Bool×Bool×Unit)×Unit)=>some (Sum.inl ((w64 (t+1),()),(x21.2.1,())))) else some (Sum.inr ((),(tup f,()))):=rfl
theorem A6_spec {r:Rules} (hv:VR0 r) (g:Nat):iterW (qfH r) (((0:Int),()),(tup (closN (prN r) r.pieces.length g 0),()))=some ((),(tup (closN (prN r) r.pieces.length g r.pieces.length),())):=by
  have ht6:=hv.t6;have hn:r.2.2.2.1.length=r.pieces.length:=rfl
  exact qab (f:=qfH r) r.pieces.length (fun t=>(((t:Int),()),(tup (closN (prN r) r.pieces.length g t),()))) ((),(tup (closN (prN r) r.pieces.length g r.pieces.length),())) (fun t ht=>by
    rw[A6_eq,decide_eq_true (by omega),cond_true,A7_spec hv,Option.bind_some,Option.bind_some,qg (n:=(t:Int)+1) (by omega) (by omega)]
    rfl) (by rw[A6_eq,decide_eq_false (by omega),cond_false])
theorem A8_eq (r:Rules) (F:Nat→Bool) (H:Nat→Int) (a k:Int):qfF r ((),(tup F,())) ((),(tup H,())) ((a,k,()),())=bif decide (k<((r.2.2.2.1.length:Nat):Int)) then req (inb k 6) (Option.bind (bif getI F false k then req (inb k 6) (some ((w64 (a+getI H 0 k),()),())) else some ((a,()),())) fun x24:(Int×Unit)×Unit=>some (Sum.inl ((x24.1.1,w64 (k+1),()),()))) else some (Sum.inr ((a,()),())):=rfl
def someF (F:Nat→Bool) (H:Nat→Int) (j:Nat):Int:=if F j=true then H j else 0
theorem A8_spec {r:Rules} (hv:VR0 r) (F:Nat→Bool) (H:Nat→Int) (hH:∀j,0≤H j∧H j≤1064):iterW (qfF r ((),(tup F,())) ((),(tup H,()))) (((0:Int),(0:Int),()),())=some ((sumN (someF F H) r.pieces.length,()),()):=by
  have ht6:=hv.t6;have hn:r.2.2.2.1.length=r.pieces.length:=rfl;have hS:∀j,0≤someF F H j∧someF F H j≤1064:=fun j=>by
    have:=hH j;unfold someF
    split<;>omega
  exact qab (f:=qfF r ((),(tup F,())) ((),(tup H,()))) r.pieces.length (fun k=>((sumN (someF F H) k,(k:Int),()),())) ((sumN (someF F H) r.pieces.length,()),()) (fun k hk=>by
    have hs:=qpb (someF F H) 1064 k (fun j _=>hS j);have hh:=hH k;have e:sumN (someF F H) (k+1)=sumN (someF F H) k+someF F H k:=rfl;rw[A8_eq,decide_eq_true (by omega),cond_true,inb6 (by omega),qb,qb,qgj _ _ _ (by omega),qgj _ _ _ (by omega),qg (n:=(k:Int)+1) (by omega) (by omega),qg (n:=sumN (someF F H) k+H k) (by omega) (by omega),e];unfold someF
    cases F k with
    | true=>rfl
    | false =>
      simp) (by rw[A8_eq,decide_eq_false (by omega),cond_false])
def outX (r:Rules) (H:Nat→Int) (T:Bool) (all:Int) (x:End):Bool:=((x.2.2.2.1||((x.1==0)&&(decide (all≥x.2.2.1)||(r.keeps&&T))))||((x.1==1)&&(decide (sumN (someF (closN (prN r) r.pieces.length x.2.1.toNat r.pieces.length) H) r.pieces.length>0)||(r.keeps&&T))))||(x.1==2)
theorem A5_eq (r:Rules) (H:Nat→Int) (T:Bool) (all:Int) (b:Bool) (i:Int):qfA r ((),(tup H,())) ((T,all,()),()) ((b,i,()),())=bif decide (i<((r.2.2.2.2.2.2.2.1.length:Nat):Int)) then Option.bind (Option.bind (at? r.2.2.2.2.2.2.2.1 i) fun x=>req (inb x.2.1 6) (Option.bind (iterW (qfH r) (((0:Int),()),(setI (fun _=>false) x.2.1 true,()))) fun x22=>Option.bind (iterW (qfF r x22 ((),(tup H,()))) (((0:Int),(0:Int),()),())) fun x25=>some ((((((b||x.2.2.2.1)||((x.1==(0:Int))&&((decide (all≥x.2.2.1))||(r.2.2.2.2.2.2.1&&T))))||((x.1==(1:Int))&&((decide (x25.1.1>(0:Int)))||(r.2.2.2.2.2.2.1&&T))))||(x.1==(2:Int))),()),()))) (fun x26:(Bool×Unit)×Unit=>some (Sum.inl ((x26.1.1,w64 (i+1),()),()))) else some (Sum.inr ((b,()),())):=rfl
theorem qym {r:Rules} (hv:VR0 r) {x:End} (hx:x∈r.ends):0≤x.2.1∧x.2.1.toNat<r.pieces.length:=by
  have hE:=(hv.ends x hx).2.2;have ht1:=hv.t1
  split at hE<;>omega
theorem A5_spec {r:Rules} (hv:VR0 r) (H:Nat→Int) (hH:∀j,0≤H j∧H j≤1064) (T:Bool) (all:Int) (b:Bool):iterW (qfA r ((),(tup H,())) ((T,all,()),())) ((b,(0:Int),()),())=some ((b||r.ends.any (outX r H T all),()),()):=by
  have ht6:=hv.t6;have he6:=hv.ends6
  have:=qab (f:=qfA r ((),(tup H,())) ((T,all,()),())) r.ends.length (fun i=>((b||(r.ends.take i).any (outX r H T all),(i:Int),()),())) ((b||r.ends.any (outX r H T all),()),()) (fun i hi=>by
    have hx:r.ends[i]∈r.ends:=List.getElem_mem _;have hg:=qym hv hx
    have hg':r.ends[i].2.1=((r.ends[i].2.1.toNat:Nat):Int):=by omega
    have ha:at? r.2.2.2.2.2.2.2.1 (i:Int)=some r.ends[i]:=by
      rw[at?_eq _ _ (by omega) (by show(i:Int)<((r.ends.length:Nat):Int);omega)];rfl
    rw[A5_eq,show decide ((i:Int)<((r.2.2.2.2.2.2.2.1.length:Nat):Int))=true from ltd r.ends i hi,cond_true,ha,Option.bind_some,qg (n:=(i:Int)+1) (by omega) (by omega),List.take_succ_eq_append_getElem hi,List.any_append];generalize r.ends[i]=x at hg hg' ⊢;have e0:setI (fun _=>false) x.2.1 true=tup (closN (prN r) r.pieces.length x.2.1.toNat 0):=by
      rw[hg',qmG _ _ _ (by omega)];refine congrArg tup (funext fun j=>?_);show(if j=x.2.1.toNat then true else false)=(j==x.2.1.toNat);by_cases e:j=x.2.1.toNat
      · rw[beq_t e,if_pos e]
      · rw[beq_f e,if_neg e]
    rw[e0,A6_spec hv,Option.bind_some,A8_spec hv _ _ hH,Option.bind_some,show inb x.2.1 6=true by rw[hg'];exact inb6 (by omega),qb];simp only[Option.bind_some];unfold outX;simp only[List.any_cons,List.any_nil,Bool.or_false,Bool.or_assoc]
    rfl) (by
    rw[A5_eq,show decide (((r.ends.length:Nat):Int)<((r.2.2.2.2.2.2.2.1.length:Nat):Int))=false from nltd r.ends,cond_false,List.take_length])
  have e:(b||(r.ends.take 0).any (outX r H T all))=b:=by simp
  simp only[e] at this;exact this
theorem qxT (r:Rules) (p:Place) (pl:Int):qo9 r p pl=Option.bind (iterW (qfO p pl) (((0:Int),()),(tup (fun _=>(0:Int)),()))) (fun x4=>req (inb pl 2) (Option.bind (iterW (qfK p pl) (((0:Int),()),(x4.2.1,()))) fun x7=>Option.bind (iterW (qfv r x7) ((false,(0:Int),(0:Int),()),())) fun x14=>Option.bind (iterW (qfA r x7 x14) (((r.2.2.2.2.2.2.2.2.1 !=(2:Int)),(0:Int),()),())) fun x27=>some x27.1.1)):=rfl
def refR (r:Rules) (p:Place) (pl:Int):Bool:=(r.blocked !=2)||r.ends.any (outX r (haveF r p pl) ((List.range r.pieces.length).any (qpI r (haveF r p pl))) (sumN (haveF r p pl) r.pieces.length))
theorem quh {r:Rules} {p:Place} (hv:Valid r p) {pl:Int} (hpl:pl=0∨pl=1):qo9 r p pl=some (refR r p pl):=by
  have hH:∀j,0≤haveF r p pl j∧haveF r p pl j≤1064:=fun j=>qsG hv hpl _ _ j;rw[qxT,A1_spec hv,Option.bind_some,show inb pl 2=true from inb_iff.2 (by omega),qb,A2_spec hv hpl,Option.bind_some,A3_spec hv.r0 _ hH,Option.bind_some,A5_spec hv.r0 _ hH,Option.bind_some];rfl
theorem qw9 (r:Rules) {p:Place} (hv:Valid r p) {pl:Int} (hpl:pl=0∨pl=1) {k:Nat} (hk':k<r.pieces.length):0<haveF r p pl k↔((∃c∈p.1,ownB pl c=true∧kc c=k)∨(k<r.pieces.length∧hk p pl k>0)):=by
  have h1:=quQ hv hpl k;have h2:=qsu p pl p.1.length k;have h3:0<ownC p pl p.1.length k↔∃c∈p.1,ownB pl c=true∧kc c=k:=by
    unfold ownC;rw[List.take_length];rw[show(0:Int)<((p.1.countP (fun c=>ownB pl c&&(kc c==k)):Nat):Int)↔0<p.1.countP (fun c=>ownB pl c&&(kc c==k)) by omega,List.countP_pos_iff];simp only[Bool.and_eq_true,beq_iff_eq]
  rw[←h3];unfold haveF qfW;rw[if_pos hk'];omega
theorem qu8 (r:Rules) {p:Place} (hv:Valid r p) {pl:Int} (hpl:pl=0∨pl=1) (q:Nat→Bool):(qbi p pl r.pieces.length).any q=true↔∃k,k<r.pieces.length∧q k=true∧0<haveF r p pl k:=by
  constructor
  · intro h;obtain⟨k,hk1,hq⟩:=List.any_eq_true.1 h;have hlt:=qsI hv hk1;refine⟨k,hlt,hq,?_⟩;rw[qw9 r hv hpl hlt];have:=(quJ (p:=p) (pl:=pl) (n:=r.pieces.length) (fun j=>j==k)).1 (List.any_eq_true.2 ⟨k,hk1,by simp⟩);obtain⟨j,hj,hh⟩:=this
    have hj:j=k:=by simpa using hj
    rw[←hj];exact hh
  · rintro ⟨k,hlt,hq,hh⟩
    exact(quJ q).2 ⟨k,hq,(qw9 r hv hpl hlt).1 hh⟩
theorem all_eq {r:Rules} {p:Place} (hv:Valid r p) {pl:Int}:sumN (haveF r p pl) r.pieces.length=nN p pl r.pieces.length:=by
  unfold nN
  rw[←qr4 (ownB pl) kc r.pieces.length p.1 (fun c hc hq=>by
    have h3:=qwt hv hc;have h4:=qph hq;unfold kc
    omega),←qtt]
  refine qnA _ fun i hi=>?_;unfold haveF qfW ownC;rw[if_pos hi,List.take_length]
theorem x_eq {r:Rules} {p:Place} (hv:Valid r p) {pl:Int} (hpl:pl=0∨pl=1) {x:End} (hx:x∈r.ends):ableX r p pl x=outX r (haveF r p pl) ((List.range r.pieces.length).any (qpI r (haveF r p pl))) (sumN (haveF r p pl) r.pieces.length) x:=by
  have hE:=(hv.r0.ends x hx).1;have hH:∀j,0≤haveF r p pl j∧haveF r p pl j≤1064:=fun j=>qsG hv hpl _ _ j;have e1:(List.range r.pieces.length).any (qpI r (haveF r p pl))=(qbi p pl r.pieces.length).any (qsk r):=by
    rw[Bool.eq_iff_iff,qu8 r hv hpl,List.any_eq_true];constructor
    · rintro ⟨k,hk1,ht⟩
      have hlt:=List.mem_range.1 hk1;unfold qpI at ht;obtain⟨w,hw,hq⟩:=List.any_eq_true.1 ht;rw[Bool.and_eq_true,decide_eq_true_eq,decide_eq_true_eq] at hq;exact⟨k,hlt,List.any_eq_true.2 ⟨w,hw,bne_t (by omega)⟩,hq.1⟩
    · rintro ⟨k,hlt,ht,hh⟩
      unfold qsk at ht;obtain⟨w,hw,hq⟩:=List.any_eq_true.1 ht;have hwr:=(hv.r0.way _ (qhd r hlt) w hw).2.2.2.2
      have hq:¬w.2.2.2.1=0:=by simpa using hq
      exact⟨k,List.mem_range.2 hlt,List.any_eq_true.2 ⟨w,hw,by rw[decide_eq_true hh,decide_eq_true (by omega)];rfl⟩⟩
  have e2:decide (sumN (someF (closN (prN r) r.pieces.length x.2.1.toNat r.pieces.length) (haveF r p pl)) r.pieces.length>0)=(qbi p pl r.pieces.length).any (bec (prN r) x.2.1.toNat (r.pieces.length+1)):=by
    rw[Bool.eq_iff_iff,qu8 r hv hpl,decide_eq_true_eq];show 0<_↔_
    rw[qwr _ _ (fun i _=>by have:=hH i;unfold someF;split<;>omega)]
    constructor
    · rintro ⟨k,hlt,h⟩
      unfold someF at h;split at h
      · rename_i hc;rw[clos_eq _ _ _ (pr_le hv.r0) k hlt] at hc;exact⟨k,hlt,hc,h⟩
      · omega
    · rintro ⟨k,hlt,hb,hh⟩
      refine⟨k,hlt,?_⟩;unfold someF;rw[clos_eq _ _ _ (pr_le hv.r0) k hlt,if_pos hb];exact hh
  unfold ableX outX;rw[e1,e2,all_eq hv];generalize (qbi p pl r.pieces.length).any (qsk r)=T;generalize (qbi p pl r.pieces.length).any (bec (prN r) x.2.1.toNat (r.pieces.length+1))=B;generalize decide (nN p pl r.pieces.length≥x.2.2.1)=C
  obtain h | h | h:x.1=0∨x.1=1∨x.1=2:=by omega
  all_goals
    rw[h];show _=_
    cases x.2.2.2.1<;>cases T<;>cases B<;>cases C<;>cases r.keeps<;>rfl
theorem able_same {r:Rules} {p:Place} (hv:Valid r p) {pl:Int} (hpl:pl=0∨pl=1):ableR r p pl=refR r p pl:=by
  unfold ableR refR;congr 1;rw[Bool.eq_iff_iff,List.any_eq_true,List.any_eq_true];constructor
  · rintro ⟨x,hx,h⟩
    exact⟨x,hx,by rw[←x_eq hv hpl hx];exact h⟩
  · rintro ⟨x,hx,h⟩
    exact⟨x,hx,by rw[x_eq hv hpl hx];exact h⟩
end Go.Proofs.YtijkabgijfdpfaaGreatDoor
