/- Several texts in one: GameP, CoreT, GameQ, RecA, AnnA, RecordM, RecB, RecC, AnnB, AnnC, RecD, AnnD, AnnotateMergesM, AnnE, AnnF, AnnG, RecE, RecF, AnnH, AnnI, AnnJ, AnnK. -/
import Derived.Test.YthidcmjpbokeeaaGreatMAE
import Derived.Test.YthidcmjpbokeeaaGreatMAF
import Derived.Test.YthidcmjpbokeeaaGreatMAA
namespace Go.Proofs.YthidcmjpbokeeaaGreat
open Go.Den
set_option linter.unusedVariables false
set_option linter.unusedSimpArgs false
set_option maxRecDepth 100000

theorem pl_eta (p:Place):(p.1,((p.2.1.1,(p.2.1.2.1,())),p.2.2))=p:=rfl
theorem gd_eq {A:Type} (xs:List A) (i:Nat) (hi:i<xs.length) (d:A):getD' xs i d=xs[i]:=by simp[getD',hi]
theorem ltd {A:Type} (xs:List A) (i:Nat) (hi:i<xs.length):decide ((i:Int)<((xs.length:Nat):Int))=true:=by simp;omega
theorem nltd {A:Type} (xs:List A):decide (((xs.length:Nat):Int)<((xs.length:Nat):Int))=false:=by simp
theorem inbN {A:Type} (xs:List A) (i:Nat) (hi:i<xs.length):inb (i:Int) xs.length=true:=inb_iff.2 ⟨by omega,by omega⟩
theorem qqX (a b:List Int) (ha:a.length≤1000000000):qaI a b=some (decide (a=b)):=by
  unfold qaI;by_cases hl:a.length=b.length
  · have e:(((a.length:Nat):Int)!=((b.length:Nat):Int))=false:=bne_f (by omega);rw[e,cond_false]
    have hL:=qt (List.range a.length) (fun i=>a.getD i 0 !=b.getD i 0) (qa6 a b) (.inr false) (.inl ((),())) (fun i hi=>by
      have hi':i<a.length:=by simpa using hi
      unfold qa6;simp only[show decide ((i:Int)<((a.length:Nat):Int))=true by simp;omega,cond_true,List.getElem_range];rw[at?_eq a _ (by omega) (by omega),at?_eq b _ (by omega) (by omega),Option.bind_some,Option.bind_some,qg (n:=(i:Int)+1) (by omega) (by omega)];simp only[Int.toNat_natCast,List.getD_eq_getElem?_getD,List.getElem?_eq_getElem hi',List.getElem?_eq_getElem (show i<b.length by omega),Option.getD_some]
      cases (a[i]!=b[i])<;>rfl) (by unfold qa6;simp)
    rw[hL]
    cases hany:(List.range a.length).any (fun i=>a.getD i 0 !=b.getD i 0) with
    | true =>
      rw[List.any_eq_true] at hany;obtain⟨i,_,h⟩:=hany
      have:¬a=b:=fun e=>by subst e;simp at h
      simp[this]
    | false =>
      rw[List.any_eq_false] at hany;have:a=b:=by
        apply List.ext_getElem hl;intro i h1 h2;have:=hany i (List.mem_range.2 h1);simpa[List.getD_eq_getElem?_getD,h1,h2] using this
      simp[this]
  · have e:(((a.length:Nat):Int)!=((b.length:Nat):Int))=true:=bne_t (by omega);rw[e,cond_true];have:¬a=b:=fun h=>hl (by rw[h]);simp[this]
def same0 (p q:Place):Bool:=((decide (p.1=q.1)&&decide (p.2.1.1=q.2.1.1))&&decide (p.2.1.2.1=q.2.1.2.1))&&(p.2.2.1==q.2.2.1)
theorem qpx {r:Rules} {p q:Place} (h:Valid r p):qbV p q=some (same0 p q):=by
  have h64:=qbH h;have t6:=h.r0.t6;have l0:p.2.1.1.length=r.pieces.length:=h.l0;have l1:p.2.1.2.1.length=r.pieces.length:=h.l1;unfold qbV same0;rw[qqX _ _ (by omega),qqX _ _ (by omega),qqX _ _ (by omega)]
  have hg:∀b c:Bool,gopt b false (some c)=some (b&&c):=fun b c=>by cases b<;>rfl
  simp only[hg,Option.bind_some,Option.some.injEq]
  cases decide (p.1=q.1)<;>cases decide (p.2.1.1=q.2.1.1)<;>cases decide (p.2.1.2.1=q.2.1.2.1)<;>cases (p.2.2.1==q.2.2.1)<;>rfl
theorem qsy {r:Rules} {p:Place} (h:Valid r p):qdC p=some p:=by
  have h64:=qbH h;have t6:=h.r0.t6;have l0:p.2.1.1.length=r.pieces.length:=h.l0;have l1:p.2.1.2.1.length=r.pieces.length:=h.l1;unfold qdC;simp only[agree_self];rw[qek _ (by omega),Option.bind_some,qek _ (by omega),Option.bind_some,qek _ (by omega)];rfl
theorem qsM (s:List (Int×Int×Int×Int×Unit)) (h:s.length≤1000000):qaT s=some s:=by
  unfold qaT;have:room (([]:List (Int×Int×Int×Int×Unit)).length+s.length) 32=true:=qR (by simp;omega);rw[this]
  cases s with
  | nil=>simp[qd,agree_self]
  | cons a l=>simp[qd]
theorem qso (s:List (Int×Int×Int×Bool×Unit)) (h:s.length≤1000000):qaq s=some s:=by
  unfold qaq;have:room (([]:List (Int×Int×Int×Bool×Unit)).length+s.length) 32=true:=qR (by simp;omega);rw[this]
  cases s with
  | nil=>simp[qd,agree_self]
  | cons a l=>simp[qd]
theorem qsm {r:Rules} (h:VR0 r):qeQ r=some r:=by
  have t6:r.2.2.2.1.length≤6:=h.t6;have e6:r.2.2.2.2.2.2.2.1.length≤6:=h.ends6;have hs:((r.2.2.2.2.1.length:Nat):Int)=r.width*r.height:=h.start;have ha:=h.area;unfold qeQ;simp only[agree_self]
  have hL:=qel (f:=qcK r) r.2.2.2.1.length (fun i=>(((i:Int),()),((r.1,(r.2.1,(r.2.2.1,(r.2.2.2.1.take i,r.2.2.2.2)))),()))) ((),((r.1,(r.2.1,(r.2.2.1,(r.2.2.2.1,r.2.2.2.2)))),())) (fun i hi=>by
    unfold qcK;simp only[show decide ((i:Int)<((r.2.2.2.1.length:Nat):Int))=true by simp;omega,cond_true];rw[at?_eq _ _ (by omega) (by omega),Option.bind_some];simp only[Int.toNat_natCast];rw[qsM _ (by have:r.2.2.2.1[i].2.2.2.1.length≤16:=h.ways _ (List.getElem_mem hi);omega),Option.bind_some];have hroom:∀z:Piece,room ((r.2.2.2.1.take i).length+[z].length) 48=true:=fun z=>qR (by simp;omega);rw[hroom,qd,qg (n:=(i:Int)+1) (by omega) (by omega),List.take_succ_eq_append_getElem hi]
    rfl) (by
    unfold qcK
    simp only[show decide (((r.2.2.2.1.length:Nat):Int)<((r.2.2.2.1.length:Nat):Int))=false by simp,cond_false,List.take_length])
  have hL':iterW (qcK r) (((0:Int),()),((r.1,(r.2.1,(r.2.2.1,(([]:List Piece),r.2.2.2.2)))),()))=_:=hL;rw[hL',Option.bind_some,qek _ (by omega),Option.bind_some,qso _ (by omega)];rfl
theorem qrF {r:Rules} {p:Place} (c:qw r=0) (h:Valid r p):qat r p=0:=by
  unfold qat;rw[if_neg (by simp[c])];have h1:qhN r p=false:=by
    unfold qhN;rw[bne_f h.cells,bne_f (by have:=h.l0;omega),bne_f (by have:=h.l1;omega)];rfl
  have h2:qfm r p=false:=by
    unfold qfm;have a1:p.cells.any (outC r)=false:=by
      rw[List.any_eq_false];intro x hx;have:=h.cell x hx;simp[outC];omega
    have a2:(p.h0++p.h1).any outH=false:=by
      rw[List.any_eq_false];intro x hx;have:0≤x∧x≤1000:=(List.mem_append.1 hx).elim (h.hand0 x) (h.hand1 x);simp[outH];omega
    have a3:outT p=false:=by
      have hq:=h.quiet;have ht:=h.turn;simp[outT];omega
    rw[a1,a2,a3];rfl
  rw[h1,h2];rfl
def dP:Place:=([],(([],([],())),((0:Int),((0:Int),()))))
def lastP (l:List Place):Place:=getD' l (l.length-1) dP
def qhS (l:List Place):Nat:=l.countP fun p=>same0 p (lastP l)
def qfA (r:Rules) (l:List Place):Int:=bif ((qcw r (lastP l)==0)&&(r.repeats !=0))&&decide (((qhS l:Nat):Int)≥r.repeats) then 3 else qcw r (lastP l)
structure OKG (r:Rules) (s:List Place×List Mv):Prop where
  ok:qw r=0
  all:∀p∈s.1,Valid r p
  len:s.1.length=s.2.length+1
  most:s.2.length≤400
theorem qrP {l:List Place} (h:0<l.length):lastP l∈l:=by
  unfold lastP;rw[gd_eq l (l.length-1) (by omega)];exact List.getElem_mem _
theorem OKG.last {r:Rules} {s:List Place×List Mv} (h:OKG r s):Valid r (lastP s.1):=h.all _ (qrP (by have:=h.len;omega))
def stepG (r:Rules) (s:List Place×List Mv) (m:Mv):Int:=if qfA r s.1=0 then if qz r (lastP s.1) m=true then if s.2.length=400 then 9 else 0 else 13 else 14
def nextG (r:Rules) (s:List Place×List Mv) (m:Mv):List Place×List Mv:=(s.1++[qlF r (lastP s.1) m],s.2++[m])
theorem qql {r:Rules} {s:List Place×List Mv} {m:Mv} (h:OKG r s) (c:stepG r s m=0):OKG r (nextG r s m):=by
  unfold stepG at c;by_cases c1:qfA r s.1=0
  · rw[if_pos c1] at c;by_cases c2:qz r (lastP s.1) m=true
    · rw[if_pos c2] at c;by_cases c3:s.2.length=400
      · rw[if_pos c3] at c;cases c
      · have hl:=h.len;have hm:=h.most;refine⟨h.ok,fun p hp=>?_,by unfold nextG;simp;omega,by unfold nextG;simp;omega⟩;rcases List.mem_append.1 hp with hp | hp
        · exact h.all p hp
        · rw[List.mem_singleton.1 hp];exact qqt h.last c2
    · rw[if_neg c2] at c;cases c
  · rw[if_neg c1] at c;cases c
noncomputable def cntF (L:List Place) (c i:Int):Option (((Int×Int×Unit)×Unit) ⊕ ((Int×Unit)×Unit)) :=
  bif (decide (i<((L.length:Nat):Int))) then(req (inb i L.length) (Option.bind (req (inb (w64 (((L.length:Nat):Int)-1)) L.length) (Option.bind (qbV (getD' L i.toNat dP) (getD' L (w64 (((L.length:Nat):Int)-1)).toNat dP)) fun x=>some ((x,()),()))) fun x:(Bool×Unit)×Unit =>
    Option.bind (bif x.1.1 then some ((w64 (c+1),()),()) else some ((c,()),())) fun y:(Int×Unit)×Unit=>some (Sum.inl ((y.1.1,w64 (i+1),()),()))))
  else some (Sum.inr ((c,()),()))
theorem qki {A:Type} {L:List A} (h0:0<L.length) (h:L.length≤1000000000):w64 (((L.length:Nat):Int)-1)=((L.length-1:Nat):Int):=by
  rw[qg (by omega) (by omega)];omega
abbrev Game:=Rules×List Place×List Mv×Unit
theorem atP {L:List Place} (h0:0<L.length):at? L ((L.length-1:Nat):Int)=some (lastP L):=by
  rw[at?_eq _ _ (by omega) (by omega)];unfold lastP;rw[gd_eq L _ (by omega)];simp
theorem qp4 {r:Rules} {s:List Place×List Mv} (h:OKG r s):qcx (r,(s.1,(s.2,())))=some ((qhS s.1:Nat):Int):=by
  obtain⟨l,ms⟩:=s;have hl:l.length=ms.length+1:=h.len;have hm:ms.length≤400:=h.most;have hw:=qki (L:=l) (by omega) (by omega)
  have:=qjs l (fun p=>same0 p (lastP l)) (qbr (r,(l,(ms,())))) (fun c=>((c,()),())) (fun i hi c hc0 hc1=>by
    unfold qbr;simp only[agree_self];rw[ltd l i hi,cond_true,at?_eq l _ (by omega) (by omega),Option.bind_some,hw,atP (by omega),Option.bind_some];simp only[Int.toNat_natCast];rw[qpx (h.all _ (List.getElem_mem hi)),Option.bind_some,Option.bind_some];show Option.bind (bif same0 l[i] (lastP l) then _ else _) _=_;rw[qg (n:=c+1) (by omega) (by omega),qg (n:=(i:Int)+1) (by omega) (by omega)];cases same0 l[i] (lastP l)<;>rfl) (fun c=>by
    unfold qbr;simp only
    rw[nltd,cond_false])
  unfold qcx;rw[this];rfl
theorem qkb {r:Rules} {s:List Place×List Mv} (h:OKG r s):qaL (r,(s.1,(s.2,())))=some (qfA r s.1):=by
  have hl:=h.len;have hm:=h.most;have hw:=qki (L:=s.1) (by omega) (by omega);have hrep:r.2.2.2.2.2.2.2.2.2.2.1=r.repeats:=rfl;unfold qaL;simp only[agree_self,hw,atP (show 0<s.1.length by omega),qk7 h.last,Option.bind_some,qp4 h,hrep];unfold qfA
  cases hc:((qcw r (lastP s.1)==0)&&(r.repeats !=0)) with
  | true =>
    simp only[gopt,cond_true,Option.bind_some,Bool.true_and]
    cases decide (((qhS s.1:Nat):Int)≥r.repeats)<;>rfl
  | false=>rfl
theorem qmx {r:Rules} {s:List Place×List Mv} (h:OKG r s):qaH (r,(s.1,(s.2,())))=some (lastP s.1):=by
  have hl:=h.len;have hm:=h.most;have hw:=qki (L:=s.1) (by omega) (by omega);unfold qaH;simp only[hw,atP (show 0<s.1.length by omega),qsy h.last,Option.bind_some,pl_eta]
theorem play_spec {r:Rules} {s:List Place×List Mv} (h:OKG r s) (m:Mv):qb2 (r,(s.1,(s.2,()))) m=some (if stepG r s m=0 then((r,((nextG r s m).1,((nextG r s m).2,()))),0) else((r,(s.1,(s.2,()))),stepG r s m)):=by
  obtain⟨l,ms⟩:=s;have hl:l.length=ms.length+1:=h.len;have hm:ms.length≤400:=h.most;have hv:=h.last;simp only at hv;have hw:=qki (L:=l) (by omega) (by omega);have hi:=inbN l (l.length-1) (by omega);have hla:getD' l (l.length-1) (([],(([],([],())),((0:Int),((0:Int),())))):Place)=lastP l:=rfl;have hres:=qkb h;simp only at hres;unfold qb2;simp only[agree_self,hw,hi,qd,Int.toNat_natCast,hla,hres,Option.bind_some];unfold stepG;by_cases c1:qfA r l=0
  · rw[bne_f c1,cond_false];simp only[if_pos c1];rw[qk9 hv,Option.bind_some,qjH _ _ (by have:=qlp hv;omega),Option.bind_some,Option.bind_some]
    have hmem:decide (m∈qfd r (lastP l))=qz r (lastP l) m:=by rw[Bool.eq_iff_iff,decide_eq_true_eq,qh4]
    rw[hmem];by_cases c2:qz r (lastP l) m=true
    · simp only[if_pos c2];rw[c2,Bool.not_true,cond_false];by_cases c3:ms.length=400
      · rw[beq_t (by omega),cond_true];simp only[if_pos c3];rfl
      · rw[beq_f (by omega),cond_false,qoL hv c2,Option.bind_some];simp only[if_neg c3,if_true];have hroom:∀z:Place,room (l.length+[z].length) 88=true:=fun z=>qR (by simp;omega);have hroom2:room (ms.length+[m].length) 24=true:=qR (by simp;omega);rw[hroom,qd,Option.bind_some];simp only;rw[hroom2,qd];rfl
    · simp only[if_neg c2];rw[show qz r (lastP l) m=false by simpa using c2];rfl
  · rw[bne_t c1,cond_true];simp only[if_neg c1];rfl
def runG (r:Rules):List Mv→List Place×List Mv→(List Place×List Mv) ⊕ Int
  | [],s => .inl s
  | m::k,s=>if stepG r s m=0 then runG r k (nextG r s m) else .inr (stepG r s m)
theorem run_ok {r:Rules}:∀(k:List Mv) (s s':List Place×List Mv),OKG r s→runG r k s = .inl s'→OKG r s'∧s'.2=s.2++k
  | [],s,s',h,e=>by cases e;exact⟨h,by simp⟩
  | m::k,s,s',h,e=>by
    unfold runG at e;split at e
    · rename_i c;obtain⟨a,b⟩:=run_ok k _ _ (qql h c) e;refine⟨a,?_⟩;rw[b];unfold nextG;simp
    · cases e
def flG (g:Game):ByteArray×Int×Int×(List (Int×Int×Int×(List (Int×Int×Int×Int×Unit))×Unit))×(List Int)×Bool×Bool×(List (Int×Int×Int×Bool×Unit))×Int×Int×Int×(List Place)×(List Mv)×Unit :=
  (g.1.1,(g.1.2.1,(g.1.2.2.1,(g.1.2.2.2.1,(g.1.2.2.2.2.1,(g.1.2.2.2.2.2.1,(g.1.2.2.2.2.2.2.1,(g.1.2.2.2.2.2.2.2.1,(g.1.2.2.2.2.2.2.2.2.1,(g.1.2.2.2.2.2.2.2.2.2.1,(g.1.2.2.2.2.2.2.2.2.2.2.1,(g.2.1,(g.2.2.1,())))))))))))))
def gm (r:Rules) (s:List Place×List Mv):Game:=(r,(s.1,(s.2,())))
theorem qpS {r:Rules} {T R:Type} (l:List Mv) (hlen:l.length≤1000000000) (f:T→Option (T ⊕ R)) (st:Int→Game→T) (bad:Int→R) (fin:List Place×List Mv→R)
    (hf:∀i s,f (st i (gm r s))=bif (decide (i<((l.length:Nat):Int))) then(Option.bind (at? l i) fun m=>Option.bind (qb2 (r,(s.1,(s.2,()))) m) fun x=>bif (x.2 !=0) then some (.inr (bad x.2)) else some (.inl (st (w64 (i+1)) x.1))) else some (.inr (fin s))) :
    ∀(k:Nat) (i:Nat) (s:List Place×List Mv),i+k=l.length→OKG r s→iterW f (st (i:Int) (gm r s))=some (match runG r (l.drop i) s with
      | .inl s'=>fin s'
      | .inr e=>bad e)
  | 0,i,s,hi,h=>by
    have:i=l.length:=by omega
    subst this;refine qh ?_;rw[hf,nltd,cond_false,List.drop_length];rfl
  | k+1,i,s,hi,h=>by
    have hil:i<l.length:=by omega
    have hL:=hf (i:Int) s;rw[ltd l i hil,cond_true,at?_eq l _ (by omega) (by omega),Option.bind_some,play_spec h,Option.bind_some] at hL;simp only[Int.toNat_natCast] at hL;rw[List.drop_eq_getElem_cons hil];unfold runG;by_cases c:stepG r s l[i]=0
    · rw[if_pos c] at hL;simp only[bne_self_eq_false,cond_false] at hL;rw[qg (by omega) (by omega)] at hL;rw[ql hL,if_pos c];exact qpS l hlen f st bad fin hf k (i+1) _ (by omega) (qql h c)
    · rw[if_neg c] at hL;simp only[bne_t c,cond_true] at hL;rw[qh hL,if_neg c]
theorem qma {r:Rules} (c:qw r=0):OKG r ([qbt r],[]):=⟨c,fun p hp=>by rw[List.mem_singleton.1 hp];exact qq5 (qco c),rfl,by simp⟩
def qhs (r:Rules) (l:List Mv):(List Place×List Mv) ⊕ Int:=runG r l ([qbt r],[])
abbrev FlP:=List Int×List Int×List Int×Int×Int×Unit
def flp (p:Place):FlP:=(p.1,(p.2.1.1,(p.2.1.2.1,p.2.2)))
def qrr (r:Rules) (l:List Mv):Place×Int×Int×Unit:=if qw r=0 then(match qhs r l with
    | .inl s=>(lastP s.1,(qfA r s.1,(0,())))
    | .inr e=>(dP,(0,(e,())))) else(dP,(0,(qw r,())))
theorem qr9 (r:Rules) (l:List Mv) (hr:Rng qX r) (hl:l.length≤1000000000):qam r l=some (qrr r l):=by
  unfold qam qrr;rw[qm4 r hr,Option.bind_some];by_cases c:qw r=0
  · simp only[if_pos c];rw[show((0:Int)!=0)=false from rfl,cond_false];simp only[agree_self];rw[qsm (qco c),Option.bind_some];have hP:=qpS (r:=r) l hl (qhB l) (fun i g=>((i,()),(flp dP,(flG g,())))) (fun e => .inr (dP,(0,(e,())))) (fun s => .inl ((),(flp dP,(flG (gm r s),()))))
      (fun i s=>by rfl) l.length 0 ([qbt r],[]) (by omega) (qma c)
    rw[List.drop_zero] at hP;have hP':iterW (qhB l) (((0:Int),()),((([]:List Int),(([]:List Int),(([]:List Int),((0:Int),((0:Int),()))))),(r.1,(r.2.1,(r.2.2.1,(r.2.2.2.1,(r.2.2.2.2.1,(r.2.2.2.2.2.1,(r.2.2.2.2.2.2.1,(r.2.2.2.2.2.2.2.1,(r.2.2.2.2.2.2.2.2.1,(r.2.2.2.2.2.2.2.2.2.1,(r.2.2.2.2.2.2.2.2.2.2.1,([((qbt r).1,(((qbt r).2.1.1,((qbt r).2.1.2.1,())),(qbt r).2.2))],(([]:List Mv),()))))))))))))),()))=_:=hP
    try simp only[Option.bind_some,bne_self_eq_false,cond_false]
    rw[hP',Option.bind_some];unfold qhs
    cases hg:runG r l ([qbt r],[]) with
    | inr e=>rfl
    | inl s =>
      have hok:=(run_ok l _ _ (qma c) hg).1;simp only[Sum.elim_inl];change Option.bind (qaH (r,(s.1,(s.2,())))) (fun r16=>Option.bind (qaL (r,(s.1,(s.2,())))) fun r17=>some ((r16.1,((r16.2.1.1,(r16.2.1.2.1,())),r16.2.2)),(r17,((0:Int),()))))=_;rw[qmx hok,Option.bind_some,qkb hok,Option.bind_some]
  · simp only[if_neg c];rw[bne_t c,cond_true,cond_true];rfl

theorem all_spec (r:Rules) (p:Place) (hr:Rng qX r) (hn:p.1.length≤9223372036854775807):qkN r p=some (if qat r p=0 then qfd r p else [],qat r p,()):=by
  unfold qkN;rw[qnj r p hr hn,Option.bind_some];by_cases c:qat r p=0
  · rw[bne_f c,cond_false,if_pos c,qk9 (qkY c),c];rfl
  · rw[bne_t c,cond_true,if_neg c]
theorem qsG (r:Rules) (p:Place) (m:Mv) (hr:Rng qX r) (hn:p.1.length≤9223372036854775807):qgK r p m=some (if qat r p=0 then qz r p m else false,qat r p,()):=by
  unfold qgK;rw[all_spec r p hr hn,Option.bind_some];by_cases c:qat r p=0
  · have hv:=qkY c;simp only[if_pos c];rw[qjH _ _ (by have:=qlp hv;omega),Option.bind_some];have:decide (m∈qfd r p)=qz r p m:=by
      rw[Bool.eq_iff_iff,decide_eq_true_eq,qh4]
    rw[this]
  · simp only[if_neg c];rw[qjH _ _ (by simp)];simp
def emptyP:Place:=([],([],[],()),0,0,())
theorem qsd (r:Rules) (p:Place) (m:Mv) (hr:Rng qX r) (hn:p.1.length≤9223372036854775807):qbO r p m=some (if qat r p=0 then if qz r p m=true then(qlF r p m,0,()) else(emptyP,13,()) else(emptyP,qat r p,())):=by
  unfold qbO;rw[qsG r p m hr hn,Option.bind_some];by_cases c:qat r p=0
  · have hv:=qkY c;simp only[if_pos c];rw[c,show((0:Int)!=0)=false from rfl,cond_false]
    cases ha:qz r p m with
    | false=>rfl
    | true =>
      rw[Bool.not_true,cond_false,qoL hv ha,Option.bind_some];rfl
  · simp only[if_neg c];rw[bne_t c,cond_true];rfl

theorem qq3 (r:Rules) (p:Place) (hr:Rng qX r) (hn:p.1.length≤9223372036854775807):qr1 r p=some (if qat r p=0 then qcw r p else 0,qat r p,()):=by
  unfold qr1;rw[qnj r p hr hn,Option.bind_some];by_cases c:qat r p=0
  · rw[bne_f c,cond_false,if_pos c,qk7 (qkY c),c];rfl
  · rw[bne_t c,cond_true,if_neg c]
def repRes (r:Rules) (l:List Mv):Int×Int×Unit:=if qw r=0 then(match qhs r l with
    | .inl s=>(((qhS s.1:Nat):Int),(0,()))
    | .inr e=>(0,(e,()))) else(0,(qw r,()))
theorem tic_rng:Rng qX qaa:=qh0 _ _ (by decide +kernel)
theorem qr0 (L:List Place) (h0:0<L.length) (h1:L.length≤1000000) (hv:∀r':Unit,True) (i:Nat) (c:Int):qdZ L ((c,(i:Int),()),())=cntF L c (i:Int):=by
  have e:qdZ L ((c,(i:Int),()),())=bif (decide ((i:Int)<((L.length:Nat):Int))) then(Option.bind (at? L (i:Int)) fun a=>Option.bind (at? L (w64 (((L.length:Nat):Int)-1))) fun b=>Option.bind (qbV a b) fun x=>Option.bind (bif x then some ((w64 (c+1),()),()) else some ((c,()),())) fun y:(Int×Unit)×Unit=>some (Sum.inl ((y.1.1,w64 ((i:Int)+1),()),()))) else some (Sum.inr ((c,()),())):=rfl;rw[e];unfold cntF;have hw:=qki h0 (by omega);by_cases hi:i<L.length
  · rw[ltd L i hi,cond_true,cond_true,hw,inbN L i hi,inbN L _ (by omega),qd,qd];rw[at?_eq L _ (by omega) (by omega),at?_eq L ((L.length-1:Nat):Int) (by omega) (by omega),Option.bind_some,Option.bind_some];simp only[Int.toNat_natCast];rw[gd_eq L i hi,gd_eq L _ (by omega)]
    cases qbV L[i] (L[L.length-1]'(by omega))<;>rfl
  · rw[decide_eq_false (by omega),cond_false,cond_false]
theorem qqa {r:Rules} {L:List Place} (hv:∀p∈L,Valid r p) (h0:0<L.length) (h1:L.length≤1000000):qi4 L=some ((qhS L:Nat):Int):=by
  have hw:=qki h0 (by omega);unfold qi4
  have:=qjs L (fun p=>same0 p (lastP L)) (qdZ L) (fun c=>((c,()),())) (fun i hi c hc0 hc1=>by
    rw[qr0 L h0 h1 (fun _=>trivial)];unfold cntF;rw[ltd L i hi,cond_true,inbN L i hi,qd,hw,inbN L _ (by omega),qd,Int.toNat_natCast,Int.toNat_natCast,gd_eq L i hi,qpx (hv _ (List.getElem_mem hi)),Option.bind_some,Option.bind_some];show Option.bind (bif same0 L[i] (lastP L) then _ else _) _=_;rw[qg (n:=c+1) (by omega) (by omega),qg (n:=(i:Int)+1) (by omega) (by omega)];cases same0 L[i] (lastP L)<;>rfl) (fun c=>by
    rw[qr0 L h0 h1 (fun _=>trivial)];unfold cntF
    rw[nltd,cond_false])
  rw[this];rfl
theorem res3_spec {r:Rules} {L:List Place} (c:qw r=0) (hr:Rng qX r) (hv:∀p∈L,Valid r p) (h0:0<L.length) (h1:L.length≤1000000):qeD r L=some (qfA r L):=by
  have hw:=qki h0 (by omega);have hl:=hv _ (qrP h0);have h64:=qbH hl;have hrep:=(qco c).repeats;unfold qeD;rw[hw,at?_eq L _ (by omega) (by omega),Option.bind_some];simp only[Int.toNat_natCast]
  have hla:L[L.length-1]'(by omega)=lastP L:=by unfold lastP;rw[gd_eq L (L.length-1) (by omega)]
  rw[hla,qq3 r _ hr (by omega),qrF c hl,Option.bind_some,qqa hv h0 h1];unfold qfA;simp only[if_true,beq_self_eq_true,Bool.true_and];have hq:decide (r.2.2.2.2.2.2.2.2.2.2.1>0)=(r.repeats !=0):=by
    rw[Bool.eq_iff_iff];simp only[decide_eq_true_eq,bne_iff_ne];show r.repeats>0↔r.repeats≠0;omega
  rw[hq];show Option.bind (gopt ((qcw r (lastP L)==0)&&(r.repeats !=0)) 0 (some ((qhS L:Nat):Int))) (fun x=>bif ((qcw r (lastP L)==0)&&(r.repeats !=0))&&decide (x≥r.repeats) then some 3 else some (qcw r (lastP L)))=_
  cases ((qcw r (lastP L)==0)&&(r.repeats !=0)) with
  | false=>rfl
  | true =>
    simp only[gopt,cond_true,Option.bind_some,Bool.true_and]
    cases decide (((qhS L:Nat):Int)≥r.repeats)<;>rfl
def qjg (r:Rules) (l:List Mv):List Place×Int×Unit:=if qw r=0 then(match qhs r l with
    | .inl s=>(s.1,(0,()))
    | .inr e=>([],(e,()))) else([],(qw r,()))
theorem qpW (l:List Mv) (r:Rules) (ps:List Place) (i:Int):qb4 l r ((ps,i,()),())=bif (decide (i<((l.length:Nat):Int))) then(Option.bind (at? l i) fun m=>Option.bind (qeD r ps) fun x=>bif (x !=0) then some (Sum.inr (Sum.inr (([]:List Place),(14,()))))
    else req (inb (w64 (((ps.length:Nat):Int)-1)) ps.length) (Option.bind (qbO r (getD' ps (w64 (((ps.length:Nat):Int)-1)).toNat dP) m) fun z=>bif (z.2.1 !=0) then some (Sum.inr (Sum.inr (([]:List Place),(13,())))) else bif (decide (((ps.length:Nat):Int)>400)) then some (Sum.inr (Sum.inr (([]:List Place),(9,()))))
      else req (room (ps.length+1) 88) (some (Sum.inl ((ps++[z.1],w64 (i+1),()),())))))
    else some (Sum.inr (Sum.inl ((ps,()),()))):=by
  unfold qb4;simp only[agree_self]
  first
  | rfl
  | cases decide (i<((l.length:Nat):Int)) with
    | false=>rfl
    | true =>
      simp only[cond_true];congr 1;funext m;congr 1;funext x
      cases (x !=0) with
      | true=>rfl
      | false =>
        simp only[cond_false]
        cases inb (w64 (((ps.length:Nat):Int)-1)) ps.length with
        | false=>rfl
        | true =>
          simp only[qd];show Option.bind (Option.bind (qbO r (getD' ps (w64 (((ps.length:Nat):Int)-1)).toNat dP) m) _) _=_
          cases qbO r (getD' ps (w64 (((ps.length:Nat):Int)-1)).toNat dP) m<;>rfl
theorem qlw {r:Rules} (hr:Rng qX r) (l:List Mv) (hlen:l.length≤1000000000):∀(k:Nat) (i:Nat) (s:List Place×List Mv),i+k=l.length→OKG r s→iterW (qb4 l r) ((s.1,(i:Int),()),())=some (match runG r (l.drop i) s with
      | .inl s' => .inl ((s'.1,()),())
      | .inr e => .inr (([]:List Place),(e,())))
  | 0,i,s,hi,h=>by
    have:i=l.length:=by omega
    subst this;refine qh ?_;rw[qpW,nltd,cond_false,List.drop_length];rfl
  | k+1,i,s,hi,h=>by
    have hil:i<l.length:=by omega
    have hl:=h.len;have hm:=h.most;have hv:=h.last;have h64:=qbH hv;have hw:=qki (L:=s.1) (by omega) (by omega);have hL:=qpW l r s.1 (i:Int);rw[ltd l i hil,cond_true,at?_eq l _ (by omega) (by omega),Option.bind_some,res3_spec h.ok hr h.all (by omega) (by omega),Option.bind_some,hw,inbN s.1 _ (by omega),qd] at hL;simp only[Int.toNat_natCast] at hL;have hla:getD' s.1 (s.1.length-1) dP=lastP s.1:=rfl;rw[hla,qsd r _ _ hr (by omega),if_pos (qrF h.ok hv),Option.bind_some] at hL;rw[List.drop_eq_getElem_cons hil];unfold runG;by_cases c1:qfA r s.1=0
    · rw[bne_f c1,cond_false] at hL;by_cases c2:qz r (lastP s.1) l[i]=true
      · rw[if_pos c2] at hL;simp only[bne_self_eq_false,cond_false] at hL;by_cases c3:s.2.length=400
        · have e:stepG r s l[i]=9:=by unfold stepG;rw[if_pos c1,if_pos c2,if_pos c3]
          rw[decide_eq_true (by omega),cond_true] at hL;rw[qh hL,e,if_neg (by decide)]
        · have e:stepG r s l[i]=0:=by unfold stepG;rw[if_pos c1,if_pos c2,if_neg c3]
          rw[decide_eq_false (by omega),cond_false,qR (n:=s.1.length+1) (by omega),qd,qg (by omega) (by omega)] at hL;rw[ql hL,if_pos e];exact qlw hr l hlen k (i+1) (nextG r s l[i]) (by omega) (qql h e)
      · have e:stepG r s l[i]=13:=by unfold stepG;rw[if_pos c1,if_neg c2]
        rw[if_neg c2] at hL;simp only[bne_t (show ¬(13:Int)=0 by decide),cond_true] at hL;rw[qh hL,e,if_neg (by decide)]
    · have e:stepG r s l[i]=14:=by unfold stepG;rw[if_neg c1]
      rw[bne_t c1,cond_true] at hL;rw[qh hL,e,if_neg (by decide)]
theorem qe3 (r:Rules) (l:List Mv) (hr:Rng qX r) (hl:l.length≤1000000000):qeG r l=some (qjg r l):=by
  unfold qeG qjg;rw[qm4 r hr,Option.bind_some];by_cases c:qw r=0
  · simp only[if_pos c];rw[show((0:Int)!=0)=false from rfl,cond_false];have hP:=qlw hr l hl l.length 0 ([qbt r],[]) (by omega) (qma c);rw[List.drop_zero] at hP;have hP':iterW (qb4 l r) ((([((qbt r).1,(((qbt r).2.1.1,((qbt r).2.1.2.1,())),(qbt r).2.2))]),(0:Int),()),())=_:=hP;rw[hP',Option.bind_some];unfold qhs
    cases runG r l ([qbt r],[])<;>rfl
  · simp only[if_neg c];rw[bne_t c,cond_true]

abbrev RTag:=ByteArray×ByteArray×Unit
abbrev RNode:=Int×Mv×ByteArray×Unit
abbrev Rec:=List RTag×ByteArray×List RNode×Int×Unit
abbrev tyTag:Ty := .st .str (.st .str .nil)
abbrev tyMv:Ty := .st (.int .i64) (.st (.int .i64) (.st (.int .i64) .nil))
abbrev qpA:Ty := .st (.int .i64) (.st tyMv (.st .str .nil))
abbrev tyRec:Ty := .st (.sl tyTag) (.st .str (.st (.sl qpA) (.st (.int .i64) .nil)))
theorem qbj {A:Type} (xs:List A) (i:Nat) (h:i<xs.length):at? xs (i:Int)=some xs[i]:=by
  rw[at?_eq xs _ (Int.natCast_nonneg i) (Int.ofNat_lt.2 h)];simp only[Int.toNat_natCast]
def badC (w:List UInt8) (c:UInt8):Bool:=(decide (((c.toNat:Nat):Int)<32)||decide (((c.toNat:Nat):Int)>126))||w.any (· == c)
def fineT (s w:ByteArray):Bool:=!(s.data.toList.any (badC w.data.toList))
theorem qlv (s:ByteArray):s.data.toList.length=s.size:=by rw[Array.length_toList];rfl
theorem qsK (s:ByteArray) (i:Nat) (h:i<s.data.toList.length):strAt s (i:Int)=some s.data.toList[i]:=by
  have h':i<s.size:=by rw[←qlv];exact h
  have h0:decide ((0:Int)≤(i:Int))=true:=by simp
  unfold strAt;rw[h0,cond_true,Int.toNat_natCast,getElem?_pos s i h',ByteArray.getElem_eq_getElem_data,Array.getElem_toList]
theorem bo_get (s:ByteArray) (i:Nat) (h:i<s.data.toList.length):getD' (qq s) i 0=((s.data.toList[i].toNat:Nat):Int):=by
  unfold getD' qq;rw[List.getD_eq_getElem?_getD,List.getElem?_map,List.getElem?_eq_getElem h];rfl
theorem qlh (s:ByteArray):(qq s).length=s.data.toList.length:=by unfold qq;rw[List.length_map]
theorem idx_any (c:UInt8):∀l:List UInt8,decide (Go.Lib.indexByte l c≥0)=l.any (· == c)
  | []=>rfl
  | b::l=>by
    have ih:=idx_any c l;have hg:=Go.Lib.indexByte_ge l c;rw[List.any_cons,←ih,show Go.Lib.indexByte (b::l) c=if b==c then 0 else if Go.Lib.indexByte l c == -1 then -1 else Go.Lib.indexByte l c+1 from rfl];by_cases h:(b==c)=true
    · rw[if_pos h,h];rfl
    · rw[if_neg h,Bool.eq_false_iff.2 h,Bool.false_or];by_cases h2:(Go.Lib.indexByte l c == -1)=true
      · have:Go.Lib.indexByte l c = -1:=by simpa using h2
        rw[if_pos h2,this]
      · have:¬Go.Lib.indexByte l c = -1:=by simpa using h2
        rw[if_neg h2,Bool.eq_iff_iff];simp only[decide_eq_true_eq];omega
theorem qhx (s w:ByteArray) (hs:s.size≤9223372036854775807):qbi s w=some (fineT s w):=by
  have hl:=qlv s;unfold qbi fineT
  have hL:=qt s.data.toList (badC w.data.toList) (qa5 s w) (.inr false) (.inl ((),())) (fun i hi=>by
    unfold qa5
    have h3:(i:Int)<(s.size:Int):=by omega
    have hg:∀b (c:UInt8),gopt b 0 (some c)=some (bif b then c else 0):=fun b c=>by cases b<;>rfl
    simp only[h3,decide_true,cond_true,qsK s i hi,Option.bind_some,hg,qg (n:=(i:Int)+1) (by omega) (by omega)];generalize s.data.toList[i]=c;have hx:decide (qdk w ((c.toNat:Nat):Int)≥0)=w.data.toList.any (· == c):=by
      unfold qdk;rw[Int.toNat_natCast,←idx_any,show(c.toNat).toUInt8=c from UInt8.ofNat_toNat]
    unfold badC;cases h1:decide (((c.toNat:Nat):Int)<32)
    · simp only[Bool.not_false,cond_true,Bool.false_or];cases h2:decide (((c.toNat:Nat):Int)>126)
      · simp only[Bool.not_false,cond_true,Bool.false_or,hx];rfl
      · simp only[Bool.true_or,cond_true]
    · simp only[Bool.true_or,cond_true]) (by
    unfold qa5;rw[hl]
    simp)
  rw[hL]
  cases s.data.toList.any (badC w.data.toList)<;>rfl
theorem any_cast (w:List UInt8) (c:UInt8):(w.map fun b=>((b.toNat:Nat):Int)).any (fun b=>((c.toNat:Nat):Int)==b)=w.any (· == c):=by
  rw[List.any_map];congr 1;funext b;show(((c.toNat:Nat):Int)==((b.toNat:Nat):Int))=(b==c);rw[Bool.eq_iff_iff];simp only[beq_iff_eq];constructor
  · intro h;exact(UInt8.toNat_inj.1 (by omega)).symm
  · intro h;rw[h]
theorem qgs (s w:ByteArray) (hs:s.size≤140737488355328) (hw:w.size≤140737488355328):qgO s w=some (fineT s w):=by
  have hl:=qlv s;have hl2:=qlv w;unfold qgO fineT;rw[Nat.ble_eq_true_of_le hs,qd]
  have hL:=qt s.data.toList (badC w.data.toList) (qe7 s w) (.inr false) (.inl ((),())) (fun i hi=>by
    unfold qe7
    have h3:(i:Int)<(((qq s).length:Nat):Int):=by rw[qlh];omega
    have hin:inb (i:Int) (qq s).length=true:=inb_iff.2 ⟨by omega,h3⟩;simp only[h3,decide_true,cond_true,hin,qd,Nat.ble_eq_true_of_le hw,Int.toNat_natCast,bo_get s i hi]
    have hL2:=qt (qq w) (fun b=>getD' (qq s) i 0==b) (qfa w s (((i:Int),()),())) (.inr (.inr (.inr (.inr false)))) (.inl ((),())) (fun j hj=>by
      unfold qfa
      have h4:(j:Int)<(((qq w).length:Nat):Int):=by omega
      have hj2:inb (j:Int) (qq w).length=true:=inb_iff.2 ⟨by omega,h4⟩
      have hjs:j<w.data.toList.length:=by rw[←qlh];exact hj
      simp only[h4,decide_true,cond_true,hj2,qd,Int.toNat_natCast,qg (n:=(j:Int)+1) (by rw[qlh] at hj;omega) (by rw[qlh] at hj;omega)];rw[show getD' (qq w) j 0=(qq w)[j] by simp[getD',hj]]
      rfl) (by unfold qfa;simp)
    rw[bo_get s i hi] at hL2;rw[hL2,Option.bind_some,qg (n:=(i:Int)+1) (by omega) (by omega)];generalize s.data.toList[i]=c;have ha:(qq w).any (fun b=>((c.toNat:Nat):Int)==b)=w.data.toList.any (· == c):=any_cast _ c;rw[ha];unfold badC;cases w.data.toList.any (· == c)
    · simp only[cond_false,Sum.elim_inl,Bool.or_false]
      cases (decide (((c.toNat:Nat):Int)<32)||decide (((c.toNat:Nat):Int)>126))<;>rfl
    · simp only[cond_true,Sum.elim_inr,Bool.or_true,Option.bind_some]) (by
    unfold qe7;rw[qlh]
    simp)
  rw[hL]
  cases s.data.toList.any (badC w.data.toList)<;>rfl
theorem bo_ch (s:ByteArray) (i:Nat) (h:i<s.size):getD' (qq s) i 0=((ch s i:Nat):Int):=by
  have h':i<s.data.toList.length:=by rw[qlv];exact h
  rw[bo_get s i h'];unfold ch;rw[getElem?_pos s i h,ByteArray.getElem_eq_getElem_data,Array.getElem_toList];rfl
theorem qsO (s:ByteArray) (hs:s.size≤9223372036854775807):qkS s=some (qeq s):=by
  unfold qkS;by_cases h0:s.size=0∨8<s.size
  · have e:((s.toList==(ByteArray.mk #[]).toList)||(decide (((s.size:Nat):Int)>8)))=true:=by
      rw[qmf];simp only[Bool.or_eq_true,decide_eq_true_eq];omega
    have hn:qeq s=false:=by
      unfold qeq;rw[show decide (1≤s.size∧s.size≤8)=false by simp only[decide_eq_false_iff_not];omega,Bool.and_false]
    rw[e,hn];rfl
  · have e:((s.toList==(ByteArray.mk #[]).toList)||(decide (((s.size:Nat):Int)>8)))=false:=by
      rw[qmf];simp only[Bool.or_eq_false_iff,decide_eq_false_iff_not];omega
    obtain⟨c,hc1,hc2⟩:=qrU s 0 (by omega);have hc1:strAt s 0=some c:=hc1
    have hg:∀b (c:UInt8),gopt b 0 (some c)=some (bif b then c else 0):=fun b c=>by cases b<;>rfl
    rw[e,hc1];simp only[hg,Bool.not_false,cond_true,Option.bind_some,Bool.false_or,hc2]
    have hd:decide (1≤s.size∧s.size≤8)=true:=by simp only[decide_eq_true_eq];omega
    by_cases h1:65≤ch s 0∧ch s 0≤90
    · have e1:decide (((ch s 0:Nat):Int)<65)=false:=by simp only[decide_eq_false_iff_not];omega
      have e2:decide (((ch s 0:Nat):Int)>90)=false:=by simp only[decide_eq_false_iff_not];omega
      simp only[e1,Bool.not_false,cond_true,hc2,e2,Bool.or_self,cond_false];rw[Nat.ble_eq_true_of_le (show s.size≤140737488355328 by omega),qd]
      have hL:=qt (List.range s.size) (qdv s) (qfz s) (.inr false) (.inl ((),())) (fun i hi=>by
        have hi':i<s.size:=by simpa using hi
        unfold qfz
        have h3:(i:Int)<(((qq s).length:Nat):Int):=by rw[qlh,qlv];omega
        have hin:inb (i:Int) (qq s).length=true:=inb_iff.2 ⟨by omega,h3⟩;simp only[h3,decide_true,cond_true,hin,qd,Int.toNat_natCast,bo_ch s i hi',List.getElem_range,qg (n:=(i:Int)+1) (by omega) (by omega)];have hb:((decide (((ch s i:Nat):Int)<65)||decide (((ch s i:Nat):Int)>90))&&(decide (((ch s i:Nat):Int)<48)||decide (((ch s i:Nat):Int)>57)))=qdv s i:=by
          unfold qdv;rw[Bool.eq_iff_iff];simp only[Bool.and_eq_true,Bool.or_eq_true,decide_eq_true_eq,Bool.not_eq_true',Bool.or_eq_false_iff,decide_eq_false_iff_not];by_cases hz:i=0
          · subst hz;omega
          · omega
        rw[hb]
        rfl) (by
        unfold qfz;rw[qlh,qlv,List.length_range]
        simp)
      rw[hL];unfold qeq;rw[hd,Bool.and_true]
      cases (List.range s.size).any (qdv s)<;>rfl
    · have hn:qeq s=false:=by
        unfold qeq;have:(List.range s.size).any (qdv s)=true:=by
          rw[List.any_eq_true];refine⟨0,List.mem_range.2 (by omega),?_⟩;unfold qdv;simp only[Bool.not_eq_true',Bool.or_eq_false_iff,decide_eq_false_iff_not];omega
        rw[this];rfl
      rw[hn];cases e1:decide (((ch s 0:Nat):Int)<65)
      · simp only[decide_eq_false_iff_not] at e1;simp only[Bool.not_false,cond_true,hc2,show decide (((ch s 0:Nat):Int)>90)=true by simp only[decide_eq_true_eq];omega,Bool.or_true]
      · simp only[Bool.true_or,cond_true]
def cErr (s:ByteArray):Int:=if 60<s.size then 2 else if fineT s (ByteArray.mk #[123,125])=false then 3 else 0
theorem qeb (s:ByteArray) (hs:s.size≤9223372036854775807):qcb s=some (cErr s):=by
  unfold qcb cErr;by_cases h:60<s.size
  · rw[if_pos h,show decide (((s.size:Nat):Int)>60)=true by simp only[decide_eq_true_eq];omega];rfl
  · rw[if_neg h,show decide (((s.size:Nat):Int)>60)=false by simp only[decide_eq_false_iff_not];omega,cond_false,qhx _ _ (by omega),Option.bind_some]
    cases fineT s (ByteArray.mk #[123,125])<;>rfl
def tErrD (pre:List RTag) (d:RTag):Int:=if qeq d.1=false then 6 else if 40<d.2.1.size then 2 else if fineT d.2.1 (ByteArray.mk #[34])=false then 3 else if pre.any (fun u=>u.1.toList==d.1.toList)=true then 7 else 0
def tErr (ts:List RTag) (i:Nat):Int:=match ts[i]? with
  | none=>0
  | some d=>tErrD (ts.take i) d
theorem qnH (ts:List RTag) (i:Nat) (h:i<ts.length):tErr ts i=tErrD (ts.take i) ts[i]:=by
  unfold tErr;rw[List.getElem?_eq_getElem h]
theorem qpd (x:Rec) (hx:Rng tyRec x):qgY x=some (qs (tErr x.1) x.1.length):=by
  have hn:x.1.length≤9223372036854775807:=hx.1.1;unfold qgY
  have:=qpV x.1.length (qdd x) (tErr x.1) ((),()) (some 0) (fun i hi=>by
    have hd1:(x.1[i]).1.size≤9223372036854775807:=(hx.1.2 _ (List.getElem_mem hi)).1;have hd2:(x.1[i]).2.1.size≤9223372036854775807:=(hx.1.2 _ (List.getElem_mem hi)).2.1;rw[qnH _ _ hi];unfold qdd;simp only[show decide ((i:Int)<((x.1.length:Nat):Int))=true by simp;omega,cond_true];rw[qbj _ _ hi,Option.bind_some];generalize x.1[i]=d at hd1 hd2;unfold tErrD;rw[qpP _ (by omega),Option.bind_some];cases qeq d.1
    · rfl
    · simp only[Bool.not_true,cond_false,if_neg (show ¬(true=false) by decide)];by_cases h1:40<d.2.1.size
      · rw[if_pos h1,show decide (((d.2.1.size:Nat):Int)>40)=true by simp only[decide_eq_true_eq];omega];rfl
      · rw[if_neg h1,show decide (((d.2.1.size:Nat):Int)>40)=false by simp only[decide_eq_false_iff_not];omega,cond_false,qhx _ _ (by omega),Option.bind_some];cases fineT d.2.1 (ByteArray.mk #[34])
        · rfl
        · simp only[Bool.not_true,cond_false,if_neg (show ¬(true=false) by decide)];rw[show qv 0 (i:Int) x.1.length=true by simp only[qv,Bool.and_eq_true,decide_eq_true_eq];omega,qd]
          have hl:(x.1.take i).length=i:=by rw[List.length_take];omega
          have hL:=qt (x.1.take i) (fun u=>u.1.toList==d.1.toList) (qdf x (((i:Int),()),()) d) (.inr (.inr (.inr 7))) (.inl ((),())) (fun j hj=>by
            have hj':j<i:=by rw[List.length_take] at hj;omega
            unfold qdf;simp only[Int.toNat_natCast,List.drop_zero,hl];simp only[show decide ((j:Int)<((i:Nat):Int))=true by simp;omega,cond_true];rw[qbj _ _ hj,Option.bind_some];simp only[Int.toNat_natCast,show decide ((j:Int)≥0)=true by simp,cond_true,qg (n:=(j:Int)+1) (by omega) (by omega)]
            rfl) (by
            unfold qdf;simp only[Int.toNat_natCast,List.drop_zero,hl]
            simp)
          rw[hL,Option.bind_some,qg (n:=(i:Int)+1) (by omega) (by omega)]
          cases (x.1.take i).any (fun u=>u.1.toList==d.1.toList)<;>rfl) (by
    unfold qdd
    simp)
  rw[this];split
  · rename_i h;rw[h]
  · rfl
theorem qj6 (x:Rec) (hx:Rng tyRec x) (z:Option Int):Option.bind (iterW (qay x) ((0,()),())) (Sum.elim (fun _=>z) some)=if qs (tErr x.1) x.1.length=0 then z else some (qs (tErr x.1) x.1.length):=by
  have hn:x.1.length≤9223372036854775807:=hx.1.1;refine qpV x.1.length (qay x) (tErr x.1) ((),()) z (fun i hi=>?_) (by unfold qay;simp);have hd1:(x.1[i]).1.size≤9223372036854775807:=(hx.1.2 _ (List.getElem_mem hi)).1;have hd2:(x.1[i]).2.1.size≤9223372036854775807:=(hx.1.2 _ (List.getElem_mem hi)).2.1;rw[qnH _ _ hi];unfold qay;simp only[show decide ((i:Int)<((x.1.length:Nat):Int))=true by simp;omega,cond_true];rw[qbj _ _ hi,Option.bind_some];generalize x.1[i]=d at hd1 hd2;unfold tErrD;rw[qsO _ (by omega),Option.bind_some];cases qeq d.1
  · rfl
  · simp only[Bool.not_true,cond_false,if_neg (show ¬(true=false) by decide)];by_cases h1:40<d.2.1.size
    · rw[if_pos h1,show decide (((d.2.1.size:Nat):Int)>40)=true by simp only[decide_eq_true_eq];omega];rfl
    · rw[if_neg h1,show decide (((d.2.1.size:Nat):Int)>40)=false by simp only[decide_eq_false_iff_not];omega,cond_false,qgs _ _ (by omega) (by decide),Option.bind_some];cases fineT d.2.1 (ByteArray.mk #[34])
      · rfl
      · simp only[Bool.not_true,cond_false,if_neg (show ¬(true=false) by decide)]
        have hL:=qt (x.1.take i) (fun u=>u.1.toList==d.1.toList) (qa9 (((i:Int),()),()) x d) (.inr (.inr (.inr (.inr 7)))) (.inl ((),())) (fun j hj=>by
          have hj':j<i:=by rw[List.length_take] at hj;omega
          unfold qa9;simp only[show decide ((j:Int)<(i:Int))=true by simp;omega,cond_true];rw[qbj _ _ (show j<x.1.length by omega),Option.bind_some];simp only[Int.toNat_natCast,qg (n:=(j:Int)+1) (by omega) (by omega),List.getElem_take]
          rfl) (by
          unfold qa9;simp only[List.length_take,Nat.min_eq_left (Nat.le_of_lt hi)]
          simp)
        rw[hL,Option.bind_some,qg (n:=(i:Int)+1) (by omega) (by omega)]
        cases (x.1.take i).any (fun u=>u.1.toList==d.1.toList)<;>rfl

inductive Fo where
  | nil
  | cons (m:Mv) (c:ByteArray) (k r:Fo)
def qfU:Fo→List Mv
  | .nil=>[]
  | .cons m _ _ r=>m::qfU r
def Dis:Fo→Prop
  | .nil=>True
  | .cons m _ k r=>m∉qfU r∧Dis k∧Dis r
def insF (g:Fo→Fo) (m:Mv) (c:ByteArray) (k:Fo):Fo→Fo
  | .nil => .cons m c k .nil
  | .cons m' c' k' r=>if m'=m then .cons m' (if c'.toList=[] then c else c') (g k') r else .cons m' c' k' (insF g m c k r)
def mgF:Fo→Fo→Fo
  | .nil,o=>o
  | .cons m c k r,o=>mgF r (insF (mgF k) m c k o)
def wfF (p:List Mv):Fo→List (List Mv×ByteArray)
  | .nil=>[]
  | .cons m c k r=>(p++[m],c)::(wfF (p++[m]) k++wfF p r)
def kyF (p:List Mv) (f:Fo):List (List Mv):=(wfF p f).map (·.1)
theorem qcd (p:List Mv) (m:Mv) (c:ByteArray) (k r:Fo):kyF p (.cons m c k r)=(p++[m])::(kyF (p++[m]) k++kyF p r):=by simp[kyF,wfF]
theorem qrV {g:Fo→Fo} (hg:∀q k,(kyF q k).Sublist (kyF q (g k))) (m:Mv) (c:ByteArray) (k:Fo) (p:List Mv):∀o,(kyF p o).Sublist (kyF p (insF g m c k o))
  | .nil=>List.nil_sublist _
  | .cons m' c' k' r=>by
    unfold insF;split
    · rw[qcd,qcd];exact((hg _ k').append (List.Sublist.refl _)).cons_cons _
    · rw[qcd,qcd];exact((List.Sublist.refl _).append (qrV hg m c k p r)).cons_cons _
theorem qqb:∀(b:Fo) (p:List Mv) (o:Fo),(kyF p o).Sublist (kyF p (mgF b o))
  | .nil,p,o=>List.Sublist.refl _
  | .cons m c k r,p,o=>(qrV (fun q k'=>qqb k q k') m c k p o).trans (qqb r p _)
theorem qrN {g:Fo→Fo} {k:Fo} (hg:∀q k' w,w∈kyF q (g k')↔w∈kyF q k'∨w∈kyF q k) (m:Mv) (c:ByteArray) (p w:List Mv):∀o,w∈kyF p (insF g m c k o)↔w∈kyF p o∨w=p++[m]∨w∈kyF (p++[m]) k
  | .nil=>by
    rw[insF,qcd];simp[kyF,wfF]
  | .cons m' c' k' r=>by
    unfold insF;split
    · rename_i e;subst e;rw[qcd,qcd];simp only[List.mem_cons,List.mem_append,hg];constructor
      · rintro (h | (h | h) | h)
        · exact .inl (.inl h)
        · exact .inl (.inr (.inl h))
        · exact .inr (.inr h)
        · exact .inl (.inr (.inr h))
      · rintro ((h | h | h) | h | h)
        · exact .inl h
        · exact .inr (.inl (.inl h))
        · exact .inr (.inr h)
        · exact .inl h
        · exact .inr (.inl (.inr h))
    · rw[qcd,qcd];simp only[List.mem_cons,List.mem_append,qrN hg m c p w r];constructor
      · rintro (h | h | h | h | h)
        · exact .inl (.inl h)
        · exact .inl (.inr (.inl h))
        · exact .inl (.inr (.inr h))
        · exact .inr (.inl h)
        · exact .inr (.inr h)
      · rintro ((h | h | h) | h | h)
        · exact .inl h
        · exact .inr (.inl h)
        · exact .inr (.inr (.inl h))
        · exact .inr (.inr (.inr (.inl h)))
        · exact .inr (.inr (.inr (.inr h)))
theorem qog:∀(b:Fo) (p:List Mv) (o:Fo) (w:List Mv),w∈kyF p (mgF b o)↔w∈kyF p o∨w∈kyF p b
  | .nil,p,o,w=>by simp[mgF,kyF,wfF]
  | .cons m c k r,p,o,w=>by
    rw[mgF,qog r,qrN (fun q k' w=>qog k q k' w),qcd];simp only[List.mem_cons,List.mem_append];constructor
    · rintro ((h | h | h) | h)<;>simp[h]
    · rintro (h | h | h | h)<;>simp[h]
theorem qnr (g:Fo→Fo) (m:Mv) (c:ByteArray) (k:Fo):∀(o:Fo) (x:Mv),x∈qfU (insF g m c k o)↔x∈qfU o∨x=m
  | .nil,x=>by simp[insF,qfU]
  | .cons m' c' k' r,x=>by
    unfold insF;split
    · rename_i e;subst e;simp only[qfU,List.mem_cons];constructor
      · exact fun h => .inl h
      · rintro (h | h)
        · exact h
        · exact .inl h
    · simp only[qfU,List.mem_cons,qnr g m c k r x]
      constructor<;>(intro h;rcases h with h | h)<;>first | (simp[h];done) | (rcases h with h | h<;>simp[h])
theorem qnz {g:Fo→Fo} (hg:∀k',Dis k'→Dis (g k')) (m:Mv) (c:ByteArray) {k:Fo} (hk:Dis k):∀o,Dis o→Dis (insF g m c k o)
  | .nil,_=>⟨by simp[qfU],hk,trivial⟩
  | .cons m' c' k' r,⟨h1,h2,h3⟩=>by
    unfold insF;split
    · exact⟨h1,hg k' h2,h3⟩
    · rename_i e;refine⟨fun h=>?_,h2,qnz hg m c hk r h3⟩;rcases(qnr g m c k r m').1 h with h | h
      · exact h1 h
      · exact e h
theorem qjw:∀(b o:Fo),Dis b→Dis o→Dis (mgF b o)
  | .nil,o,_,h=>h
  | .cons m c k r,o,⟨_,h2,h3⟩,h=>qjw r _ h3 (qnz (fun k' hk'=>qjw k k' h2 hk') m c h2 o h)
def lookF:Fo→List Mv→Option ByteArray
  | .nil,_=>none
  | .cons m c k r,[]=>none
  | .cons m c k r,x::t=>if x=m then(match t with | []=>some c | _::_=>lookF k t) else lookF r (x::t)
theorem qji:∀f,lookF f []=none
  | .nil=>rfl
  | .cons _ _ _ _=>rfl
theorem qeB:∀ {f:Fo} {x:Mv} {t:List Mv} {c:ByteArray},lookF f (x::t)=some c→x∈qfU f
  | .nil,_,_,_,h=>by cases h
  | .cons m c k r,x,t,c',h=>by
    simp only[lookF] at h;split at h
    · rename_i e;simp[qfU,e]
    · exact List.mem_cons_of_mem _ (qeB h)
def combF:Option ByteArray→Option ByteArray→Option ByteArray
  | none,y=>y
  | some a,none=>some a
  | some a,some b=>some (if a.toList=[] then b else a)
theorem qbq (x:Option ByteArray):combF x none=x:=by cases x<;>rfl
theorem insF_look {g:Fo→Fo} {k:Fo} (hg:∀k' t,lookF (g k') t=combF (lookF k' t) (lookF k t)) (m:Mv) (c:ByteArray):∀(o:Fo) (t:List Mv),Dis o→lookF (insF g m c k o) t=combF (lookF o t) (lookF (.cons m c k .nil) t)
  | .nil,t,_=>by
    rw[insF];cases t<;>rfl
  | .cons m' c' k' r,[],_=>by
    unfold insF
    split<;>rfl
  | .cons m' c' k' r,x::t,⟨h1,h2,h3⟩=>by
    unfold insF;split
    · rename_i e;subst e;by_cases hx:x=m'
      · subst hx
        cases t with
        | nil=>simp[lookF,combF]
        | cons y t=>simp[lookF,hg]
      · simp only[lookF,if_neg hx,qbq]
    · rename_i e;by_cases hx:x=m'
      · subst hx
        cases t with
        | nil=>simp[lookF,e,qbq]
        | cons y t=>simp[lookF,e,qbq]
      · have:=insF_look hg m c r (x::t) h3;simp only[lookF,if_neg hx] at this ⊢;exact this
theorem qkM:∀(b o:Fo) (t:List Mv),Dis b→Dis o→lookF (mgF b o) t=combF (lookF o t) (lookF b t)
  | .nil,o,t,_,_=>by rw[mgF,lookF,qbq]
  | .cons m c k r,o,t,⟨h1,h2,h3⟩,ho=>by
    rw[mgF,qkM r _ t h3 (qnz (fun k' hk'=>qjw k k' h2 hk') m c h2 o ho)];have key:∀k' t,Dis k'→lookF (mgF k k') t=combF (lookF k' t) (lookF k t):=fun k' t hk'=>qkM k k' t h2 hk';rw[insF_lookD key m c o t ho]
    cases t with
    | nil=>simp[qji,combF]
    | cons x t =>
      by_cases hx:x=m
      · subst hx;have hr:lookF r (x::t)=none:=by
          cases h:lookF r (x::t) with
          | none=>rfl
          | some c'=>exact absurd (qeB h) h1
        rw[hr,qbq];simp[lookF]
      · simp[lookF,hx,qbq]
where
  insF_lookD {k:Fo} (hg:∀k' t,Dis k'→lookF (mgF k k') t=combF (lookF k' t) (lookF k t)) (m:Mv) (c:ByteArray):∀(o:Fo) (t:List Mv),Dis o→lookF (insF (mgF k) m c k o) t=combF (lookF o t) (lookF (.cons m c k .nil) t)
  | .nil,t,_=>by
    rw[insF];cases t<;>rfl
  | .cons m' c' k' r,[],_=>by
    unfold insF
    split<;>rfl
  | .cons m' c' k' r,x::t,⟨h1,h2,h3⟩=>by
    unfold insF;split
    · rename_i e;subst e;by_cases hx:x=m'
      · subst hx
        cases t with
        | nil=>simp[lookF,combF]
        | cons y t=>simp[lookF,hg k' _ h2]
      · simp only[lookF,if_neg hx,qbq]
    · rename_i e;by_cases hx:x=m'
      · subst hx
        cases t with
        | nil=>simp[lookF,e,qbq]
        | cons y t=>simp[lookF,e,qbq]
      · have:=insF_lookD hg m c r (x::t) h3;simp only[lookF,if_neg hx] at this ⊢;exact this
theorem qcy:∀(f:Fo) (p:List Mv) (w:List Mv) (c:ByteArray),Dis f→((w,c)∈wfF p f↔∃t,w=p++t∧lookF f t=some c)
  | .nil,p,w,c,_=>by simp[wfF,lookF]
  | .cons m c' k r,p,w,c,⟨h1,h2,h3⟩=>by
    simp only[wfF,List.mem_cons,List.mem_append,Prod.mk.injEq,qcy k _ w c h2,qcy r _ w c h3];constructor
    · rintro (⟨rfl,rfl⟩ | ⟨t,rfl,ht⟩ | ⟨t,rfl,ht⟩)
      · exact⟨[m],rfl,by simp[lookF]⟩
      · refine⟨m::t,by simp,?_⟩
        cases t with
        | nil=>rw[qji] at ht;cases ht
        | cons y t=>simpa[lookF] using ht
      · refine⟨t,rfl,?_⟩
        cases t with
        | nil=>rw[qji] at ht;cases ht
        | cons y t =>
          have:y≠m:=fun e=>h1 (e▸qeB ht);simpa[lookF,this] using ht
    · rintro ⟨t,rfl,ht⟩
      cases t with
      | nil=>cases ht
      | cons y t =>
        simp only[lookF] at ht;split at ht
        · rename_i e;subst e
          cases t with
          | nil=>simp at ht;exact .inl ⟨rfl,ht.symm⟩
          | cons z t=>exact .inr (.inl ⟨z::t,by simp,ht⟩)
        · exact .inr (.inr ⟨_,rfl,ht⟩)
theorem qip:∀(f:Fo) (p:List Mv),Dis f→(kyF p f).Nodup
  | .nil,p,_=>by simp[kyF,wfF]
  | .cons m c k r,p,⟨h1,h2,h3⟩=>by
    have pre:∀ {f:Fo} {q w:List Mv},Dis f→w∈kyF q f→∃x t c,w=q++x::t∧lookF f (x::t)=some c:=fun {f q w} hf hw=>by
      obtain⟨⟨w',c⟩,h,rfl⟩:=List.mem_map.1 hw;obtain⟨t,rfl,ht⟩:=(qcy f q w' c hf).1 h
      cases t with
      | nil=>rw[qji] at ht;cases ht
      | cons x t=>exact⟨x,t,c,rfl,ht⟩
    rw[qcd,List.nodup_cons];refine⟨fun h=>?_,List.nodup_append.2 ⟨qip k _ h2,qip r _ h3,fun a ha b hb e=>?_⟩⟩
    · rcases List.mem_append.1 h with h | h
      · obtain⟨x,t,_,e,_⟩:=pre h2 h;have:=congrArg List.length e;simp at this
      · obtain⟨x,t,_,e,ht⟩:=pre h3 h;have e':=List.append_cancel_left e;cases e';exact h1 (qeB ht)
    · subst e;obtain⟨x,t,_,e1,_⟩:=pre h2 ha;obtain⟨y,t',_,e2,ht⟩:=pre h3 hb;rw[e1,List.append_assoc] at e2;have e':=List.append_cancel_left e2;cases e';exact h1 (qeB ht)
theorem qgC {A:Type} [DecidableEq A]:∀ {l z:List A},l.Sublist z→z.Nodup→z.filter (fun w=>decide (w∈l))=l
  | [],[],_,_=>rfl
  | l,[],h,_=>by simp[List.eq_nil_of_sublist_nil h]
  | l,x::z,h,hn=>by
    obtain⟨h1,h2⟩:=List.nodup_cons.1 hn
    cases h with
    | cons _ h =>
      have:x∉l:=fun hx=>h1 (h.subset hx);rw[List.filter_cons_of_neg (by simpa using this)];exact qgC h h2
    | cons_cons _ h =>
      rename_i l';rw[List.filter_cons_of_pos (by simp)];congr 1;rw[←qgC h h2];apply List.filter_congr;intro w hw;rw[qgC h h2];have:w≠x:=fun e=>h1 (e▸hw);simp[this]
theorem qoy:Mono qcI:=by
  intro self self' hself x
  unfold qcI qmd
  repeat (first | exact Le.refl _ | assumption | apply hself | apply Le.cond | apply Le.req | apply Le.gopt | apply Le.map | apply Le.agreeW | refine Le.iterW (fun _=>?_) _ | refine Le.bind ?_ (Le.elim (fun _=>?_) (fun _=>?_)) | refine Le.bind ?_ (fun _=>?_))

def rpar (ns:List RNode) (i:Nat):Int:=((ns[i]?).map (·.1)).getD (-1)
def rmv (ns:List RNode) (i:Nat):Mv:=((ns[i]?).map (·.2.1)).getD (0,(0,(0,())))
def qo9 (ns:List RNode):Nat→Int→List Nat
  | 0,_=>[]
  | f+1,n=>if n<0 then [] else n.toNat::qo9 ns f (rpar ns n.toNat)
def Down (ns:List RNode) (k:Nat):Prop:=∀i,i<k→rpar ns i<(i:Int)
theorem Down.mono {ns:List RNode} {k j:Nat} (h:Down ns k) (hj:j≤k):Down ns j:=fun i hi=>h i (by omega)
theorem qmH {ns:List RNode}:∀(f g:Nat) (n:Int),Down ns (n+1).toNat→n<(f:Int)→n<(g:Int)→qo9 ns f n=qo9 ns g n
  | 0,0,n,_,_,_=>rfl
  | 0,g+1,n,_,h,_=>by
    show []=if n<0 then [] else _;rw[if_pos (by omega)]
  | f+1,0,n,_,_,h=>by
    show(if n<0 then [] else _)=[];rw[if_pos (by omega)]
  | f+1,g+1,n,hd,h1,h2=>by
    show(if n<0 then [] else _)=if n<0 then [] else _;by_cases h:n<0
    · rw[if_pos h,if_pos h]
    · rw[if_neg h,if_neg h];have:=hd n.toNat (by omega);rw[qmH f g (rpar ns n.toNat) (hd.mono (by omega)) (by omega) (by omega)]
def wayN (ns:List RNode) (n:Int):List Nat:=qo9 ns (n+1).toNat n
theorem qbJ (ns:List RNode) {n:Int} (h:n<0):wayN ns n=[]:=by
  unfold wayN;rw[show(n+1).toNat=0 by omega];rfl
theorem qaE {ns:List RNode} {n:Int} (h:0≤n) (hd:Down ns (n+1).toNat):wayN ns n=n.toNat::wayN ns (rpar ns n.toNat):=by
  have hp:=hd n.toNat (by omega);unfold wayN;rw[show(n+1).toNat=n.toNat+1 by omega];show(if n<0 then [] else n.toNat::qo9 ns n.toNat (rpar ns n.toNat))=_;rw[if_neg (by omega),qmH n.toNat (rpar ns n.toNat+1).toNat (rpar ns n.toNat) (hd.mono (by omega)) (by omega) (by omega)]
def wayM (ns:List RNode) (n:Int):List Mv:=((wayN ns n).map (rmv ns)).reverse
theorem wayN_le {ns:List RNode}:∀(k:Nat) (n:Int),(n+1).toNat≤k→Down ns (n+1).toNat→∀j∈wayN ns n,(j:Int)≤n
  | 0,n,hk,_,j,hj=>by rw[qbJ ns (by omega)] at hj;cases hj
  | k+1,n,hk,hd,j,hj=>by
    by_cases h:n<0
    · rw[qbJ ns h] at hj;cases hj
    · have hp:=hd n.toNat (by omega);rw[qaE (by omega) hd] at hj;rcases List.mem_cons.1 hj with rfl | hj
      · omega
      · have:=wayN_le k (rpar ns n.toNat) (by omega) (hd.mono (by omega)) j hj;omega
theorem qdg {ns:List RNode}:∀(k:Nat) (n:Int),(n+1).toNat≤k→Down ns (n+1).toNat→(wayN ns n).length≤k
  | 0,n,hk,_=>by rw[qbJ ns (by omega)];exact Nat.le_refl _
  | k+1,n,hk,hd=>by
    by_cases h:n<0
    · rw[qbJ ns h];exact Nat.zero_le _
    · have hp:=hd n.toNat (by omega);rw[qaE (by omega) hd,List.length_cons];have:=qdg k (rpar ns n.toNat) (by omega) (hd.mono (by omega));omega
theorem qcW {ns:List RNode} {n:Int} (h0:0≤n) (h1:n<((ns.length:Nat):Int)):∃d,at? ns n=some d∧d.1=rpar ns n.toNat∧d.2.1=rmv ns n.toNat:=by
  have hl:n.toNat<ns.length:=by omega
  refine⟨ns[n.toNat],at?_eq _ _ h0 h1,?_,?_⟩
  · unfold rpar;rw[List.getElem?_eq_getElem hl];rfl
  · unfold rmv;rw[List.getElem?_eq_getElem hl];rfl
theorem way_L1 (x:Rec) (hn:x.2.2.1.length≤1000):∀s:((List Mv×Int×Unit)×Unit),(s.1.2.1<((x.2.2.1.length:Nat):Int)∧Down x.2.2.1 (s.1.2.1+1).toNat∧s.1.1.length+(s.1.2.1+1).toNat≤2000) →
    iterW (qd9 x) s=some ((s.1.1++(wayN x.2.2.1 s.1.2.1).map (rmv x.2.2.1),()),()):=by
  refine qox _ (fun s:((List Mv×Int×Unit)×Unit)=>(s.1.2.1+1).toNat) (fun s=>((s.1.1++(wayN x.2.2.1 s.1.2.1).map (rmv x.2.2.1),()),())) ?_
  rintro ⟨⟨acc,n,⟨⟩⟩,⟨⟩⟩ ⟨h1,hd,hl⟩
  simp only at h1 hd hl ⊢;by_cases h:n<0
  · refine .inr ?_;unfold qd9;simp only[show decide (n≥0)=false by simp;omega,cond_false,qbJ _ h,List.map_nil,List.append_nil]
  · refine .inl ?_;have hp:=hd n.toNat (by omega);obtain⟨d,e1,e2,e3⟩:=qcW (ns:=x.2.2.1) (n:=n) (by omega) h1;refine⟨((acc++[rmv x.2.2.1 n.toNat],rpar x.2.2.1 n.toNat,()),()),?_,⟨by simp only;omega,hd.mono (by simp only;omega),by simp only[List.length_append,List.length_cons,List.length_nil];omega⟩,by simp only;omega,?_⟩
    · unfold qd9;simp only[show decide (n≥0)=true by simp;omega,cond_true];rw[e1];simp only[Option.bind_some];rw[qR (by simp only[List.length_cons,List.length_nil];omega),qd,e2,e3]
    · simp only;rw[qaE (by omega) hd,List.map_cons,List.append_assoc];rfl
def revK (xs:List Mv) (k:Nat):List Mv:=(List.range xs.length).map fun t=>if t<k∨xs.length-k≤t then xs.getD (xs.length-1-t) (0,(0,(0,()))) else xs.getD t (0,(0,(0,())))
theorem qdb (xs:List Mv) (k:Nat):(revK xs k).length=xs.length:=by simp[revK]
theorem qrI (xs:List Mv) (k t:Nat) (h:t<xs.length):getD' (revK xs k) t (0,(0,(0,())))=if t<k∨xs.length-k≤t then xs.getD (xs.length-1-t) (0,(0,(0,()))) else xs.getD t (0,(0,(0,()))):=by
  unfold getD' revK;rw[List.getD_eq_getElem?_getD,List.getElem?_map,List.getElem?_range h];rfl
theorem revK_step (xs:List Mv) (k:Nat) (h:k+1<xs.length-k):((revK xs k).set k (getD' (revK xs k) (xs.length-1-k) (0,(0,(0,()))))).set (xs.length-1-k) (getD' (revK xs k) k (0,(0,(0,()))))=revK xs (k+1):=by
  rw[qrI xs k k (by omega),qrI xs k (xs.length-1-k) (by omega),if_neg (by omega),if_neg (by omega)];apply List.ext_getElem
  · simp[qdb]
  · intro t h1 h2
    have ht:t<xs.length:=by rw[qdb] at h2;exact h2
    have e:∀j,(revK xs j)[t]?=some (if t<j∨xs.length-j≤t then xs.getD (xs.length-1-t) (0,(0,(0,()))) else xs.getD t (0,(0,(0,())))):=fun j=>by
      unfold revK;rw[List.getElem?_map,List.getElem?_range ht];rfl
    have e1:(revK xs (k+1))[t]=if t<k+1∨xs.length-(k+1)≤t then xs.getD (xs.length-1-t) (0,(0,(0,()))) else xs.getD t (0,(0,(0,()))):=by
      have:=e (k+1);rw[List.getElem?_eq_getElem h2] at this;exact Option.some.inj this
    have hk:t<(revK xs k).length:=by rw[qdb];exact ht
    have e2:(revK xs k)[t]=if t<k∨xs.length-k≤t then xs.getD (xs.length-1-t) (0,(0,(0,()))) else xs.getD t (0,(0,(0,()))):=by
      have:=e k;rw[List.getElem?_eq_getElem hk] at this;exact Option.some.inj this
    rw[e1,List.getElem_set,List.getElem_set,e2];by_cases c1:xs.length-1-k=t
    · rw[if_pos c1,if_pos (by omega),show xs.length-1-t=k by omega]
    · rw[if_neg c1];by_cases c2:k=t
      · rw[if_pos c2,if_pos (by omega),c2]
      · rw[if_neg c2];by_cases c3:t<k∨xs.length-k≤t
        · rw[if_pos c3,if_pos (by omega)]
        · rw[if_neg c3,if_neg (by omega)]
theorem revK_zero (xs:List Mv):revK xs 0=xs:=by
  apply List.ext_getElem
  · exact qdb xs 0
  · intro t h1 h2;have e:(revK xs 0)[t]?=some (xs.getD t (0,(0,(0,())))):=by
      unfold revK;rw[List.getElem?_map,List.getElem?_range h2];show some (if t<0∨xs.length-0≤t then _ else _)=_;rw[if_neg (by omega)]
    rw[List.getElem?_eq_getElem h1] at e;rw[Option.some.inj e];simp[List.getD_eq_getElem?_getD,h2]
theorem revK_all (xs:List Mv) (k:Nat) (h:xs.length≤2*k+1) (hk:2*k≤xs.length):revK xs k=xs.reverse:=by
  apply List.ext_getElem
  · rw[qdb,List.length_reverse]
  · intro t h1 h2
    have ht:t<xs.length:=by rw[qdb] at h1;exact h1
    have e:(revK xs k)[t]?=some (if t<k∨xs.length-k≤t then xs.getD (xs.length-1-t) (0,(0,(0,()))) else xs.getD t (0,(0,(0,())))):=by
      unfold revK;rw[List.getElem?_map,List.getElem?_range ht];rfl
    rw[List.getElem?_eq_getElem h1] at e;rw[Option.some.inj e,List.getElem_reverse];by_cases c:t<k∨xs.length-k≤t
    · rw[if_pos c];simp[List.getD_eq_getElem?_getD,show xs.length-1-t<xs.length by omega]
    · rw[if_neg c]
      have:t=xs.length-1-t:=by omega
      simp only[←this];simp[List.getD_eq_getElem?_getD,ht]
theorem way_L2 (xs:List Mv) (hx:xs.length≤1000000):iterW qcQ ((0,(w64 (((xs.length:Nat):Int)-1)),()),(xs,()))=some ((),(xs.reverse,())):=by
  have:=qel (f:=qcQ) (xs.length / 2) (fun k=>(((k:Int),((xs.length:Nat):Int)-1-(k:Int),()),(revK xs k,()))) ((),(xs.reverse,())) (fun k hk=>by
    unfold qcQ
    have e1:(((xs.length:Nat):Int)-1-(k:Int)).toNat=xs.length-1-k:=by omega
    simp only[show decide ((k:Int)<((xs.length:Nat):Int)-1-(k:Int))=true by simp;omega,cond_true];rw[show inb (((xs.length:Nat):Int)-1-(k:Int)) (revK xs k).length=true from inb_iff.2 (by rw[qdb];omega),show inb (k:Int) (revK xs k).length=true from inb_iff.2 (by rw[qdb];omega)];simp only[qd,Int.toNat_natCast,e1]
    rw[show ∀y,inb (((xs.length:Nat):Int)-1-(k:Int)) ((revK xs k).set k y).length=true from fun y=>inb_iff.2 (by rw[List.length_set,qdb];omega),qd,revK_step xs k (by omega),qg (by omega) (by omega),qg (by omega) (by omega),show((k+1:Nat):Int)=(k:Int)+1 by omega,show((xs.length:Nat):Int)-1-((k:Int)+1)=((xs.length:Nat):Int)-1-(k:Int)-1 by omega]) (by
    unfold qcQ;simp only[show decide (((xs.length / 2:Nat):Int)<((xs.length:Nat):Int)-1-((xs.length / 2:Nat):Int))=false by simp only[decide_eq_false_iff_not];omega,cond_false]
    rw[revK_all xs _ (by omega) (by omega)])
  simp only[Int.natCast_zero,Int.sub_zero,revK_zero] at this;rw[qg (by omega) (by omega)];exact this
theorem qq6 (x:Rec) (hn:x.2.2.1.length≤1000) {n:Int} (h0 : -1≤n) (h1:n<((x.2.2.1.length:Nat):Int)) (hd:Down x.2.2.1 (n+1).toNat):qZ x n=some (wayM x.2.2.1 n):=by
  unfold qZ;have e:=way_L1 x hn (([],n,()),()) ⟨h1,hd,by simp only[List.length_nil];omega⟩;simp only[List.nil_append] at e;have hl:=qdg _ n (Nat.le_refl _) hd;rw[e,Option.bind_some];simp only;rw[way_L2 _ (by rw[List.length_map];omega),Option.bind_some];rfl
theorem qoX (ns:List RNode) (hn:ns.length≤1000):∀x:List RNode×Int×Unit,(x.1=ns ∧ -1≤x.2.1∧x.2.1<((ns.length:Nat):Int)∧Down ns (x.2.1+1).toNat∧∀i,i<(x.2.1+1).toNat → -1≤rpar ns i)→fixW qcI x=some (wayM ns x.2.1,(true,())):=by
  refine fixW_ind qoy _ (fun x=>(x.2.1+1).toNat) (fun x=>(wayM ns x.2.1,(true,()))) ?_
  rintro φ ⟨l,n,⟨⟩⟩ ⟨rfl,h0,h1,hd,hm⟩ hφ
  simp only at h0 h1 hd hm hφ ⊢;have hn:l.length≤1000:=hn;unfold qcI qmd;simp only;by_cases h:n = -1
  · subst h;simp only[beq_self_eq_true,cond_true];rw[show wayM l (-1)=[] by unfold wayM;rw[qbJ l (by omega)];rfl]
  · obtain⟨d,e1,e2,e3⟩:=qcW (ns:=l) (n:=n) (by omega) h1;have hp:=hd n.toNat (by omega);have hp2:=hm n.toNat (by omega);rw[beq_f h,cond_false,show(decide (n<0)||decide (n≥((l.length:Nat):Int)))=false by simp only[Bool.or_eq_false_iff,decide_eq_false_iff_not];omega]
    have hgat:∀z,gat true z l n=some d:=fun z=>by show at? l n=_;exact e1
    simp only[Bool.not_false,hgat,Option.bind_some,Bool.false_or,e2,show decide (rpar l n.toNat≥n)=false by simp only[decide_eq_false_iff_not];omega,cond_false];rw[e1];simp only[Option.bind_some,e2];rw[hφ (l,rpar l n.toNat,()) ⟨rfl,hp2,by simp only;omega,hd.mono (by simp only;omega),fun i hi=>hm i (by simp only at hi;omega)⟩ (by simp only;omega),Option.bind_some];have hl:=qdg _ (rpar l n.toNat) (Nat.le_refl _) (hd.mono (by omega));rw[qR (by unfold wayM;simp only[List.length_reverse,List.length_map,List.length_cons,List.length_nil];omega),qd,e3];have:wayM l n=wayM l (rpar l n.toNat)++[rmv l n.toNat]:=by
      unfold wayM;rw[qaE (by omega) hd,List.map_cons,List.reverse_cons]
    rw[this]
theorem way3 (ns:List RNode) (hn:ns.length≤1000) {n:Int} (h0 : -1≤n) (h1:n<((ns.length:Nat):Int)) (hd:Down ns (n+1).toNat) (hm:∀i,i<(n+1).toNat → -1≤rpar ns i):qou ns n=some (wayM ns n,(true,())) :=
  qoX ns hn (ns,n,()) ⟨rfl,h0,h1,hd,hm⟩
theorem on_L1 (a:Int) (x:Rec):∀s:((Int×Unit)×Unit),(s.1.1<((x.2.2.1.length:Nat):Int)∧Down x.2.2.1 (s.1.1+1).toNat) →
    iterW (qdp a x) s=some (if 0≤a∧a.toNat∈wayN x.2.2.1 s.1.1 then .inr true else .inl ((),())):=by
  refine qox _ (fun s:((Int×Unit)×Unit)=>(s.1.1+1).toNat) (fun s=>if 0≤a∧a.toNat∈wayN x.2.2.1 s.1.1 then(Sum.inr true:(Unit×Unit) ⊕ Bool) else Sum.inl ((),())) ?_
  rintro ⟨⟨n,⟨⟩⟩,⟨⟩⟩ ⟨h1,hd⟩
  simp only at h1 hd ⊢;by_cases h:n<0
  · refine .inr ?_;unfold qdp;simp only[show decide (n≥0)=false by simp;omega,cond_false,qbJ _ h];rw[if_neg (by simp)]
  · have hp:=hd n.toNat (by omega);have hw:=qaE (ns:=x.2.2.1) (by omega) hd;by_cases ha:n=a
    · refine .inr ?_;subst ha;unfold qdp;simp only[show decide (n≥0)=true by simp;omega,cond_true,beq_self_eq_true];rw[if_pos ⟨by omega,by rw[hw];exact List.mem_cons_self⟩]
    · refine .inl ⟨((rpar x.2.2.1 n.toNat,()),()),?_,⟨by simp only;omega,hd.mono (by simp only;omega)⟩,by simp only;omega,?_⟩
      · obtain⟨d,e1,e2,e3⟩:=qcW (ns:=x.2.2.1) (n:=n) (by omega) h1;unfold qdp;simp only[show decide (n≥0)=true by simp;omega,cond_true,beq_f ha,cond_false];rw[e1,Option.bind_some,e2]
      · simp only;rw[hw];have:(0≤a∧a.toNat∈n.toNat::wayN x.2.2.1 (rpar x.2.2.1 n.toNat))↔(0≤a∧a.toNat∈wayN x.2.2.1 (rpar x.2.2.1 n.toNat)):=by
          rw[List.mem_cons];constructor
          · rintro ⟨q1,q2 | q2⟩
            · omega
            · exact⟨q1,q2⟩
          · rintro ⟨q1,q2⟩;exact⟨q1,.inr q2⟩
        simp only[this]
theorem on_spec (x:Rec) (a:Int) {n:Int} (h1:n<((x.2.2.1.length:Nat):Int)) (hd:Down x.2.2.1 (n+1).toNat):qgS x a n=some (decide (0≤a∧a.toNat∈wayN x.2.2.1 n)||(a == -1)):=by
  unfold qgS;rw[on_L1 a x ((n,()),()) ⟨h1,hd⟩,Option.bind_some];by_cases h:0≤a∧a.toNat∈wayN x.2.2.1 n
  · simp only[if_pos h,decide_eq_true h,Bool.true_or];rfl
  · simp only[if_neg h,decide_eq_false h,Bool.false_or];rfl
theorem above_L1 (a:Int) (ha:0≤a) (ns:List RNode):∀s:((Int×Unit)×Unit),(s.1.1<((ns.length:Nat):Int)∧Down ns (s.1.1+1).toNat) →
    ∃r,iterW (qbP a ns) s=some r∧(r.1.1==a)=decide (a.toNat∈wayN ns s.1.1):=by
  have key:∀k (n:Int),(n+1).toNat≤k→n<((ns.length:Nat):Int)→Down ns (n+1).toNat→∃r,iterW (qbP a ns) ((n,()),())=some r∧(r.1.1==a)=decide (a.toNat∈wayN ns n):=by
    intro k
    induction k with
    | zero =>
      intro n hk h1 hd;refine⟨((n,()),()),qh ?_,?_⟩
      · unfold qbP;simp only[show(decide (n>a)&&decide (n≥0))=false by simp;omega,cond_false]
      · simp only[qbJ ns (show n<0 by omega)];rw[beq_f (by omega)];simp
    | succ k ih =>
      intro n hk h1 hd;by_cases h:n>a
      · have hp:=hd n.toNat (by omega);obtain⟨d,e1,e2,e3⟩:=qcW (ns:=ns) (n:=n) (by omega) h1;obtain⟨r,q1,q2⟩:=ih (rpar ns n.toNat) (by omega) (by omega) (hd.mono (by omega));refine⟨r,?_,?_⟩
        · rw[ql (y:=((rpar ns n.toNat,()),()))]
          · exact q1
          · unfold qbP;simp only[show(decide (n>a)&&decide (n≥0))=true by simp;omega,cond_true];rw[e1,Option.bind_some,e2]
        · rw[q2,qaE (by omega) hd];congr 1;rw[List.mem_cons,eq_iff_iff];constructor
          · exact .inr
          · rintro (q | q)
            · omega
            · exact q
      · refine⟨((n,()),()),qh ?_,?_⟩
        · unfold qbP;simp only[show(decide (n>a)&&decide (n≥0))=false by simp;omega,cond_false]
        · simp only;by_cases e:n=a
          · subst e;rw[beq_self_eq_true,qaE ha hd];simp
          · rw[beq_f e];have:¬a.toNat∈wayN ns n:=fun hm=>by
              have:=wayN_le _ n (Nat.le_refl _) hd _ hm;omega
            simp[this]
  rintro ⟨⟨n,⟨⟩⟩,⟨⟩⟩ ⟨h1,hd⟩
  exact key _ n (Nat.le_refl _) h1 hd
theorem qnv (ns:List RNode) {a n:Int} (ha:0≤a) (h1:n<((ns.length:Nat):Int)) (hd:Down ns (n+1).toNat):qe1 ns a n=some (decide (a.toNat∈wayN ns n)):=by
  obtain⟨r,q1,q2⟩:=above_L1 a ha ns ((n,()),()) ⟨h1,hd⟩;unfold qe1;rw[q1,Option.bind_some,q2]

def rcom (ns:List RNode) (i:Nat):ByteArray:=((ns[i]?).map (·.2.2.1)).getD ByteArray.empty
def gErr (r:Rules) (l:List Mv):Int:=if qw r=0 then(match qhs r l with
    | .inl _=>0
    | .inr e=>e) else qw r
theorem run_err (r:Rules) (l:List Mv):(qrr r l).2.2.1=gErr r l:=by
  unfold qrr gErr;by_cases c:qw r=0
  · rw[if_pos c,if_pos c]
    cases qhs r l<;>rfl
  · rw[if_neg c,if_neg c]
theorem qgG (r:Rules) (l:List Mv):(qjg r l).2.1=gErr r l:=by
  unfold qjg gErr;by_cases c:qw r=0
  · rw[if_pos c,if_pos c]
    cases qhs r l<;>rfl
  · rw[if_neg c,if_neg c]
def ordB (ns:List RNode) (i:Nat):Bool:=decide (rpar ns i<(i:Int))&&(decide (0≤rpar ns i∧(rpar ns i).toNat∈wayN ns ((i:Int)-1))||(rpar ns i == -1))
def twinB (ns:List RNode) (i:Nat):Bool:=(List.range i).any fun k=>(rpar ns k==rpar ns i)&&(rmv ns k==rmv ns i)
def sibB (ns:List RNode) (i:Nat):Bool:=(List.range i).any fun k=>rpar ns k==rpar ns i
def nErr (r:Rules) (ns:List RNode) (i:Nat):Int:=if cErr (rcom ns i)≠0 then cErr (rcom ns i) else if ordB ns i=false then 3 else if twinB ns i=true then 7 else gErr r (wayM ns (i:Int))
def Ord (ns:List RNode) (k:Nat):Prop:=∀i,i<k→ordB ns i=true
theorem Ord.down {ns:List RNode} {k:Nat} (h:Ord ns k):Down ns k:=fun i hi=>by
  have:=h i hi;unfold ordB at this;simp only[Bool.and_eq_true,decide_eq_true_eq] at this;exact this.1
theorem Ord.low {ns:List RNode} {k:Nat} (h:Ord ns k):∀i,i<k → -1≤rpar ns i:=fun i hi=>by
  have:=h i hi;unfold ordB at this;simp only[Bool.and_eq_true,Bool.or_eq_true,decide_eq_true_eq,beq_iff_eq] at this;omega
theorem Ord.mono {ns:List RNode} {k j:Nat} (h:Ord ns k) (hj:j≤k):Ord ns j:=fun i hi=>h i (by omega)
theorem Ord.step {ns:List RNode} {k:Nat} (h:Ord ns k) (hk:ordB ns k=true):Ord ns (k+1):=fun i hi=>by
  by_cases e:i=k
  · subst e;exact hk
  · exact h i (by omega)
theorem qbN {ns:List RNode} {i:Nat} (hi:i<ns.length):ns[i].1=rpar ns i∧ns[i].2.1=rmv ns i∧ns[i].2.2.1=rcom ns i:=by
  unfold rpar rmv rcom;rw[List.getElem?_eq_getElem hi];exact⟨rfl,rfl,rfl⟩
theorem qrg {ns:List RNode} {i:Nat} (h:Down ns i) (hs:sibB ns i=true):rpar ns i+2≤(i:Int)∨rpar ns i<0∧1≤i:=by
  unfold sibB at hs;rw[List.any_eq_true] at hs;obtain⟨k,hk,e⟩:=hs;have hk:=List.mem_range.1 hk;have:=h k hk
  have e:rpar ns k=rpar ns i:=by simpa using e
  omega
structure qrm (ns:List RNode) (deep:List Int) (i:Nat):Prop where
  len:deep.length=ns.length
  all:∀j,j<ns.length→0≤deep.getD j 0∧2*deep.getD j 0≤(j:Int)+1
  zero:∀j,i≤j→deep.getD j 0=0
theorem gdD (xs:List Int) (i:Nat):getD' xs i 0=xs.getD i 0:=rfl
theorem setD (xs:List Int) (i j:Nat) (a:Int) (h:i<xs.length):(xs.set i a).getD j 0=if i=j then a else xs.getD j 0:=by
  rw[List.getD_eq_getElem?_getD,List.getD_eq_getElem?_getD,List.getElem?_set];by_cases e:i=j
  · rw[if_pos e,if_pos e,if_pos h];rfl
  · rw[if_neg e,if_neg e]
abbrev eqMv (a b:Mv):Bool:=(a.1==b.1)&&((a.2.1==b.2.1)&&((a.2.2.1==b.2.2.1)&&true))
theorem qiA (a b:Mv):eqMv a b=(a==b):=by
  obtain⟨a1,a2,a3,⟨⟩⟩:=a;obtain⟨b1,b2,b3,⟨⟩⟩:=b;rw[Bool.eq_iff_iff];simp[eqMv]
theorem qf0 {r:Rules} (hr:Rng qX r) (x:Rec) (hx:Rng tyRec x) (h30:x.2.2.1.length≤30) {i:Nat} (hi:i<x.2.2.1.length) (ho:Ord x.2.2.1 i) {deep:List Int} (hD:qrm x.2.2.1 deep i) :
    ∃deep',qdo deep r x (i:Int)=some (deep',nErr r x.2.2.1 i)∧(nErr r x.2.2.1 i=0→qrm x.2.2.1 deep' (i+1)):=by
  have hcs:(rcom x.2.2.1 i).size≤9223372036854775807:=by
    have:=(hx.2.2.1.2 _ (List.getElem_mem hi)).2.2.1;rw[←(qbN hi).2.2];exact this
  have hd:=ho.down;obtain⟨n1,n2,n3⟩:=qbN hi;unfold qdo;rw[qbj _ _ hi,Option.bind_some];simp only[n1,n2,n3];rw[qeb _ hcs,Option.bind_some];unfold nErr;by_cases hc:cErr (rcom x.2.2.1 i)=0
  rotate_left
  · rw[bne_t hc,cond_true,if_pos hc];exact⟨_,rfl,fun h=>absurd h hc⟩
  rw[bne_f hc,cond_false,if_neg (fun h=>h hc)];have hon:qgS x (rpar x.2.2.1 i) (w64 ((i:Int)-1))=some (decide (0≤rpar x.2.2.1 i∧(rpar x.2.2.1 i).toNat∈wayN x.2.2.1 ((i:Int)-1))||(rpar x.2.2.1 i == -1)):=by
    rw[qg (by omega) (by omega)];exact on_spec x _ (by omega) (by rw[show((i:Int)-1+1).toNat=i by omega];exact hd)
  rw[hon];by_cases hob:ordB x.2.2.1 i=true
  rotate_left
  · rw[Bool.not_eq_true] at hob;rw[if_pos hob];refine⟨deep,?_,fun h=>by cases h⟩;unfold ordB at hob;by_cases hp:rpar x.2.2.1 i<(i:Int)
    · rw[decide_eq_true hp,Bool.true_and] at hob;rw[show decide (rpar x.2.2.1 i≥(i:Int))=false by simp only[decide_eq_false_iff_not];omega,hob];rfl
    · rw[show decide (rpar x.2.2.1 i≥(i:Int))=true by simp only[decide_eq_true_eq];omega];rfl
  rw[if_neg (by rw[hob];decide)];have hor:=ho.step hob;have hd1:=hor.down;have hpi:=hd1 i (Nat.lt_succ_self i);have hpl:=hor.low i (Nat.lt_succ_self i);have hob2:=hob;unfold ordB at hob2;rw[decide_eq_true hpi,Bool.true_and] at hob2;rw[show decide (rpar x.2.2.1 i≥(i:Int))=false by simp only[decide_eq_false_iff_not];omega,hob2];simp only[Bool.not_false,gopt,cond_true,Option.bind_some,Bool.not_true,Bool.or_self,cond_false];have hdl:=hD.len
  obtain⟨dp,hdp1,hdp2⟩:∃dp:List Int,(bif (decide (rpar x.2.2.1 i≥0)) then req (inb (rpar x.2.2.1 i) deep.length) (req (inb (i:Int) deep.length) (some ((),((deep.set (((i:Int)).toNat) (getD' deep ((rpar x.2.2.1 i).toNat) 0)),()))))
      else some ((),(deep,())))=some ((),(dp,()))∧(qrm x.2.2.1 dp (i+1)∧(2*dp.getD i 0≤rpar x.2.2.1 i+1)):=by
    by_cases h0:0≤rpar x.2.2.1 i
    · rw[show decide (rpar x.2.2.1 i≥0)=true by simp only[decide_eq_true_eq];omega,cond_true,inb_iff.2 ⟨h0,by omega⟩,qd,show inb (i:Int) deep.length=true from inb_iff.2 (by omega),qd];have q:=hD.all (rpar x.2.2.1 i).toNat (by omega);refine⟨_,rfl,⟨by rw[List.length_set];exact hdl,fun j hj=>?_,fun j hj=>?_⟩,?_⟩
      · rw[Int.toNat_natCast,gdD,setD _ _ _ _ (by omega)];by_cases e:i=j
        · rw[if_pos e];omega
        · rw[if_neg e];exact hD.all j hj
      · rw[Int.toNat_natCast,gdD,setD _ _ _ _ (by omega),if_neg (by omega)];exact hD.zero j (by omega)
      · rw[Int.toNat_natCast,gdD,setD _ _ _ _ (by omega),if_pos rfl];omega
    · rw[show decide (rpar x.2.2.1 i≥0)=false by simp only[decide_eq_false_iff_not];omega,cond_false];exact⟨_,rfl,⟨hdl,hD.all,fun j hj=>hD.zero j (by omega)⟩,by rw[hD.zero i (Nat.le_refl _)];omega⟩
  rw[hdp1,Option.bind_some];rw[show qv 0 (i:Int) x.2.2.1.length=true by simp only[qv,Bool.and_eq_true,decide_eq_true_eq];omega,qd,qd]
  have htl:(x.2.2.1.take i).length=i:=by rw[List.length_take];omega
  have tk:∀k (hk:k<(x.2.2.1.take i).length),(x.2.2.1.take i)[k].1=rpar x.2.2.1 k∧(x.2.2.1.take i)[k].2.1=rmv x.2.2.1 k:=fun k hk=>by
    rw[List.getElem_take];exact⟨(qbN (by omega)).1,(qbN (by omega)).2.1⟩
  obtain⟨nd,hnd⟩:∃nd:RNode,x.2.2.1[i]=nd:=⟨_,rfl⟩;rw[hnd] at n1 n2;rw[hnd];have anyT:(x.2.2.1.take i).any (fun d=>(d.1==rpar x.2.2.1 i)&&(d.2.1==rmv x.2.2.1 i))=twinB x.2.2.1 i:=by
    unfold twinB;rw[Bool.eq_iff_iff,List.any_eq_true,List.any_eq_true];constructor
    · rintro ⟨d,hd,e⟩
      obtain⟨k,hk,rfl⟩:=List.mem_iff_getElem.1 hd;rw[(tk k hk).1,(tk k hk).2] at e;exact⟨k,List.mem_range.2 (by omega),e⟩
    · rintro ⟨k,hk,e⟩
      have hk:=List.mem_range.1 hk;refine⟨(x.2.2.1.take i)[k]'(by omega),List.getElem_mem _,?_⟩;rw[(tk k (by omega)).1,(tk k (by omega)).2];exact e
  have anyS:(x.2.2.1.take i).any (fun d=>d.1==rpar x.2.2.1 i)=sibB x.2.2.1 i:=by
    unfold sibB;rw[Bool.eq_iff_iff,List.any_eq_true,List.any_eq_true];constructor
    · rintro ⟨d,hd,e⟩
      obtain⟨k,hk,rfl⟩:=List.mem_iff_getElem.1 hd;rw[(tk k hk).1] at e;exact⟨k,List.mem_range.2 (by omega),e⟩
    · rintro ⟨k,hk,e⟩
      have hk:=List.mem_range.1 hk;refine⟨(x.2.2.1.take i)[k]'(by omega),List.getElem_mem _,?_⟩;rw[(tk k (by omega)).1];exact e
  have hL1:=qt (x.2.2.1.take i) (fun d=>(d.1==rpar x.2.2.1 i)&&(d.2.1==rmv x.2.2.1 i)) (qaS x (i:Int) nd ((),(dp,()))) (.inr (dp,7)) (.inl ((),())) (fun k hk=>by
    unfold qaS;simp only[Int.toNat_natCast,List.drop_zero,n1,n2];rw[htl];simp only[show decide ((k:Int)<((i:Nat):Int))=true by simp;omega,cond_true];rw[qbj _ _ hk,Option.bind_some,(tk k hk).1,(tk k hk).2];rw[qg (n:=(k:Int)+1) (by omega) (by omega)];have:=qiA (rmv x.2.2.1 k) (rmv x.2.2.1 i);unfold eqMv at this;rw[this];cases e1:(rpar x.2.2.1 k==rpar x.2.2.1 i)
    · simp only[bne,e1,Bool.not_false,cond_true,Option.bind_some,Sum.elim_inl,Bool.false_and,cond_false];rfl
    · simp only[bne,e1,Bool.not_true,cond_false,Bool.true_and]
      cases (rmv x.2.2.1 k==rmv x.2.2.1 i)<;>rfl) (by
    unfold qaS;simp only[Int.toNat_natCast,List.drop_zero];rw[htl]
    simp)
  rw[hL1,anyT,Option.bind_some];cases htw:twinB x.2.2.1 i
  rotate_left
  · simp only[cond_true,Sum.elim_inr,if_true];exact⟨dp,rfl,fun h=>by cases h⟩
  simp only[cond_false,Sum.elim_inl,if_neg (show ¬(false=true) by decide)];have hway:qZ x (i:Int)=some (wayM x.2.2.1 (i:Int)):=qq6 x (by omega) (by omega) (by omega) (by rw[show((i:Int)+1).toNat=i+1 by omega];exact hd1);have hwl:(wayM x.2.2.1 (i:Int)).length≤1000:=by
    unfold wayM;rw[List.length_reverse,List.length_map];have:=qdg _ (i:Int) (Nat.le_refl _) (by rw[show((i:Int)+1).toNat=i+1 by omega];exact hd1);omega
  have hrun:=qr9 r (wayM x.2.2.1 (i:Int)) hr (by omega)
  have gm:∀z:List Int,z.length=x.2.2.1.length→2*z.getD i 0≤(i:Int)+1→(Option.bind (Option.bind (qZ x (i:Int)) fun r15=>Option.bind (qam r r15) fun r16=>some ((r16.2.2.1,()),())) fun x27:((Int×Unit)×Unit) =>
      bif (x27.1.1 !=0) then some (z,x27.1.1) else req (inb (i:Int) z.length) (bif (decide ((getD' z (((i:Int)).toNat) 0)>20)) then some (z,2) else some (z,0)))=some (z,gErr r (wayM x.2.2.1 (i:Int))):=fun z hz h2=>by
    rw[hway,Option.bind_some,hrun,Option.bind_some,Option.bind_some,run_err];by_cases e:gErr r (wayM x.2.2.1 (i:Int))=0
    · simp only[e,bne_self_eq_false,cond_false];rw[inb_iff.2 ⟨by omega,by omega⟩,qd,Int.toNat_natCast,gdD,show decide (z.getD i 0>20)=false by simp only[decide_eq_false_iff_not];omega,cond_false]
    · simp only[bne_t e,cond_true]
  have hL2:=qt (x.2.2.1.take i) (fun d=>d.1==rpar x.2.2.1 i) (qaQ x (i:Int) nd ((),(dp,())) r) (.inr ((dp.set i (dp.getD i 0+1)),gErr r (wayM x.2.2.1 (i:Int)))) (.inl ((),())) (fun k hk=>by
    unfold qaQ;simp only[Int.toNat_natCast,List.drop_zero,n1,n2];rw[htl];simp only[show decide ((k:Int)<((i:Nat):Int))=true by simp;omega,cond_true];rw[qbj _ _ hk,Option.bind_some,(tk k hk).1];rw[qg (n:=(k:Int)+1) (by omega) (by omega)];cases e1:(rpar x.2.2.1 k==rpar x.2.2.1 i)
    · rfl
    · have hs:sibB x.2.2.1 i=true:=by
        unfold sibB;rw[List.any_eq_true];exact⟨k,List.mem_range.2 (by omega),e1⟩
      have hgap:=qrg hd hs;have hq:=hdp2.1.all i hi;have hq2:=hdp2.2;have hdl2:=hdp2.1.len;simp only[cond_true,show decide ((k:Int)≥0)=true by simp];rw[inb_iff.2 ⟨by omega,by omega⟩,qd,qd,Option.bind_some];simp only[agree_self];have:=gm (dp.set i (dp.getD i 0+1)) (by rw[List.length_set];exact hdl2) (by rw[setD _ _ _ _ (by omega),if_pos rfl];omega);simp only[Int.toNat_natCast] at this;rw[gdD,qg (by omega) (by omega),this]
      rfl) (by
    unfold qaQ;simp only[Int.toNat_natCast,List.drop_zero];rw[htl]
    simp)
  rw[hL2,anyS,Option.bind_some];have hq:=hdp2.1.all i hi;have hq2:=hdp2.2;have hdl2:=hdp2.1.len;cases hsb:sibB x.2.2.1 i
  · simp only[cond_false,Sum.elim_inl,agree_self];exact⟨dp,gm dp hdl2 (by omega),fun _=>hdp2.1⟩
  · have hgap:=qrg hd hsb;simp only[cond_true,Sum.elim_inr];refine⟨_,rfl,fun _=>⟨by rw[List.length_set];exact hdl2,fun j hj=>?_,fun j hj=>?_⟩⟩
    · rw[setD _ _ _ _ (by omega)];by_cases e:i=j
      · rw[if_pos e];omega
      · rw[if_neg e];exact hdp2.1.all j hj
    · rw[setD _ _ _ _ (by omega),if_neg (by omega)];exact hdp2.1.zero j hj
theorem qjQ (e:Nat→Int) (i k:Nat):scan (fun i=>nz (e i)) 0 i (k+1)=if e i=0 then scan (fun i=>nz (e i)) 0 (i+1) k else e i:=by
  by_cases h:e i=0
  · rw[if_pos h]
    conv=>lhs;unfold scan
    simp only[nz,if_pos h]
  · rw[if_neg h]
    conv=>lhs;unfold scan
    simp only[nz,if_neg h]
def qP (r:Rules) (x:Rec):Int:=if qw r≠0 then qw r else if 10<x.1.length then 2 else if qs (tErr x.1) x.1.length≠0 then qs (tErr x.1) x.1.length else if x.2.2.2.1<0∨3<x.2.2.2.1 then 4 else if cErr x.2.1≠0 then cErr x.2.1 else qs (nErr r x.2.2.1) x.2.2.1.length
theorem qgW {r:Rules} {ns:List RNode} {i:Nat} (h:nErr r ns i=0):ordB ns i=true:=by
  unfold nErr at h;split at h
  · contradiction
  · cases e:ordB ns i
    · rw[e,if_pos rfl] at h;cases h
    · rfl
theorem ord_of {r:Rules} {ns:List RNode} (h:qs (nErr r ns) ns.length=0):Ord ns ns.length:=fun i hi=>qgW (qaP h i hi)
theorem qsp {r:Rules} (hr:Rng qX r) (x:Rec) (hx:Rng tyRec x) (h30:x.2.2.1.length≤30):∀(k i:Nat) (deep:List Int),i+k=x.2.2.1.length→Ord x.2.2.1 i→qrm x.2.2.1 deep i →
    Option.bind (iterW (qab x r) (((i:Int),()),(deep,()))) (Sum.elim (fun _=>some 0) some)=some (scan (fun i=>nz (nErr r x.2.2.1 i)) 0 i k):=by
  intro k
  induction k with
  | zero =>
    intro i deep hi ho hD
    have:i=x.2.2.1.length:=by omega
    subst this;rw[qh (r := .inl ((),(deep,()))) (by unfold qab;simp)];rfl
  | succ k ih =>
    intro i deep hi ho hD;obtain⟨deep',h1,h2⟩:=qf0 hr x hx h30 (i:=i) (by omega) ho hD;have hs:=qjQ (nErr r x.2.2.1) i k;rw[hs];by_cases e:nErr r x.2.2.1 i=0
    · rw[if_pos e,ql (y:=((((i+1:Nat):Int),()),(deep',())))]
      · exact ih (i+1) deep' (by omega) (ho.step (qgW e)) (h2 e)
      · unfold qab;simp only[show decide ((i:Int)<((x.2.2.1.length:Nat):Int))=true by simp;omega,cond_true];rw[h1,Option.bind_some];simp only[e,bne_self_eq_false,cond_false];rw[qg (by omega) (by omega)];rfl
    · rw[if_neg e,qh (r := .inr (nErr r x.2.2.1 i))]
      · rfl
      · unfold qab;simp only[show decide ((i:Int)<((x.2.2.1.length:Nat):Int))=true by simp;omega,cond_true];rw[h1,Option.bind_some];simp only[bne_t e,cond_true]
theorem qhQ {r:Rules} (hr:Rng qX r) (x:Rec) (hx:Rng tyRec x) (h30:x.2.2.1.length≤30):qal r x=some (qP r x):=by
  unfold qal qP;rw[qgU r hr,Option.bind_some];by_cases c:qw r=0
  rotate_left
  · rw[bne_t c,cond_true,if_pos c]
  rw[bne_f c,cond_false,if_neg (fun h=>h c)];rw[show decide (((x.2.2.1.length:Nat):Int)>200)=false by simp only[decide_eq_false_iff_not];omega,Bool.or_false];by_cases c1:10<x.1.length
  · rw[if_pos c1,show decide (((x.1.length:Nat):Int)>10)=true by simp only[decide_eq_true_eq];omega];rfl
  rw[if_neg c1,show decide (((x.1.length:Nat):Int)>10)=false by simp only[decide_eq_false_iff_not];omega,cond_false,qpd x hx,Option.bind_some];by_cases c2:qs (tErr x.1) x.1.length=0
  rotate_left
  · rw[bne_t c2,cond_true,if_pos c2]
  rw[bne_f c2,cond_false,if_neg (fun h=>h c2)];by_cases c3:x.2.2.2.1<0∨3<x.2.2.2.1
  · rw[if_pos c3,show(decide (x.2.2.2.1<0)||decide (x.2.2.2.1>3))=true by simp only[Bool.or_eq_true,decide_eq_true_eq];omega];rfl
  rw[if_neg c3,show(decide (x.2.2.2.1<0)||decide (x.2.2.2.1>3))=false by simp only[Bool.or_eq_false_iff,decide_eq_false_iff_not];omega,cond_false];rw[qeb _ hx.2.1,Option.bind_some];by_cases c4:cErr x.2.1=0
  rotate_left
  · rw[bne_t c4,cond_true,if_pos c4]
  rw[bne_f c4,cond_false,if_neg (fun h=>h c4)]
  rw[show(decide (0≤((x.2.2.1.length:Nat):Int))&&((((x.2.2.1.length:Nat):Int)==((x.2.2.1.length:Nat):Int))&&room (((x.2.2.1.length:Nat):Int)).toNat 8))=true by
    rw[beq_self_eq_true,qR (by omega)];simp,qd]
  exact qsp hr x hx h30 x.2.2.1.length 0 _ (by omega) (fun i hi=>by omega) ⟨by simp,fun j hj=>by simp[List.getD_eq_getElem?_getD,hj];omega,fun j _=>by
    rw[List.getD_eq_getElem?_getD,List.getElem?_replicate]
    split<;>rfl⟩
theorem within_L2 (ns:List RNode) (h30:ns.length≤1000) (n c:Int) (h0:0≤n) (h1:n<((ns.length:Nat):Int)) (hd:Down ns (n.toNat+1)) :
    ∃d,iterW (qS ((n,c,()),()) ns) ((c,0,()),())=some ((d,()),())∧(d=c∨d=w64 (c+1)∧sibB ns n.toNat=true):=by
  have key:∀k i:Nat,i+k=n.toNat→∃d,iterW (qS ((n,c,()),()) ns) ((c,(i:Int),()),())=some ((d,()),())∧(d=c∨d=w64 (c+1)∧sibB ns n.toNat=true):=by
    intro k
    induction k with
    | zero =>
      intro i hi;refine⟨c,qh ?_,.inl rfl⟩;unfold qS;simp only[show decide ((i:Int)<n)=false by simp only[decide_eq_false_iff_not];omega,cond_false]
    | succ k ih =>
      intro i hi;obtain⟨d,q1,q2⟩:=ih (i+1) (by omega);obtain⟨d3,e1,e2,_⟩:=qcW (ns:=ns) (n:=(i:Int)) (by omega) (by omega);obtain⟨d4,e3,e4,_⟩:=qcW (ns:=ns) (n:=n) h0 h1;by_cases e:rpar ns i=rpar ns n.toNat
      · refine⟨w64 (c+1),qh ?_,.inr ⟨rfl,?_⟩⟩
        · unfold qS;simp only[show decide ((i:Int)<n)=true by simp only[decide_eq_true_eq];omega,cond_true];rw[e1,Option.bind_some,e3,Option.bind_some,e2,e4,Int.toNat_natCast,beq_t e,cond_true]
        · unfold sibB;rw[List.any_eq_true];exact⟨i,List.mem_range.2 (by omega),beq_t e⟩
      · refine⟨d,?_,q2⟩;rw[ql (y:=((c,((i+1:Nat):Int),()),()))]
        · exact q1
        · unfold qS;simp only[show decide ((i:Int)<n)=true by simp only[decide_eq_true_eq];omega,cond_true];rw[e1,Option.bind_some,e3,Option.bind_some,e2,e4,Int.toNat_natCast,beq_f e,cond_false,qg (by omega) (by omega)];rfl
  exact key n.toNat 0 (by omega)
theorem qqz (ns:List RNode) (h30:ns.length≤30) {i:Nat} (hi:i<ns.length) (ho:Ord ns (i+1)):∃n,qdi ns (i:Int)=some n∧n≤20:=by
  have hI:=qgX (f:=qaW ns) (fun s => -1≤s.1.1∧s.1.1≤(i:Int)∧0≤s.1.2.1∧2*s.1.2.1+s.1.1≤(i:Int)) (fun s=>(s.1.1+1).toNat) (fun r=>r.1.1≤20) (by
    rintro ⟨⟨n,c,⟨⟩⟩,⟨⟩⟩ ⟨h1,h2,h3,h4⟩
    simp only at h1 h2 h3 h4 ⊢;by_cases h:n<0
    · refine .inr ⟨((c,()),()),?_,by simp only;omega⟩;unfold qaW;simp only[show decide (n≥0)=false by simp only[decide_eq_false_iff_not];omega,cond_false]
    · obtain⟨d,q1,q2⟩:=within_L2 ns (by omega) n c (by omega) (by omega) (ho.down.mono (by omega));obtain⟨d7,e1,e2,_⟩:=qcW (ns:=ns) (n:=n) (by omega) (by omega);have hp:=ho.down n.toNat (by omega);have hp2:=ho.low n.toNat (by omega);have hw:w64 (c+1)=c+1:=qg (by omega) (by omega);refine .inl ⟨((rpar ns n.toNat,d,()),()),?_,?_,by simp only;omega⟩
      · unfold qaW;simp only[show decide (n≥0)=true by simp only[decide_eq_true_eq];omega,cond_true];rw[q1,Option.bind_some,Option.bind_some,e1,Option.bind_some,e2]
      · simp only;rcases q2 with rfl | ⟨rfl,hs⟩
        · omega
        · have:=qrg (i:=n.toNat) (ho.down.mono (by omega)) hs
          omega)
  obtain⟨r,q1,q2⟩:=hI (((i:Int),0,()),()) ⟨by simp only;omega,Int.le_refl _,Int.le_refl _,by simp only;omega⟩;unfold qdi;rw[q1,Option.bind_some];exact⟨_,rfl,q2⟩
theorem qnA {r:Rules} (hr:Rng qX r) (x:Rec) (hx:Rng tyRec x) (h30:x.2.2.1.length≤30) (z:Option Int):∀(k i:Nat),i+k=x.2.2.1.length→Ord x.2.2.1 i →
    Option.bind (iterW (qC x r) (((i:Int),()),())) (Sum.elim (fun _=>z) some)=if scan (fun i=>nz (nErr r x.2.2.1 i)) 0 i k=0 then z else some (scan (fun i=>nz (nErr r x.2.2.1 i)) 0 i k):=by
  intro k
  induction k with
  | zero =>
    intro i hi ho
    have:i=x.2.2.1.length:=by omega
    subst this;rw[qh (r := .inl ((),())) (by unfold qC;simp)];rfl
  | succ k ih =>
    intro i hi ho
    have hi':i<x.2.2.1.length:=by omega
    have hs:=qjQ (nErr r x.2.2.1) i k;have hf:qC x r (((i:Int),()),())=if nErr r x.2.2.1 i=0 then some (.inl ((((i+1:Nat):Int),()),())) else some (.inr (.inr (nErr r x.2.2.1 i))):=by
      obtain⟨n1,n2,n3⟩:=qbN hi';have hd:=ho.down;unfold qC;simp only[show decide ((i:Int)<((x.2.2.1.length:Nat):Int))=true by simp;omega,cond_true];rw[qbj _ _ hi',Option.bind_some];obtain⟨nd,hnd⟩:∃nd:RNode,x.2.2.1[i]=nd:=⟨_,rfl⟩;rw[hnd] at n1 n2 n3;rw[hnd];simp only[n1,n3];rw[qg (n:=(i:Int)+1) (by omega) (by omega)];unfold nErr;by_cases hc1:60<(rcom x.2.2.1 i).size
      · have:cErr (rcom x.2.2.1 i)=2:=by unfold cErr;rw[if_pos hc1]
        rw[show decide (((rcom x.2.2.1 i).size:Nat)>(60:Int))=true by simp only[decide_eq_true_eq];omega,this];rfl
      rw[show decide (((rcom x.2.2.1 i).size:Nat)>(60:Int))=false by simp only[decide_eq_false_iff_not];omega,cond_false,qgs _ _ (by omega) (by decide),Option.bind_some];cases hc2:fineT (rcom x.2.2.1 i) (ByteArray.mk #[123,125])
      · have:cErr (rcom x.2.2.1 i)=3:=by unfold cErr;rw[if_neg hc1,hc2,if_pos rfl]
        rw[this];rfl
      have hc:cErr (rcom x.2.2.1 i)=0:=by unfold cErr;rw[if_neg hc1,hc2,if_neg (by decide)]
      simp only[hc,ne_eq,not_true,if_false,Bool.not_true,cond_false]
      have hcond:∃b,gopt (((decide ((i:Int)>0))&&(decide (rpar x.2.2.1 i≥0)))&&(!((decide (rpar x.2.2.1 i < -1))||(decide (rpar x.2.2.1 i≥(i:Int)))))) false (qe1 x.2.2.1 (rpar x.2.2.1 i) (w64 ((i:Int)-1)))=some b ∧
          ((((decide (rpar x.2.2.1 i < -1))||(decide (rpar x.2.2.1 i≥(i:Int))))||(((decide ((i:Int)>0))&&(decide (rpar x.2.2.1 i≥0)))&&(!b)))||(((i:Int)==0)&&(rpar x.2.2.1 i != -1))) = !(ordB x.2.2.1 i):=by
        rw[qg (by omega) (by omega)];generalize hp:rpar x.2.2.1 i=p
        have hob:ordB x.2.2.1 i=(decide (p<(i:Int))&&(decide (0≤p∧p.toNat∈wayN x.2.2.1 ((i:Int)-1))||(p == -1))):=by unfold ordB;rw[hp]
        rw[hob];by_cases g1:p < -1
        · refine⟨false,by rw[show decide (p < -1)=true from decide_eq_true g1];simp[gopt],?_⟩;rw[show decide (p < -1)=true from decide_eq_true g1,beq_f (show ¬p = -1 by omega),decide_eq_false (show ¬(0≤p∧p.toNat∈wayN x.2.2.1 ((i:Int)-1)) by omega)];simp
        rw[show decide (p < -1)=false from decide_eq_false g1];by_cases g2:p≥(i:Int)
        · refine⟨false,by rw[show decide (p≥(i:Int))=true from decide_eq_true g2];simp[gopt],?_⟩;rw[show decide (p≥(i:Int))=true from decide_eq_true g2,decide_eq_false (show ¬p<(i:Int) by omega)];simp
        rw[show decide (p≥(i:Int))=false from decide_eq_false g2,decide_eq_true (show p<(i:Int) by omega)];by_cases g3:p = -1
        · refine⟨false,by rw[show decide (p≥0)=false from decide_eq_false (by omega)];simp[gopt],?_⟩;subst g3;simp
        have g4:0≤p:=by omega
        have g5:0<i:=by omega
        have hab:=qnv x.2.2.1 (a:=p) (n:=(i:Int)-1) g4 (by omega) (by rw[show((i:Int)-1+1).toNat=i by omega];exact hd);refine⟨_,by rw[show decide ((i:Int)>0)=true from decide_eq_true (by omega),show decide (p≥0)=true from decide_eq_true g4];exact hab,?_⟩;rw[show decide ((i:Int)>0)=true from decide_eq_true (by omega),show decide (p≥0)=true from decide_eq_true g4,beq_f (show ¬p = -1 from g3),beq_f (show ¬(i:Int)=0 by omega)];by_cases g6:p.toNat∈wayN x.2.2.1 ((i:Int)-1)
        · simp[g4,g6]
        · simp[g4,g6]
      obtain⟨b,hb1,hb2⟩:=hcond;rw[hb1,Option.bind_some,hb2];cases hob:ordB x.2.2.1 i
      · rfl
      have hor:=ho.step hob;have hd1:=hor.down;simp only[Bool.not_true,cond_false,if_neg (show ¬(true=false) by decide)]
      have hL4:=qt (List.range i) (fun k=>(rpar x.2.2.1 k==rpar x.2.2.1 i)&&(rmv x.2.2.1 k==rmv x.2.2.1 i)) (qT (((i:Int),()),()) x nd) (.inr (.inr (.inr (.inr 7)))) (.inl ((),())) (fun k hk=>by
        have hk':k<i:=by simpa using hk
        obtain⟨d,e1,e2,e3⟩:=qcW (ns:=x.2.2.1) (n:=(k:Int)) (by omega) (by omega);rw[Int.toNat_natCast] at e2 e3;unfold qT;simp only[show decide ((k:Int)<(i:Int))=true by simp;omega,cond_true,n1,n2,List.getElem_range];rw[e1,Option.bind_some,e2,qg (n:=(k:Int)+1) (by omega) (by omega)];cases e5:(rpar x.2.2.1 k==rpar x.2.2.1 i)
        · rfl
        · show Option.bind (at? x.2.2.1 (k:Int)) _=_;rw[e1,Option.bind_some];have:=qiA d.2.1 (rmv x.2.2.1 i);unfold eqMv at this;rw[this,e3]
          cases (rmv x.2.2.1 k==rmv x.2.2.1 i)<;>rfl) (by
        unfold qT;rw[List.length_range]
        simp)
      have htw:(List.range i).any (fun k=>(rpar x.2.2.1 k==rpar x.2.2.1 i)&&(rmv x.2.2.1 k==rmv x.2.2.1 i))=twinB x.2.2.1 i:=rfl;rw[hL4,htw,Option.bind_some];cases twinB x.2.2.1 i
      rotate_left
      · rfl
      simp only[cond_false,Sum.elim_inl,if_neg (show ¬(false=true) by decide)];have hwl:(wayM x.2.2.1 (i:Int)).length≤1000:=by
        unfold wayM;rw[List.length_reverse,List.length_map];have:=qdg _ (i:Int) (Nat.le_refl _) (by rw[show((i:Int)+1).toNat=i+1 by omega];exact hd1);omega
      rw[way3 x.2.2.1 (by omega) (n:=(i:Int)) (by omega) (by omega) (by rw[show((i:Int)+1).toNat=i+1 by omega];exact hd1) (fun j hj=>hor.low j (by omega)),Option.bind_some,qe3 r (wayM x.2.2.1 (i:Int)) hr (by omega),Option.bind_some,qgG];by_cases e:gErr r (wayM x.2.2.1 (i:Int))=0
      · simp only[e,bne_self_eq_false,cond_false,if_true];rfl
      · simp only[bne_t e,cond_true,if_neg e];rfl
    rw[hs];by_cases e:nErr r x.2.2.1 i=0
    · rw[if_pos e] at hf;rw[if_pos e,ql hf];exact ih (i+1) (by omega) (ho.step (qgW e))
    · rw[if_neg e] at hf;rw[if_neg e,qh hf,if_neg e];rfl
theorem qpF (x:Rec) (h30:x.2.2.1.length≤30) (ho:Ord x.2.2.1 x.2.2.1.length):iterW (qo x) ((0,()),())=some (.inl ((),())):=by
  have:=qt x.2.2.1 (fun _=>false) (qo x) (.inr 2) (.inl ((),())) (fun i hi=>by
    obtain⟨n,e1,e2⟩:=qqz x.2.2.1 h30 hi (ho.mono (by omega));unfold qo;simp only[show decide ((i:Int)<((x.2.2.1.length:Nat):Int))=true by simp;omega,cond_true];rw[e1,Option.bind_some,show decide (n>20)=false by simp only[decide_eq_false_iff_not];omega,cond_false,qg (by omega) (by omega)]
    rfl) (by unfold qo;simp)
  rw[this,show x.2.2.1.any (fun _=>false)=false from List.any_eq_false.2 (fun _ _ h=>by cases h)];rfl
theorem qm7 {r:Rules} (hr:Rng qX r) (x:Rec) (hx:Rng tyRec x) (h30:x.2.2.1.length≤30):qA r x=some (qP r x):=by
  unfold qA qP;rw[qe3 r [] hr (by simp),Option.bind_some,qgG];have hg:gErr r []=qw r:=by
    unfold gErr qhs;by_cases c:qw r=0
    · rw[if_pos c,c];rfl
    · rw[if_neg c]
  rw[hg];by_cases c:qw r=0
  rotate_left
  · rw[bne_t c,cond_true,if_pos c]
  rw[bne_f c,cond_false,if_neg (fun h=>h c)];rw[show decide (((x.2.2.1.length:Nat):Int)>200)=false by simp only[decide_eq_false_iff_not];omega,Bool.or_false];by_cases c1:10<x.1.length
  · rw[if_pos c1,show decide (((x.1.length:Nat):Int)>10)=true by simp only[decide_eq_true_eq];omega];rfl
  rw[if_neg c1,show decide (((x.1.length:Nat):Int)>10)=false by simp only[decide_eq_false_iff_not];omega,cond_false,qj6 x hx];by_cases c2:qs (tErr x.1) x.1.length=0
  rotate_left
  · rw[if_neg c2,if_pos c2]
  rw[if_pos c2,if_neg (fun h=>h c2)];by_cases c3:x.2.2.2.1<0∨3<x.2.2.2.1
  · rw[if_pos c3,show(decide (x.2.2.2.1<0)||decide (x.2.2.2.1>3))=true by simp only[Bool.or_eq_true,decide_eq_true_eq];omega];rfl
  rw[if_neg c3,show(decide (x.2.2.2.1<0)||decide (x.2.2.2.1>3))=false by simp only[Bool.or_eq_false_iff,decide_eq_false_iff_not];omega,cond_false];by_cases hc1:60<x.2.1.size
  · have:cErr x.2.1=2:=by unfold cErr;rw[if_pos hc1]
    rw[show decide (((x.2.1.size:Nat):Int)>60)=true by simp only[decide_eq_true_eq];omega,this];rfl
  rw[show decide (((x.2.1.size:Nat):Int)>60)=false by simp only[decide_eq_false_iff_not];omega,cond_false,qgs _ _ (by omega) (by decide),Option.bind_some];cases hc2:fineT x.2.1 (ByteArray.mk #[123,125])
  · have:cErr x.2.1=3:=by unfold cErr;rw[if_neg hc1,hc2,if_pos rfl]
    rw[this];rfl
  have hc:cErr x.2.1=0:=by unfold cErr;rw[if_neg hc1,hc2,if_neg (by decide)]
  simp only[hc,ne_eq,not_true,if_false,Bool.not_true,cond_false];have h3:=qnA hr x hx h30 (Option.bind (iterW (qo x) ((0,()),())) (Sum.elim (fun x28=>some 0) some)) x.2.2.1.length 0 (by omega) (fun i hi=>by omega);refine h3.trans ?_;show(if qs (nErr r x.2.2.1) x.2.2.1.length=0 then _ else some (qs (nErr r x.2.2.1) x.2.2.1.length))=some (qs (nErr r x.2.2.1) x.2.2.1.length);by_cases c5:qs (nErr r x.2.2.1) x.2.2.1.length=0
  · rw[if_pos c5,qpF x h30 (ord_of c5),c5];rfl
  · rw[if_neg c5]

def szF:Fo→Nat
  | .nil=>0
  | .cons _ _ k r=>1+(szF k+szF r)
def preF (par:Int) (i:Nat):Fo→List RNode
  | .nil=>[]
  | .cons m c k r=>(par,m,c,())::(preF (i:Int) (i+1) k++preF par (i+1+szF k) r)
theorem qu:∀(f:Fo) (par:Int) (i:Nat),(preF par i f).length=szF f
  | .nil,_,_=>rfl
  | .cons m c k r,par,i=>by simp only[preF,List.length_cons,List.length_append,qu k,qu r,szF];omega
def Seg (ns:List RNode) (i:Nat) (l:List RNode):Prop:=∃e,ns.drop i=l++e
theorem Seg.head {ns:List RNode} {i:Nat} {x:RNode} {l:List RNode} (h:Seg ns i (x::l)):ns[i]?=some x:=by
  obtain⟨e,h⟩:=h;have:=congrArg (fun l=>l[0]?) h;simpa using this
theorem Seg.tail {ns:List RNode} {i:Nat} {x:RNode} {l:List RNode} (h:Seg ns i (x::l)):Seg ns (i+1) l:=by
  obtain⟨e,h⟩:=h;refine⟨e,?_⟩;have:=congrArg (fun l=>l.drop 1) h;simpa using this
theorem Seg.left {ns:List RNode} {i:Nat} {a b:List RNode} (h:Seg ns i (a++b)):Seg ns i a:=by
  obtain⟨e,h⟩:=h;exact⟨b++e,by rw[h,List.append_assoc]⟩
theorem Seg.right {ns:List RNode} {i:Nat} {a b:List RNode} (h:Seg ns i (a++b)):Seg ns (i+a.length) b:=by
  obtain⟨e,h⟩:=h;refine⟨e,?_⟩;rw[←List.drop_drop,h,List.append_assoc,List.drop_left]
theorem Seg.parts {ns:List RNode} {par:Int} {i:Nat} {m:Mv} {c:ByteArray} {k r:Fo} (h:Seg ns i (preF par i (.cons m c k r))):ns[i]?=some (par,m,c,())∧Seg ns (i+1) (preF (i:Int) (i+1) k)∧Seg ns (i+1+szF k) (preF par (i+1+szF k) r):=by
  have h2:=h.tail;have h3:=h2.right;rw[qu] at h3;exact⟨h.head,h2.left,h3⟩
theorem qet {ns:List RNode} {i:Nat} {x:RNode} (h:ns[i]?=some x):rpar ns i=x.1∧rmv ns i=x.2.1∧rcom ns i=x.2.2.1:=by simp[rpar,rmv,rcom,h]
theorem qnT {ns:List RNode} (hd:Down ns ns.length):∀(f:Fo) (par:Int) (i:Nat) (p:List Mv),Seg ns i (preF par i f)→wayM ns par=p→(List.range (szF f)).map (fun t=>(wayM ns ((i+t:Nat):Int),rcom ns (i+t)))=wfF p f
  | .nil,par,i,p,_,_=>rfl
  | .cons m c k r,par,i,p,h,hp=>by
    obtain⟨h1,h2,h3⟩:=h.parts;obtain⟨g1,g2,g3⟩:=qet h1;simp only at g1 g2 g3;have hi:i<ns.length:=(List.getElem?_eq_some_iff.1 h1).1;have hw:wayM ns (i:Int)=p++[m]:=by
      unfold wayM;rw[qaE (by omega) (hd.mono (by omega))];simp only[Int.toNat_natCast,List.map_cons,List.reverse_cons,g2,g1];rw[←hp];rfl
    have ek:=qnT hd k (i:Int) (i+1) _ h2 hw;have er:=qnT hd r par (i+1+szF k) p h3 hp;have e1:List.range (szF (.cons m c k r))=0::((List.range (szF k)).map (fun t=>1+t)++(List.range (szF r)).map fun t=>1+(szF k+t)):=by
      rw[szF,List.range_add,List.range_add,List.map_append,List.map_map];rfl
    rw[wfF,←ek,←er,e1,List.map_cons,List.map_append,List.map_map,List.map_map,Nat.add_zero,hw,g3];congr 2
    · apply List.map_congr_left;intro t _;simp only[Function.comp];rw[show i+(1+t)=i+1+t by omega]
    · apply List.map_congr_left;intro t _;simp only[Function.comp];rw[show i+(1+(szF k+t))=i+1+szF k+t by omega]
theorem qn0 {ns:List RNode} (hd:Down ns ns.length):∀(f:Fo) (par:Int) (i:Nat),Seg ns i (preF par i f)→f ≠ .nil→∀q∈wayN ns par,q∈wayN ns ((i+szF f-1:Nat):Int)
  | .nil,par,i,_,h,_,_=>absurd rfl h
  | .cons m c k r,par,i,h,_,q,hq=>by
    obtain⟨h1,h2,h3⟩:=h.parts;obtain⟨g1,g2,g3⟩:=qet h1;simp only at g1;have hi:i<ns.length:=(List.getElem?_eq_some_iff.1 h1).1
    have hw:wayN ns (i:Int)=i::wayN ns par:=by rw[qaE (by omega) (hd.mono (by omega)),Int.toNat_natCast,g1]
    cases r with
    | cons m' c' k' r' =>
      have:=qn0 hd (.cons m' c' k' r') par (i+1+szF k) h3 (fun e=>by cases e) q hq
      rwa [show i+1+szF k+szF (.cons m' c' k' r')-1=i+szF (.cons m c k (.cons m' c' k' r'))-1 by simp only[szF];omega] at this
    | nil =>
      cases k with
      | nil =>
        rw[show i+szF (.cons m c .nil .nil)-1=i by simp[szF],hw];exact List.mem_cons_of_mem _ hq
      | cons m' c' k' r' =>
        have:=qn0 hd (.cons m' c' k' r') (i:Int) (i+1) h2 (fun e=>by cases e) q (by rw[hw];exact List.mem_cons_of_mem _ hq)
        rwa [show i+1+szF (.cons m' c' k' r')-1=i+szF (.cons m c (.cons m' c' k' r') .nil)-1 by simp only[szF];omega] at this
theorem wayN_self {ns:List RNode} {i:Nat} (hd:Down ns ns.length) (hi:i<ns.length):i∈wayN ns (i:Int):=by
  rw[qaE (by omega) (hd.mono (by omega))];simp
theorem qob {ns:List RNode}:∀(f:Fo) (par:Int) (i:Nat),Seg ns i (preF par i f)→par<(i:Int)→∀j,i≤j→j<i+szF f→rpar ns j<(j:Int)
  | .nil,_,_,_,_,j,h1,h2=>by simp only[szF] at h2;omega
  | .cons m c k r,par,i,h,hp,j,hj1,hj2=>by
    obtain⟨h1,h2,h3⟩:=h.parts;obtain⟨g1,_,_⟩:=qet h1;simp only at g1;simp only[szF] at hj2;by_cases e:j=i
    · subst e;rw[g1];exact hp
    · by_cases e2:j<i+1+szF k
      · exact qob k (i:Int) (i+1) h2 (by omega) j (by omega) e2
      · exact qob r par (i+1+szF k) h3 (by omega) j (by omega) (by omega)
theorem qq2 {ns:List RNode} (hd:Down ns ns.length):∀(f:Fo) (par:Int) (i:Nat),Seg ns i (preF par i f)→par<(i:Int)→(par = -1∨0≤par∧par.toNat∈wayN ns ((i:Int)-1))→∀j,i≤j→j<i+szF f→ordB ns j=true
  | .nil,_,_,_,_,_,j,h1,h2=>by simp only[szF] at h2;omega
  | .cons m c k r,par,i,h,hp,ho,j,hj1,hj2=>by
    obtain⟨h1,h2,h3⟩:=h.parts;obtain⟨g1,_,_⟩:=qet h1;simp only at g1;simp only[szF] at hj2;have hi:i<ns.length:=(List.getElem?_eq_some_iff.1 h1).1;by_cases e:j=i
    · subst e;unfold ordB;rw[g1];simp only[Bool.and_eq_true,decide_eq_true_eq,Bool.or_eq_true,beq_iff_eq];exact⟨hp,ho.symm⟩
    · by_cases e2:j<i+1+szF k
      · refine qq2 hd k (i:Int) (i+1) h2 (by omega) (.inr ⟨by omega,?_⟩) j (by omega) e2;rw[show((i+1:Nat):Int)-1=(i:Int) by omega,Int.toNat_natCast];exact wayN_self hd hi
      · refine qq2 hd r par (i+1+szF k) h3 (by omega) (ho.imp_right fun ⟨ha,hb⟩=>⟨ha,?_⟩) j (by omega) (by omega)
        have hpl:par.toNat∈wayN ns par:=by rw[qaE ha (hd.mono (by omega))];simp
        have hlast:=qn0 hd (.cons m c k .nil) par i (by
          have:=h;unfold preF at this ⊢;rw[preF,List.append_nil]
          exact Seg.left (b:=preF par (i+1+szF k) r) (by simpa using this)) (fun e=>by cases e) _ hpl
        rwa [show((i+szF (.cons m c k .nil)-1:Nat):Int)=((i+1+szF k:Nat):Int)-1 by simp only[szF];omega] at hlast
theorem qea (f:Fo):Down (preF (-1) 0 f) (preF (-1) 0 f).length:=fun i hi=>by
  rw[qu] at hi;exact qob f (-1) 0 ⟨[],by simp⟩ (by omega) i (by omega) (by omega)
theorem qp9 (f:Fo):Ord (preF (-1) 0 f) (preF (-1) 0 f).length:=fun i hi=>by
  have hd:=qea f;rw[qu] at hi;exact qq2 hd f (-1) 0 ⟨[],by simp⟩ (by omega) (.inl rfl) i (by omega) (by omega)
theorem qe2 (f:Fo):(List.range (szF f)).map (fun (t:Nat)=>(wayM (preF (-1) 0 f) (t:Int),rcom (preF (-1) 0 f) t))=wfF [] f:=by
  have:=qnT (qea f) f (-1) 0 [] ⟨[],by simp⟩ (by unfold wayM;rw[qbJ _ (by omega)];rfl);simpa using this

def apR (m:Mv) (c:ByteArray):Fo→Fo
  | .nil => .cons m c .nil .nil
  | .cons m' c' k r => .cons m' c' k (apR m c r)
theorem qn3 (m:Mv) (c:ByteArray):∀(f:Fo) (par:Int) (i:Nat),preF par i (apR m c f)=preF par i f++[(par,m,c,())]
  | .nil,par,i=>rfl
  | .cons m' c' k r,par,i=>by
    simp only[apR,preF,qn3 m c r,List.cons_append,List.append_assoc]
def spF (i:Nat):Fo→List Nat
  | .nil=>[]
  | .cons m c k .nil=>i::spF (i+1) k
  | .cons m c k (.cons m' c' k' r')=>spF (i+1+szF k) (.cons m' c' k' r')
def adF (q:Int) (m:Mv) (c:ByteArray) (par:Int) (i:Nat):Fo→Fo
  | .nil => .cons m c .nil .nil
  | .cons m' c' k .nil=>if q=par then apR m c (.cons m' c' k .nil) else .cons m' c' (adF q m c (i:Int) (i+1) k) .nil
  | .cons m' c' k (.cons m2 c2 k2 r2)=>if q=par then apR m c (.cons m' c' k (.cons m2 c2 k2 r2)) else .cons m' c' k (adF q m c par (i+1+szF k) (.cons m2 c2 k2 r2))
theorem qn7 (q:Int) (m:Mv) (c:ByteArray):∀(f:Fo) (par:Int) (i:Nat),(q=par∨∃t∈spF i f,q=(t:Int))→preF par i (adF q m c par i f)=preF par i f++[(q,m,c,())]
  | .nil,par,i,h=>by
    rcases h with h | ⟨t,ht,_⟩
    · subst h;rfl
    · simp[spF] at ht
  | .cons m' c' k .nil,par,i,h=>by
    unfold adF;split
    · rename_i e;subst e;exact qn3 m c _ _ _
    · rename_i e;have h':q=(i:Int)∨∃t∈spF (i+1) k,q=(t:Int):=by
        rcases h with h | ⟨t,ht,h⟩
        · exact absurd h e
        · simp only[spF,List.mem_cons] at ht;rcases ht with rfl | ht
          · exact .inl h
          · exact .inr ⟨t,ht,h⟩
      simp only[preF,qn7 q m c k (i:Int) (i+1) h',List.append_nil,List.cons_append]
  | .cons m' c' k (.cons m2 c2 k2 r2),par,i,h=>by
    unfold adF;split
    · rename_i e;subst e;exact qn3 m c _ _ _
    · rename_i e;have h':q=par∨∃t∈spF (i+1+szF k) (.cons m2 c2 k2 r2),q=(t:Int):=by
        rcases h with h | ⟨t,ht,h⟩
        · exact absurd h e
        · simp only[spF] at ht;exact .inr ⟨t,ht,h⟩
      rw[preF,qn7 q m c _ par _ h',preF.eq_2 par i m' c' k,List.cons_append,List.append_assoc]
theorem qlU {ns:List RNode} (hd:Down ns ns.length):∀(f:Fo) (par:Int) (i:Nat),Seg ns i (preF par i f)→f ≠ .nil→∀q∈wayN ns ((i+szF f-1:Nat):Int),q∈spF i f∨q∈wayN ns par
  | .nil,par,i,_,h,_,_=>absurd rfl h
  | .cons m c k .nil,par,i,h,_,q,hq=>by
    obtain⟨h1,h2,h3⟩:=h.parts;obtain⟨g1,g2,g3⟩:=qet h1;simp only at g1;have hi:i<ns.length:=(List.getElem?_eq_some_iff.1 h1).1
    have hw:wayN ns (i:Int)=i::wayN ns par:=by rw[qaE (by omega) (hd.mono (by omega)),Int.toNat_natCast,g1]
    cases k with
    | nil =>
      rw[show i+szF (.cons m c .nil .nil)-1=i by simp[szF],hw] at hq;rcases List.mem_cons.1 hq with rfl | hq
      · exact .inl (by simp[spF])
      · exact .inr hq
    | cons m' c' k' r' =>
      have:=qlU hd (.cons m' c' k' r') (i:Int) (i+1) h2 (fun e=>by cases e) q (by rwa [show i+1+szF (.cons m' c' k' r')-1=i+szF (.cons m c (.cons m' c' k' r') .nil)-1 by simp only[szF];omega]);rw[hw] at this;simp only[spF,List.mem_cons] at this ⊢;rcases this with h | h | h
      · exact .inl (.inr h)
      · exact .inl (.inl h)
      · exact .inr h
  | .cons m c k (.cons m' c' k' r'),par,i,h,_,q,hq=>by
    obtain⟨h1,h2,h3⟩:=h.parts;have:=qlU hd (.cons m' c' k' r') par (i+1+szF k) h3 (fun e=>by cases e) q (by rwa [show i+1+szF k+szF (.cons m' c' k' r')-1=i+szF (.cons m c k (.cons m' c' k' r'))-1 by simp only[szF];omega]);simpa only[spF] using this
theorem ord_pre {ns:List RNode} (ho:Ord ns ns.length):∀j,j≤ns.length→∃f,ns.take j=preF (-1) 0 f
  | 0,_=>⟨.nil,rfl⟩
  | j+1,hj=>by
    obtain⟨f,hf⟩:=ord_pre ho j (by omega);have hd:=ho.down;have hlen:szF f=j:=by
      have:=congrArg List.length hf;rw[qu,List.length_take] at this;omega
    obtain⟨⟨q,m,c,u⟩,hx⟩:∃y,ns[j]'(by omega)=y:=⟨_,rfl⟩
    have hx':ns[j]?=some (q,m,c,u):=by rw[List.getElem?_eq_getElem (by omega),hx]
    obtain⟨g1,_,_⟩:=qet hx';simp only at g1;have hb:=ho j (by omega);unfold ordB at hb;simp only[g1,Bool.and_eq_true,Bool.or_eq_true,decide_eq_true_eq,beq_iff_eq] at hb;refine⟨adF q m c (-1) 0 f,?_⟩;rw[qn7 q m c f (-1) 0 ?_,←hf,List.take_add_one,hx']
    · rfl
    rcases hb.2 with ⟨h0,hm⟩ | h
    · right;have hj0:0<j:=by
        rcases Nat.eq_zero_or_pos j with e | e
        · subst e;rw[qbJ _ (by omega)] at hm;cases hm
        · exact e
      have hs:Seg ns 0 (preF (-1) 0 f):=⟨ns.drop j,by rw[←hf,List.drop_zero,List.take_append_drop]⟩
      have hne:f ≠ .nil:=fun e=>by subst e;simp[szF] at hlen;omega
      have:=qlU hd f (-1) 0 hs hne q.toNat (by rwa [hlen,Nat.zero_add,show((j-1:Nat):Int)=(j:Int)-1 by omega]);rw[qbJ _ (by omega:(-1:Int)<0)] at this;rcases this with h | h
      · exact⟨_,h,by omega⟩
      · cases h
    · exact .inl h
theorem qr5:∀(f:Fo) (par:Int) (i:Nat) {ns:List RNode},Seg ns i (preF par i f)→∀m∈qfU f,∃t,i≤t∧t<i+szF f∧t<ns.length∧rpar ns t=par∧rmv ns t=m
  | .nil,_,_,_,_,m,h=>by cases h
  | .cons m' c k r,par,i,ns,h,m,hm=>by
    obtain⟨h1,h2,h3⟩:=h.parts;obtain⟨g1,g2,_⟩:=qet h1;simp only at g1 g2;simp only[szF];rcases List.mem_cons.1 hm with rfl | hm
    · exact⟨i,by omega,by omega,(List.getElem?_eq_some_iff.1 h1).1,g1,g2⟩
    · obtain⟨t,q1,q2,q3,q4,q5⟩:=qr5 r par _ h3 m hm;exact⟨t,by omega,by omega,q3,q4,q5⟩
theorem qqq {ns:List RNode} (ht:∀j,j<ns.length→twinB ns j=false):∀(f:Fo) (par:Int) (i:Nat),Seg ns i (preF par i f)→Dis f
  | .nil,_,_,_=>trivial
  | .cons m c k r,par,i,h=>by
    obtain⟨h1,h2,h3⟩:=h.parts;obtain⟨g1,g2,_⟩:=qet h1;simp only at g1 g2;refine⟨fun hm=>?_,qqq ht k _ _ h2,qqq ht r _ _ h3⟩;obtain⟨t,q1,q2,q3,q4,q5⟩:=qr5 r par _ h3 m hm;have:=ht t q3;unfold twinB at this;rw[List.any_eq_false] at this;exact this i (List.mem_range.2 (by omega)) (by simp[g1,g2,q4,q5])
theorem qnw {ns:List RNode} (ho:Ord ns ns.length) (ht:∀j,j<ns.length→twinB ns j=false):∃f,ns=preF (-1) 0 f∧Dis f:=by
  obtain⟨f,hf⟩:=ord_pre ho ns.length (Nat.le_refl _);rw[List.take_length] at hf;exact⟨f,hf,qqq ht f (-1) 0 ⟨[],by rw[←hf];simp⟩⟩
theorem pre_twin (f:Fo) (h:Dis f):∀j,j<szF f→twinB (preF (-1) 0 f) j=false:=fun j hj=>by
  unfold twinB;rw[List.any_eq_false];intro i hi hh;have hi:=List.mem_range.1 hi;simp only[Bool.and_eq_true,beq_iff_eq] at hh;have hd:=qea f;have hl:=qu f (-1) 0;have hw:wayM (preF (-1) 0 f) (i:Int)=wayM (preF (-1) 0 f) (j:Int):=by
    unfold wayM;rw[qaE (by omega) (hd.mono (by omega)),qaE (n:=(j:Int)) (by omega) (hd.mono (by omega))];simp only[Int.toNat_natCast,List.map_cons,hh.1,hh.2]
  have hn:=qip f [] h;unfold kyF at hn;rw[←qe2 f,List.map_map] at hn;have e1:((List.range (szF f)).map ((fun x:List Mv×ByteArray=>x.1)∘fun (t:Nat)=>(wayM (preF (-1) 0 f) (t:Int),rcom (preF (-1) 0 f) t)))=(List.range (szF f)).map fun (t:Nat)=>wayM (preF (-1) 0 f) (t:Int):=rfl;rw[e1] at hn;have:=List.pairwise_iff_getElem.1 hn i j (by simp;omega) (by simpa using hj) hi;apply this;simp[hw]

theorem eqL_of {a b:List Mv} (hl:a.length=b.length):(List.range a.length).any (fun i=>!(a.getD i (0,(0,(0,())))==b.getD i (0,(0,(0,()))))) = !(decide (a=b)):=by
  cases hany:(List.range a.length).any (fun i=>!(a.getD i (0,(0,(0,())))==b.getD i (0,(0,(0,()))))) with
  | true =>
    rw[List.any_eq_true] at hany;obtain⟨i,_,h⟩:=hany
    have:¬a=b:=fun e=>by subst e;simp at h
    simp[this]
  | false =>
    rw[List.any_eq_false] at hany;have:a=b:=by
      apply List.ext_getElem hl;intro i h1 h2;have:=hany i (List.mem_range.2 h1);simpa[List.getD_eq_getElem?_getD,h1,h2] using this
    simp[this]
theorem qfl (a b:List Mv) (ha:a.length≤1000000000):qaO a b=some (decide (a=b)):=by
  unfold qaO;by_cases hl:a.length=b.length
  · rw[bne_f (show((a.length:Nat):Int)=((b.length:Nat):Int) by omega),cond_false]
    have hL:=qt (List.range a.length) (fun i=>!(a.getD i (0,(0,(0,())))==b.getD i (0,(0,(0,()))))) (qbZ a b) (.inr false) (.inl ((),())) (fun i hi=>by
      have hi':i<a.length:=by simpa using hi
      unfold qbZ;simp only[show decide ((i:Int)<((a.length:Nat):Int))=true by simp;omega,cond_true,List.getElem_range];rw[qbj a i hi',qbj b i (by omega),Option.bind_some,Option.bind_some,qg (n:=(i:Int)+1) (by omega) (by omega)];have:=qiA a[i] (b[i]'(by omega));unfold eqMv at this;rw[this,List.getD_eq_getElem?_getD,List.getD_eq_getElem?_getD,List.getElem?_eq_getElem hi',List.getElem?_eq_getElem (show i<b.length by omega),Option.getD_some,Option.getD_some]
      cases (a[i]==b[i]'(by omega))<;>rfl) (by unfold qbZ;simp)
    rw[hL,eqL_of hl]
    cases decide (a=b)<;>rfl
  · rw[bne_t (show ¬((a.length:Nat):Int)=((b.length:Nat):Int) by omega),cond_true];have:¬a=b:=fun h=>hl (by rw[h]);simp[this]
def kidsI (ns:List RNode) (p:Int):List Int:=(List.range ns.length).flatMap fun (k:Nat)=>bif rpar ns k==p then [(k:Int)] else []
theorem qeZ (x:Rec) (p:Int) (h30:x.2.2.1.length≤1000):qgR x p=some (kidsI x.2.2.1 p):=by
  unfold qgR kidsI
  have:=qfe x.2.2.1.length 1 (qda x p) (fun k=>bif rpar x.2.2.1 k==p then [(k:Int)] else []) (fun a=>((a,()),())) [] (fun k _=>by
    cases (rpar x.2.2.1 k==p)
    · exact Nat.zero_le _
    · exact Nat.le_refl _) (fun i hi a ha=>by
    simp only[List.length_nil] at ha;unfold qda;simp only[show decide ((i:Int)<((x.2.2.1.length:Nat):Int))=true by simp;omega,cond_true];rw[qbj _ _ hi,Option.bind_some,(qbN hi).1,qg (n:=(i:Int)+1) (by omega) (by omega)];cases (rpar x.2.2.1 i==p)
    · simp only[cond_false,Option.bind_some,List.append_nil]
    · simp only[cond_true];rw[qR (by simp only[List.length_cons,List.length_nil];omega),qd]
      rfl) (fun a=>by unfold qda;simp)
  rw[this];rfl

abbrev Bn:=Mv×ByteArray×List Nat×Unit
abbrev ArB:=List (Bn×Option (List Nat))
abbrev dBn:Bn:=(((0:Int),((0:Int),((0:Int),()))),(ByteArray.empty,([],())))
theorem qkP (ns:ArB) (v:Bn):(addP ns v).length=ns.length+1:=by simp[addP]
theorem qfb (ns:ArB) (x:Nat) (v:Bn):(setP ns dBn x v).length=ns.length:=by simp[setP]
theorem qlx (ns:ArB) (v:Bn) {x:Nat} (h0:0<x) (h:x≤ns.length):ndP (addP ns v) dBn x=ndP ns dBn x:=by
  unfold ndP addP getD';rw[List.getD_eq_getElem?_getD,List.getD_eq_getElem?_getD,List.getElem?_append_left (by omega)]
theorem qqh (ns:ArB) (v:Bn):ndP (addP ns v) dBn (ns.length+1)=v:=by
  unfold ndP addP getD';simp
theorem qgM (ns:ArB) (v:Bn) {x:Nat} (h0:0<x) (h:x≤ns.length):ndP (setP ns dBn x v) dBn x=v:=by
  unfold ndP setP getD';rw[List.getD_eq_getElem?_getD,List.getElem?_set_self (by omega)];rfl
theorem qci (ns:ArB) (v:Bn) {x y:Nat} (h0:0<x) (hy:0<y) (h:x≠y):ndP (setP ns dBn x v) dBn y=ndP ns dBn y:=by
  unfold ndP setP getD';rw[List.getD_eq_getElem?_getD,List.getElem?_set_ne (by omega),List.getD_eq_getElem?_getD]
def IsF (ns:ArB) (P:Nat→Prop):Fo→List Nat→Prop
  | .nil,xs=>xs=[]
  | .cons m c k r,xs=>∃x xs' ks,xs=x::xs'∧0<x∧P x∧ndP ns dBn x=(m,(c,(ks,())))∧IsF ns P k ks∧IsF ns P r xs'
theorem IsF.mono {ns ns':ArB} {P Q:Nat→Prop} (hP:∀x,0<x→P x→Q x) (hn:∀x,0<x→P x→ndP ns' dBn x=ndP ns dBn x):∀ {f:Fo} {xs:List Nat},IsF ns P f xs→IsF ns' Q f xs
  | .nil,_,h=>h
  | .cons m c k r,xs,⟨x,xs',ks,e,h0,hp,h1,h2,h3⟩=>⟨x,xs',ks,e,h0,hP x h0 hp,(hn x h0 hp).trans h1,IsF.mono hP hn h2,IsF.mono hP hn h3⟩
def rlenF:Fo→Nat
  | .nil=>0
  | .cons _ _ _ r=>rlenF r+1
theorem IsF.len {ns:ArB} {P:Nat→Prop}:∀ {f:Fo} {xs:List Nat},IsF ns P f xs→xs.length=rlenF f
  | .nil,_,h=>by rw[show _=[] from h];rfl
  | .cons m c k r,xs,⟨x,xs',ks,e,_,_,_,_,h3⟩=>by rw[e,List.length_cons,IsF.len h3];rfl
theorem qju:∀f:Fo,rlenF f≤szF f
  | .nil=>Nat.le_refl _
  | .cons m c k r=>by have:=qju r;simp only[rlenF,szF];omega
def qkp (i:Nat):Fo→List Int
  | .nil=>[]
  | .cons _ _ k r=>(i:Int)::qkp (i+1+szF k) r
theorem qnE {ns:List RNode}:∀(f:Fo) (par:Int) (i:Nat),Seg ns i (preF par i f)→∀j,i≤j→j<i+szF f→rpar ns j=par∨(i:Int)≤rpar ns j
  | .nil,_,_,_,j,h1,h2=>by simp only[szF] at h2;omega
  | .cons m c k r,par,i,h,j,hj1,hj2=>by
    obtain⟨h1,h2,h3⟩:=h.parts;obtain⟨g1,_,_⟩:=qet h1;simp only at g1;simp only[szF] at hj2;by_cases e:j=i
    · subst e;exact .inl g1
    · by_cases e2:j<i+1+szF k
      · rcases qnE k (i:Int) (i+1) h2 j (by omega) e2 with h | h
        · exact .inr (by omega)
        · exact .inr (by omega)
      · rcases qnE r par (i+1+szF k) h3 j (by omega) (by omega) with h | h
        · exact .inl h
        · exact .inr (by omega)
theorem kids_in {ns:List RNode}:∀(f:Fo) (par:Int) (i:Nat),Seg ns i (preF par i f)→par<(i:Int)→((List.range (szF f)).flatMap fun (t:Nat)=>bif rpar ns (i+t)==par then [((i+t:Nat):Int)] else [])=qkp i f
  | .nil,_,_,_,_=>rfl
  | .cons m c k r,par,i,h,hp=>by
    obtain⟨h1,h2,h3⟩:=h.parts;obtain⟨g1,_,_⟩:=qet h1;simp only at g1;have er:=kids_in r par (i+1+szF k) h3 (by omega);have ek:((List.range (szF k)).flatMap fun (t:Nat)=>bif rpar ns (i+(1+t))==par then [((i+(1+t):Nat):Int)] else [])=[]:=by
      rw[List.flatMap_eq_nil_iff];intro t ht;have ht:=List.mem_range.1 ht;have:=qnE k (i:Int) (i+1) h2 (i+(1+t)) (by omega) (by omega)
      rw[show(rpar ns (i+(1+t))==par)=false by rw[beq_eq_false_iff_ne];rcases this with h | h<;>omega]
      rfl
    have e1:List.range (szF (.cons m c k r))=0::((List.range (szF k)).map (fun t=>1+t)++(List.range (szF r)).map fun t=>1+(szF k+t)):=by
      rw[szF,List.range_add,List.range_add,List.map_append,List.map_map];rfl
    rw[e1,List.flatMap_cons,List.flatMap_append,List.flatMap_map,List.flatMap_map,ek,qkp,←er];simp only[Nat.add_zero,g1,beq_self_eq_true,cond_true,List.nil_append,List.cons_append];congr 1;rw[List.flatMap_def,List.flatMap_def];congr 1;apply List.map_congr_left;intro t _;rw[show i+(1+(szF k+t))=i+1+szF k+t by omega]
def Clo (ns:List RNode) (i:Nat) (f:Fo):Prop:=∀j,i+szF f≤j→j<ns.length→rpar ns j<(i:Int)∨((i+szF f:Nat):Int)≤rpar ns j
def Full (ns:List RNode) (par:Int) (i:Nat) (f:Fo):Prop:=Seg ns i (preF par i f)∧par<(i:Int)∧i+szF f≤ns.length∧∀j,j<ns.length→rpar ns j=par→i≤j∧j<i+szF f
theorem Full.kids {ns:List RNode} {par:Int} {i:Nat} {f:Fo} (h:Full ns par i f):kidsI ns par=qkp i f:=by
  obtain⟨h1,h2,h3,h4⟩:=h;rw[←kids_in f par i h1 h2];unfold kidsI;have e1:List.range ns.length=List.range i++((List.range (szF f)).map (fun t=>i+t)++(List.range (ns.length-(i+szF f))).map fun t=>i+szF f+t):=by
    rw[show ns.length=i+szF f+(ns.length-(i+szF f)) by omega,List.range_add,List.range_add,List.append_assoc];congr 3;congr 1;omega
  rw[e1,List.flatMap_append,List.flatMap_append,List.flatMap_map,List.flatMap_map]
  rw[show((List.range i).flatMap fun (k:Nat)=>bif rpar ns k==par then [(k:Int)] else [])=[] by
    rw[List.flatMap_eq_nil_iff];intro t ht;have ht:=List.mem_range.1 ht;rw[show(rpar ns t==par)=false by rw[beq_eq_false_iff_ne];intro e;have:=(h4 t (by omega) e).1;omega]
    rfl]
  rw[show((List.range (ns.length-(i+szF f))).flatMap fun (t:Nat)=>bif rpar ns (i+szF f+t)==par then [((i+szF f+t:Nat):Int)] else [])=[] by
    rw[List.flatMap_eq_nil_iff];intro t ht;have ht:=List.mem_range.1 ht;rw[show(rpar ns (i+szF f+t)==par)=false by rw[beq_eq_false_iff_ne];intro e;have:=(h4 _ (by omega) e).2;omega]
    rfl]
  rw[List.nil_append,List.append_nil]
theorem Full.sub {ns:List RNode} (hd:Down ns ns.length) {par:Int} {i:Nat} {m:Mv} {c:ByteArray} {k r:Fo} (h:Seg ns i (preF par i (.cons m c k r))) (hp:par<(i:Int)) (hl:i+szF (.cons m c k r)≤ns.length) (hc:Clo ns i (.cons m c k r)) :
    Full ns (i:Int) (i+1) k∧Clo ns (i+1) k∧Clo ns (i+1+szF k) r:=by
  obtain⟨h1,h2,h3⟩:=h.parts;simp only[szF] at hl;have out:∀j,i+1+szF k≤j→j<ns.length→rpar ns j<(i:Int)∨((i+1+szF k:Nat):Int)≤rpar ns j:=fun j hj1 hj2=>by
    by_cases e:j<i+1+szF k+szF r
    · rcases qnE r par (i+1+szF k) h3 j hj1 e with h | h
      · exact .inl (by omega)
      · exact .inr h
    · rcases hc j (by simp only[szF];omega) hj2 with h | h
      · exact .inl h
      · refine .inr ?_;simp only[szF] at h;omega
  refine⟨⟨h2,by omega,by omega,fun j hj hr=>?_⟩,fun j hj1 hj2=>?_,fun j hj1 hj2=>?_⟩
  · have hdj:=hd j hj;refine⟨by omega,Nat.lt_of_not_le fun hge=>?_⟩
    rcases out j hge hj with h | h<;>omega
  · rcases out j hj1 hj2 with h | h<;>omega
  · rcases hc j (by simp only[szF];omega) hj2 with h | h
    · exact .inl (by omega)
    · refine .inr ?_;simp only[szF] at h;omega
theorem qg3 (self self':((List Nat)×Unit×(List ((Zv48×ByteArray×(List Nat)×Unit)×(Option (List Nat))))×Zv11×Int×Unit)→Option ((List Nat)×(List ((Zv48×ByteArray×(List Nat)×Unit)×(Option (List Nat))))×(List Nat))) (hself:∀x,Le (self x) (self' x)) (r2:List Int) (x:Zv38×ByteArray×Zv24×Int×Unit) (x3:((List Nat)×Int×Unit)×((List Nat)×(List ((Zv48×ByteArray×(List Nat)×Unit)×(Option (List Nat))))×Unit)):Le (qW r2 x self x3) (qW r2 x self' x3):=by
  unfold qW
  repeat (first | exact Le.refl _ | assumption | apply hself | apply Le.cond | apply Le.req | apply Le.gopt | apply Le.map | apply Le.agreeW | refine Le.iterW (fun _=>?_) _ | refine Le.bind ?_ (Le.elim (fun _=>?_) (fun _=>?_)) | refine Le.bind ?_ (fun _=>?_))
theorem qjl:Mono qQ:=by
  intro self self' hself x
  unfold qQ qcu
  repeat (first | exact Le.refl _ | assumption | apply qg3 | apply hself | apply Le.cond | apply Le.req | apply Le.gopt | apply Le.map | apply Le.agreeW | refine Le.iterW (fun _=>?_) _ | refine Le.bind ?_ (Le.elim (fun _=>?_) (fun _=>?_)) | refine Le.bind ?_ (fun _=>?_))
theorem qgB (self self':(Unit×Unit×(List ((Zv48×ByteArray×(List Nat)×Unit)×(Option (List Nat))))×(List Nat)×(List Nat)×Unit)→Option (Unit×(List ((Zv48×ByteArray×(List Nat)×Unit)×(Option (List Nat))))×(List Nat))) (hself:∀x,Le (self x) (self' x)) (b:List Nat) (x2:((List Nat)×Int×Unit)×((List ((Zv48×ByteArray×(List Nat)×Unit)×(Option (List Nat))))×Unit)):Le (qF b self x2) (qF b self' x2):=by
  unfold qF
  repeat (first | exact Le.refl _ | assumption | apply hself | apply Le.cond | apply Le.req | apply Le.gopt | apply Le.map | apply Le.agreeW | refine Le.iterW (fun _=>?_) _ | refine Le.bind ?_ (Le.elim (fun _=>?_) (fun _=>?_)) | refine Le.bind ?_ (fun _=>?_))
theorem qiz:Mono qJ:=by
  intro self self' hself x
  unfold qJ qbY
  repeat (first | exact Le.refl _ | assumption | apply qgB | apply hself | apply Le.cond | apply Le.req | apply Le.gopt | apply Le.map | apply Le.agreeW | refine Le.iterW (fun _=>?_) _ | refine Le.bind ?_ (Le.elim (fun _=>?_) (fun _=>?_)) | refine Le.bind ?_ (fun _=>?_))
theorem qfV (self self':(Zv24×Unit×(List ((Zv48×ByteArray×(List Nat)×Unit)×(Option (List Nat))))×(List Nat)×Int×Unit)→Option (Zv24×(List ((Zv48×ByteArray×(List Nat)×Unit)×(Option (List Nat))))×Unit)) (hself:∀x,Le (self x) (self' x)) (l:List Nat) (parent:Int) (x1:Zv54×(Zv19×(List ((Zv48×ByteArray×(List Nat)×Unit)×(Option (List Nat))))×Unit)):Le (qM l parent self x1) (qM l parent self' x1):=by
  unfold qM
  repeat (first | exact Le.refl _ | assumption | apply hself | apply Le.cond | apply Le.req | apply Le.gopt | apply Le.map | apply Le.agreeW | refine Le.iterW (fun _=>?_) _ | refine Le.bind ?_ (Le.elim (fun _=>?_) (fun _=>?_)) | refine Le.bind ?_ (fun _=>?_))
theorem qi2:Mono qK:=by
  intro self self' hself x
  unfold qK qb8
  repeat (first | exact Le.refl _ | assumption | apply qfV | apply hself | apply Le.cond | apply Le.req | apply Le.gopt | apply Le.map | apply Le.agreeW | refine Le.iterW (fun _=>?_) _ | refine Le.bind ?_ (Le.elim (fun _=>?_) (fun _=>?_)) | refine Le.bind ?_ (fun _=>?_))

theorem fix_of {T α:Type} {G:(T→Option α)→T→Option α} (hG:Mono G) {n:Nat} {x:T} {r:α} (h:fixN G n x=some r):fixW G x=some r :=
  Le.fix (fun φ ψ hs y=>hG φ ψ hs y) hG n x _ h
def TreeOK (x:Rec) (φ:(List Nat×Unit×ArB×Rec×Int×Unit)→Option (List Nat×ArB×List Nat)) (N:Nat):Prop:=∀(f:Fo) (par:Int) (i:Nat) (w:List Nat) (ns:ArB),szF f<N→Full x.2.2.1 par i f→Clo x.2.2.1 i f→w.length=x.2.2.1.length→ns.length+szF f≤1000 →
  ∃w' ns' xs,φ (w,(),ns,x,par,())=some (w',ns',xs)∧w'.length=w.length∧ns'.length=ns.length+szF f∧(∀y,0<y→y≤ns.length→ndP ns' dBn y=ndP ns dBn y)∧IsF ns' (fun y=>ns.length<y∧y≤ns'.length) f xs
theorem qp1 (x:Rec) (hx:x.2.2.1.length≤1000) (hd:Down x.2.2.1 x.2.2.1.length) (self:(List Nat×Unit×ArB×Rec×Int×Unit)→Option (List Nat×ArB×List Nat)) (N:Nat) (hs:TreeOK x self N) (par:Int) (r2:List Int) :
    ∀(f:Fo) (i:Nat) (pre:List Int) (out w:List Nat) (ns:ArB),szF f≤N→r2=pre++qkp i f→Seg x.2.2.1 i (preF par i f)→par<(i:Int)→i+szF f≤x.2.2.1.length→Clo x.2.2.1 i f→w.length=x.2.2.1.length→ns.length+szF f≤1000→pre.length+szF f≤1000→out.length+szF f≤1000 →
    ∃w' ns' xs,iterW (qW r2 x self) ((out,((pre.length:Nat):Int),()),(w,ns,()))=some ((out++xs,()),(w',ns',()))∧w'.length=w.length∧ns'.length=ns.length+szF f∧(∀y,0<y→y≤ns.length→ndP ns' dBn y=ndP ns dBn y)∧IsF ns' (fun y=>ns.length<y∧y≤ns'.length) f xs
  | .nil,i,pre,out,w,ns,_,hr,_,_,_,_,_,_,_,_=>by
    refine⟨w,ns,[],qh ?_,rfl,by simp[szF],fun _ _ _=>rfl,rfl⟩;unfold qW;simp only[hr,qkp,List.append_nil,show decide (((pre.length:Nat):Int)<((pre.length:Nat):Int))=false by simp,cond_false]
  | .cons m c k r,i,pre,out,w,ns,hN,hr,hseg,hp,hl,hc,hw,hns,hpre,hout=>by
    obtain⟨h1,h2,h3⟩:=hseg.parts;obtain⟨hfull,hck,hcr⟩:=Full.sub hd hseg hp hl hc;simp only[szF] at hN hl hns hpre hout
    have hi:i<x.2.2.1.length:=by omega
    have hat:at? x.2.2.1 (i:Int)=some (par,m,c,()):=by rw[qbj _ _ hi];rw[List.getElem?_eq_getElem hi] at h1;exact h1
    have hg:getD' r2 ((((pre.length:Nat):Int)).toNat) (0:Int)=(i:Int):=by
      rw[hr,Int.toNat_natCast];unfold getD';rw[List.getD_eq_getElem?_getD,List.getElem?_append_right (Nat.le_refl _),Nat.sub_self];rfl
    have hrl:pre.length<r2.length:=by rw[hr,List.length_append];simp[qkp]
    obtain⟨w1,ns1,xs1,e1,e2,e3,e4,e5⟩:=hs k (i:Int) (i+1) (w.set i (ns.length+1)) (addP ns (m,(c,([],())))) (by omega) hfull hck (by rw[List.length_set];exact hw) (by rw[qkP];omega);rw[qkP] at e3 e4 e5
    have hn1:ndP ns1 dBn (ns.length+1)=(m,(c,([],()))):=by rw[e4 _ (by omega) (Nat.le_refl _),qqh]
    have hstep:qW r2 x self ((out,((pre.length:Nat):Int),()),(w,ns,()))=some (.inl ((out++[ns.length+1],(((pre++[(i:Int)]).length:Nat):Int),()),(w1,setP ns1 dBn (ns.length+1) (m,(c,(xs1,()))),()))):=by
      unfold qW;simp only[show decide (((pre.length:Nat):Int)<((r2.length:Nat):Int))=true by simp;exact hrl,cond_true,hg,hat,Option.bind_some,show inb ((pre.length:Nat):Int) r2.length=true from inb_iff.2 ⟨by omega,by omega⟩,qd];rw[show inb (i:Int) w.length=true from inb_iff.2 ⟨by omega,by omega⟩,qd];simp only[Option.bind_some,Int.toNat_natCast,e1];rw[show Nat.blt 0 (ns.length+1)=true by simp[Nat.blt_eq],qd,hn1];simp only[Option.bind_some];rw[qR (by simp only[List.length_singleton];omega),qd,qg (n:=((pre.length:Nat):Int)+1) (by omega) (by omega)];simp only[List.length_append,List.length_singleton];rfl
    obtain⟨w2,ns2,xs2,g1,g2,g3,g4,g5⟩:=qp1 x hx hd self N hs par r2 r (i+1+szF k) (pre++[(i:Int)]) (out++[ns.length+1]) w1 (setP ns1 dBn (ns.length+1) (m,(c,(xs1,())))) (by omega) (by rw[hr,qkp,List.append_assoc];rfl) h3 (by omega) (by omega) hcr (by rw[e2,List.length_set];exact hw) (by rw[qfb,e3];omega) (by rw[List.length_append,List.length_singleton];omega) (by rw[List.length_append,List.length_singleton];omega);rw[qfb,e3] at g3 g4 g5;refine⟨w2,ns2,(ns.length+1)::xs2,?_,by rw[g2,e2,List.length_set],by rw[g3];simp only[szF];omega,fun y hy1 hy2=>?_,_,xs2,xs1,rfl,by omega,⟨by omega,by rw[g3];omega⟩,?_,?_,?_⟩
    · rw[ql hstep,g1,List.append_assoc];rfl
    · rw[g4 y hy1 (by omega),qci _ _ (by omega) hy1 (by omega),e4 y hy1 (by omega),qlx _ _ hy1 hy2]
    · rw[g4 _ (by omega) (by omega),qgM _ _ (by omega) (by rw[e3];omega)]
    · refine e5.mono (fun y hy h=>⟨by omega,by rw[g3];omega⟩) (fun y hy h=>?_);rw[g4 y hy (by omega),qci _ _ (by omega) hy (by omega)]
    · exact g5.mono (fun y hy h=>⟨by omega,h.2⟩) (fun _ _ _=>rfl)
theorem qrK (x:Rec) (hx:x.2.2.1.length≤1000) (hd:Down x.2.2.1 x.2.2.1.length):∀N,TreeOK x (fixN qQ N) N
  | 0=>fun f par i w ns h=>absurd h (Nat.not_lt_zero _)
  | N+1=>fun f par i w ns hN hf hc hw hns=>by
    obtain⟨h1,h2,h3,h4⟩:=hf;obtain⟨w',ns',xs,e1,e2,e3,e4,e5⟩:=qp1 x hx hd (fixN qQ N) N (qrK x hx hd N) par (kidsI x.2.2.1 par) f i [] [] w ns (by omega) (by rw[Full.kids ⟨h1,h2,h3,h4⟩];rfl) h1 h2 h3 hc hw hns (by simp;omega) (by simp;omega);refine⟨w',ns',xs,?_,e2,e3,e4,e5⟩;show qcu (fixN qQ N) w ns x par=_;unfold qcu;rw[qeZ x par hx,Option.bind_some];have e1:iterW (qW (kidsI x.2.2.1 par) x (fixN qQ N)) (([],0,()),(w,ns,()))=_:=e1;rw[e1];simp only[Option.bind_some,List.nil_append]
theorem qo3 (x:Rec) (f:Fo) (hf:x.2.2.1=preF (-1) 0 f) (w:List Nat) (ns:ArB) (hw:w.length=szF f) (hs:ns.length+szF f≤1000) :
    ∃w' ns' xs,qcG w ns x (-1)=some (w',ns',xs)∧ns'.length=ns.length+szF f∧(∀y,0<y→y≤ns.length→ndP ns' dBn y=ndP ns dBn y)∧IsF ns' (fun y=>ns.length<y∧y≤ns'.length) f xs:=by
  have hlen:x.2.2.1.length=szF f:=by rw[hf,qu]
  have hd:Down x.2.2.1 x.2.2.1.length:=by rw[hf];exact qea f
  have hfull:Full x.2.2.1 (-1) 0 f:=⟨⟨[],by rw[hf];simp⟩,by omega,by omega,fun j hj _=>⟨by omega,by omega⟩⟩;obtain⟨w',ns',xs,e1,_,e3,e4,e5⟩:=qrK x (by omega) hd (szF f+1) f (-1) 0 w ns (Nat.lt_succ_self _) hfull (fun j h1 h2=>by omega) (by omega) hs;exact⟨w',ns',xs,fix_of qjl e1,e3,e4,e5⟩

def FlatOK (φ:(List RNode×Unit×ArB×List Nat×Int×Unit)→Option (List RNode×ArB×Unit)) (N:Nat):Prop:=∀(f:Fo) (P:Nat→Prop) (v:List RNode) (ns:ArB) (xs:List Nat) (par:Int),szF f<N→IsF ns P f xs→v.length+szF f≤1000 →
  φ (v,(),ns,xs,par,())=some (v++preF par v.length f,ns,())
theorem qo6 (self:(List RNode×Unit×ArB×List Nat×Int×Unit)→Option (List RNode×ArB×Unit)) (N:Nat) (hs:FlatOK self N) (P:Nat→Prop) (ns:ArB) (par:Int) (l:List Nat) (hl:l.length≤1000) :
    ∀(f:Fo) (pre xs:List Nat) (v:List RNode),szF f≤N→l=pre++xs→IsF ns P f xs→v.length+szF f≤1000→iterW (qM l par self) ((((pre.length:Nat):Int),()),((v,()),ns,()))=some ((),((v++preF par v.length f,()),ns,()))
  | .nil,pre,xs,v,_,hr,h,_=>by
    have h:xs=[]:=h;subst h;refine qh ?_;unfold qM;simp only[hr,List.append_nil,show decide (((pre.length:Nat):Int)<((pre.length:Nat):Int))=false by simp,cond_false,preF]
  | .cons m c k r,pre,xs,v,hN,hr,⟨x,xs',ks,e,h0,hp,h1,h2,h3⟩,hv=>by
    subst e;simp only[szF] at hN hv
    have hpl:pre.length<l.length:=by rw[hr];simp
    have hat:at? l ((pre.length:Nat):Int)=some x:=by
      rw[qbj _ _ hpl];simp only[hr];rw[List.getElem_append_right (Nat.le_refl _)];simp
    have hk:=hs k P (v++[(par,m,c,())]) ns ks ((v.length:Nat):Int) (by omega) h2 (by rw[List.length_append,List.length_singleton];omega);rw[List.length_append,List.length_singleton] at hk;have hstep:qM l par self ((((pre.length:Nat):Int),()),((v,()),ns,()))=some (.inl (((((pre++[x]).length:Nat):Int),()),((v++[(par,m,c,())]++preF ((v.length:Nat):Int) (v.length+1) k,()),ns,()))):=by
      unfold qM;simp only[show decide (((pre.length:Nat):Int)<((l.length:Nat):Int))=true by simp;exact hpl,cond_true,hat,Option.bind_some,show Nat.blt 0 x=true by simpa[Nat.blt_eq] using h0,qd,h1];rw[qR (by simp only[List.length_singleton];omega),qd];have hk':self (v++[(par,(m.1,(m.2.1,(m.2.2.1,()))),c,())],(),ns,ks,((v.length:Nat):Int),())=_:=hk;rw[hk'];simp only[Option.bind_some];rw[qg (n:=((pre.length:Nat):Int)+1) (by omega) (by omega)];simp only[List.length_append,List.length_singleton];rfl
    rw[ql hstep];have:=qo6 self N hs P ns par l hl r (pre++[x]) xs' (v++[(par,m,c,())]++preF ((v.length:Nat):Int) (v.length+1) k) (by omega) (by rw[hr,List.append_assoc];rfl) h3 (by simp only[List.length_append,List.length_singleton,qu];omega);rw[this];simp only[preF,List.append_assoc,List.length_append,List.length_singleton,qu,List.cons_append,List.nil_append];simp only[List.length_cons,qu];rw[show v.length+(szF k+1)=v.length+1+szF k by omega]
theorem qrt:∀N,FlatOK (fixN qK N) N
  | 0=>fun f P v ns xs par h=>absurd h (Nat.not_lt_zero _)
  | N+1=>fun f P v ns xs par hN hf hv=>by
    show qb8 (fixN qK N) v ns xs par=_;unfold qb8;have:=qo6 (fixN qK N) N (qrt N) P ns par xs (by have:=hf.len;have:=qju f;omega) f [] xs v (by omega) rfl hf hv;have this:iterW (qM xs par (fixN qK N)) ((0,()),((v,()),ns,()))=_:=this;rw[this];rfl
theorem flat_spec (f:Fo) (P:Nat→Prop) (ns:ArB) (xs:List Nat) (hf:IsF ns P f xs) (hs:szF f≤1000):qa ns xs=some ((),ns,preF (-1) 0 f):=by
  unfold qa qfq;rw[fix_of qi2 (qrt (szF f+1) f P [] ns xs (-1) (Nat.lt_succ_self _) hf (by simpa using hs))];rfl
def idxF (m:Mv):Fo→Option Nat
  | .nil=>none
  | .cons m' _ _ r=>if m'=m then some 0 else(idxF m r).map (· + 1)
theorem qsa {ns ns':ArB} {P Q:Nat→Prop} {m:Mv} {c:ByteArray} {k:Fo} {g:Fo→Fo} {y:Nat} {ks:List Nat} (hP:∀x,0<x→P x→Q x) (hn:∀x,0<x→P x→ndP ns' dBn x=ndP ns dBn x)
    (h0:0<y) (hq:Q y) (hy:ndP ns' dBn y=(m,(c,(ks,())))) (hk:IsF ns' Q k ks):∀ {o:Fo} {xs:List Nat},IsF ns P o xs→idxF m o=none→IsF ns' Q (insF g m c k o) (xs++[y])
  | .nil,xs,h,_=>by
    rw[show xs=[] from h];exact⟨y,[],ks,rfl,h0,hq,hy,hk,rfl⟩
  | .cons m' c' k' r,xs,⟨x,xs',ks',e,q0,qp,q1,q2,q3⟩,hi=>by
    simp only[idxF] at hi;split at hi
    · cases hi
    · rename_i e2;rw[insF,if_neg e2];have hi':idxF m r=none:=by
        cases h:idxF m r with
        | none=>rfl
        | some j=>rw[h] at hi;cases hi
      subst e;exact⟨x,xs'++[y],ks',rfl,q0,hP x q0 qp,(hn x q0 qp).trans q1,q2.mono hP hn,qsa hP hn h0 hq hy hk q3 hi'⟩
theorem qrO {ns:ArB} {P:Nat→Prop} {m:Mv}:∀ {o:Fo} {xs:List Nat} {j:Nat},IsF ns P o xs→idxF m o=some j→∃x c' k' ks',j<xs.length∧xs[j]?=some x∧0<x∧P x∧ndP ns dBn x=(m,(c',(ks',())))∧IsF ns P k' ks'∧szF k'<szF o ∧
    ∀ {ns':ArB} {Q:Nat→Prop} {c:ByteArray} {k:Fo} {g:Fo→Fo} {y:Nat} {zs:List Nat},(∀x,0<x→P x→Q x)→(∀x,0<x→P x→ndP ns' dBn x=ndP ns dBn x)→0<y→Q y→ndP ns' dBn y=(m,(if c'.toList=[] then c else c',(zs,())))→IsF ns' Q (g k') zs→IsF ns' Q (insF g m c k o) (xs.set j y)
  | .nil,xs,j,_,h=>by cases h
  | .cons m' c' k' r,xs,j,⟨x,xs',ks',e,q0,qp,q1,q2,q3⟩,hi=>by
    subst e;simp only[idxF] at hi;split at hi
    · rename_i e;subst e;cases hi;refine⟨x,c',k',ks',by simp,rfl,q0,qp,q1,q2,by simp only[szF];omega,fun {ns' Q c k g y zs} hP hn h0 hq hy hk=>?_⟩;rw[insF,if_pos rfl];exact⟨y,xs',zs,rfl,h0,hq,hy,hk,q3.mono hP hn⟩
    · rename_i e;obtain⟨j',hj,rfl⟩:=Option.map_eq_some_iff.1 hi;obtain⟨x2,c2,k2,ks2,a1,a2,a3,a4,a5,a6,a7,a8⟩:=qrO q3 hj;refine⟨x2,c2,k2,ks2,by simp;exact a1,by simpa using a2,a3,a4,a5,a6,by simp only[szF];omega,fun {ns' Q c k g y zs} hP hn h0 hq hy hk=>?_⟩;rw[insF,if_neg e];exact⟨x,xs'.set j' y,ks',rfl,q0,hP x q0 qp,(hn x q0 qp).trans q1,q2.mono hP hn,a8 hP hn h0 hq hy hk⟩
theorem eqMv4 (a b:Mv):((a.1==b.1)&&((a.2.1==b.2.1)&&((a.2.2.1==b.2.2.1)&&true)))=decide (a=b):=by
  obtain⟨a1,a2,a3,a4⟩:=a;obtain⟨b1,b2,b3,b4⟩:=b;rw[Bool.eq_iff_iff];simp
theorem qmR (xs:List Nat) (ns:ArB) (t:Int) (u:Unit) (d3:Nat) (hd:0<d3) (P:Nat→Prop) (hx:xs.length≤1000):∀(o:Fo) (pre ys:List Nat),xs=pre++ys→IsF ns P o ys →
    iterW (qaw ((xs,t,()),(ns,u)) d3) ((((pre.length:Nat):Int),()),())=some (match idxF (ndP ns dBn d3).1 o with | none => .inl ((),()) | some j => .inr ((((pre.length+j:Nat):Int),()),()))
  | .nil,pre,ys,hr,h=>by
    have h:ys=[]:=h;subst h;refine qh ?_;unfold qaw;simp only[hr,List.append_nil,show decide (((pre.length:Nat):Int)<((pre.length:Nat):Int))=false by simp,cond_false,idxF]
  | .cons m c k r,pre,ys,hr,⟨x,ys',ks,e,h0,hp,h1,h2,h3⟩=>by
    subst e
    have hpl:pre.length<xs.length:=by rw[hr];simp
    have hg:getD' xs ((((pre.length:Nat):Int)).toNat) (0:Nat)=x:=by
      rw[hr,Int.toNat_natCast];unfold getD';rw[List.getD_eq_getElem?_getD,List.getElem?_append_right (Nat.le_refl _),Nat.sub_self];rfl
    have hstep:qaw ((xs,t,()),(ns,u)) d3 ((((pre.length:Nat):Int),()),())=bif decide (m=(ndP ns dBn d3).1) then some (.inr (.inr ((((pre.length:Nat):Int),()),()))) else some (.inl (((((pre++[x]).length:Nat):Int),()),())):=by
      unfold qaw;simp only[show decide (((pre.length:Nat):Int)<((xs.length:Nat):Int))=true by simp;exact hpl,cond_true,hg,show inb ((pre.length:Nat):Int) xs.length=true from inb_iff.2 ⟨by omega,by omega⟩,qd,show Nat.blt 0 x=true by simpa[Nat.blt_eq] using h0,show Nat.blt 0 d3=true by simpa[Nat.blt_eq] using hd,h1];rw[eqMv4,qg (n:=((pre.length:Nat):Int)+1) (by omega) (by omega)];simp only[List.length_append,List.length_singleton];rfl
    by_cases hm:m=(ndP ns dBn d3).1
    · rw[show decide (m=(ndP ns dBn d3).1)=true by simpa using hm,cond_true] at hstep;rw[qh hstep];simp only[idxF,if_pos hm,Nat.add_zero]
    · rw[show decide (m=(ndP ns dBn d3).1)=false by simpa using hm,cond_false] at hstep;rw[ql hstep,qmR xs ns t u d3 hd P hx r (pre++[x]) ys' (by rw[hr,List.append_assoc];rfl) h3];simp only[idxF,if_neg hm]
      cases idxF (ndP ns dBn d3).1 r with
      | none=>rfl
      | some j=>simp only[Option.map_some,List.length_append,List.length_singleton];rw[show pre.length+1+j=pre.length+(j+1) by omega]

theorem qqZ {g:Fo→Fo} {k:Fo} (hg:∀k',szF (g k')≤szF k'+szF k) (m:Mv) (c:ByteArray):∀o,szF (insF g m c k o)≤szF o+(1+szF k)
  | .nil=>by simp only[insF,szF];omega
  | .cons m' c' k' r=>by
    unfold insF;split
    · have:=hg k';simp only[szF];omega
    · have:=qqZ hg m c r;simp only[szF];omega
theorem ql4:∀b o,szF (mgF b o)≤szF o+szF b
  | .nil,o=>by simp[mgF,szF]
  | .cons m c k r,o=>by
    have h1:=qqZ (g:=mgF k) (k:=k) (fun k'=>ql4 k k') m c o;have h2:=ql4 r (insF (mgF k) m c k o);simp only[mgF,szF];omega
def qre (φ:(Unit×Unit×ArB×List Nat×List Nat×Unit)→Option (Unit×ArB×List Nat)) (N:Nat):Prop:=∀(fb fo:Fo) (P:Nat→Prop) (ns:ArB) (xs ys:List Nat),szF fb<N→IsF ns P fo xs→IsF ns P fb ys→(∀y,P y→y≤ns.length)→szF fo+szF fb≤1000 →
  ∃ns' zs,φ ((),(),ns,xs,ys,())=some ((),ns',zs)∧ns.length≤ns'.length∧(∀y,0<y→y≤ns.length→ndP ns' dBn y=ndP ns dBn y)∧IsF ns' (fun y=>P y∨ns.length<y∧y≤ns'.length) (mgF fb fo) zs
theorem qs0 (self:(Unit×Unit×ArB×List Nat×List Nat×Unit)→Option (Unit×ArB×List Nat)) (N:Nat) (hs:qre self N) (b:List Nat) {m:Mv} {c:ByteArray} {k fo:Fo} {pre xs ks:List Nat} {y:Nat} {ns:ArB} {P:Nat→Prop}
    (hk:szF k<N) (hb:pre.length<b.length) (hbl:b.length≤1000) (hy:at? b ((pre.length:Nat):Int)=some y) (hy0:0<y) (hyP:P y) (hyn:ndP ns dBn y=(m,(c,(ks,())))) (hks:IsF ns P k ks) (hfo:IsF ns P fo xs) (hP:∀y,P y→y≤ns.length) (hsz:szF fo+(1+szF k)≤1000) :
    ∃ns1 xs1,qF b self ((xs,((pre.length:Nat):Int),()),(ns,()))=some (.inl ((xs1,((pre.length+1:Nat):Int),()),(ns1,())))∧ns.length≤ns1.length∧(∀y,0<y→y≤ns.length→ndP ns1 dBn y=ndP ns dBn y)∧IsF ns1 (fun y=>P y∨ns.length<y∧y≤ns1.length) (insF (mgF k) m c k fo) xs1:=by
  have hxl:xs.length≤1000:=by have:=hfo.len;have:=qju fo;omega
  have hxl2:xs.length+1≤1000:=by have:=hfo.len;have:=qju fo;omega
  have hfind:=qmR xs ns ((pre.length:Nat):Int) () y hy0 P hxl fo [] xs rfl hfo;simp only[List.length_nil,Nat.zero_add,hyn] at hfind;have hfind:iterW (qaw ((xs,((pre.length:Nat):Int),()),(ns,())) y) ((0,()),())=_:=hfind
  cases hi:idxF m fo with
  | none =>
    rw[hi] at hfind;refine⟨ns,xs++[y],?_,Nat.le_refl _,fun _ _ _=>rfl,qsa (fun _ _ h => .inl h) (fun _ _ _=>rfl) hy0 (.inl hyP) hyn (hks.mono (fun _ _ h => .inl h) (fun _ _ _=>rfl)) hfo hi⟩;unfold qF;simp only[show decide (((pre.length:Nat):Int)<((b.length:Nat):Int))=true by simp;exact hb,cond_true,hy,Option.bind_some,hfind,Sum.elim_inl];simp only[show decide ((-1:Int)<0)=true by decide,cond_true];rw[qR (by simp only[List.length_singleton];omega),qd,Option.bind_some,qg (n:=((pre.length:Nat):Int)+1) (by omega) (by omega)];rfl
  | some j =>
    rw[hi] at hfind;obtain⟨x,c',k',ks',a1,a2,a3,a4,a5,a6,a7,a8⟩:=qrO hfo hi;have hxL:=hP x a4;have hyL:=hP y hyP
    obtain⟨n9,h9,h9l,h9n,h9o⟩:∃n9,setP (addP ns (((0:Int),((0:Int),((0:Int),()))),((ByteArray.mk #[]),(([]:List Nat),())))) dBn (ns.length+1) (m,(c',(ks',())))=n9∧n9.length=ns.length+1∧ndP n9 dBn (ns.length+1)=(m,(c',(ks',())))∧∀z,0<z→z≤ns.length→ndP n9 dBn z=ndP ns dBn z :=
      ⟨_,rfl,by rw[qfb,qkP],by rw[qgM _ _ (by omega) (by rw[qkP];omega)],fun z h0 hz=>by rw[qci _ _ (by omega) h0 (by omega),qlx _ _ h0 hz]⟩
    obtain⟨cc,hcc⟩:∃cc,(if c'.toList=[] then c else c')=cc:=⟨_,rfl⟩;obtain⟨n12,h12,h12l,h12n,h12o⟩:∃n12,(bif (c'.toList==(ByteArray.mk #[]).toList) then setP n9 dBn (ns.length+1) (m,(c,(ks',()))) else n9)=n12∧n12.length=ns.length+1∧ndP n12 dBn (ns.length+1)=(m,(cc,(ks',())))∧∀z,0<z→z≤ns.length→ndP n12 dBn z=ndP ns dBn z:=by
      have he:(ByteArray.mk #[]).toList=[]:=by decide +kernel
      rw[he];by_cases e:c'.toList=[]
      · rw[if_pos e] at hcc;subst hcc;exact⟨_,rfl,by simp[e,qfb,h9l],by simp only[e,beq_self_eq_true,cond_true];rw[qgM _ _ (by omega) (by omega)],fun z h0 hz=>by simp only[e,beq_self_eq_true,cond_true];rw[qci _ _ (by omega) h0 (by omega),h9o z h0 hz]⟩
      · rw[if_neg e] at hcc;subst hcc
        have:(c'.toList==[])=false:=by simpa using e
        exact⟨_,rfl,by rw[this,cond_false,h9l],by rw[this,cond_false,h9n],fun z h0 hz=>by rw[this,cond_false,h9o z h0 hz]⟩
    have hw12:∀z,0<z→P z→ndP n12 dBn z=ndP ns dBn z:=fun z h0 hz=>h12o z h0 (hP z hz);obtain⟨ns2,zs2,b1,b2,b3,b4⟩:=hs k k' P n12 ks' ks hk (a6.mono (fun _ _ h=>h) hw12) (hks.mono (fun _ _ h=>h) hw12) (fun z hz=>by have:=hP z hz;omega) (by omega);rw[h12l] at b2 b3 b4
    have hn2:ndP ns2 dBn (ns.length+1)=(m,(cc,(ks',()))):=by rw[b3 _ (by omega) (Nat.le_refl _),h12n]
    refine⟨setP ns2 dBn (ns.length+1) (m,(cc,(zs2,()))),xs.set j (ns.length+1),?_,by rw[qfb];omega,fun z h0 hz=>by rw[qci _ _ (by omega) h0 (by omega),b3 z h0 (by omega),h12o z h0 hz],?_⟩
    · have hgx:getD' xs ((((j:Nat):Int)).toNat) (0:Nat)=x:=by
        rw[Int.toNat_natCast];unfold getD';rw[List.getD_eq_getElem?_getD,a2];rfl
      unfold qF;simp only[show decide (((pre.length:Nat):Int)<((b.length:Nat):Int))=true by simp;exact hb,cond_true,hy,Option.bind_some,hfind,Sum.elim_inr];simp only[show decide (((j:Nat):Int)<0)=false by simp,cond_false,show inb ((j:Nat):Int) xs.length=true from inb_iff.2 ⟨by omega,by omega⟩,qd,hgx,show Nat.blt 0 x=true by simpa[Nat.blt_eq] using a3,Option.bind_some,a5];have h9':setP (addP ns (((0:Int),((0:Int),((0:Int),()))),((ByteArray.mk #[]),(([]:List Nat),())))) (((0:Int),((0:Int),((0:Int),()))),(ByteArray.empty,([],()))) (ns.length+1) ((m.1,(m.2.1,(m.2.2.1,()))),(c',(ks',())))=n9:=h9;rw[h9']
      have h12':(bif (c'.toList==(ByteArray.mk #[]).toList) then(some ((),(setP n9 dBn (ns.length+1) (m,(c,(ks',()))),())):Option (Unit×ArB×Unit)) else some ((),(n9,())))=some ((),(n12,())):=by
        rw[←h12]
        cases (c'.toList==(ByteArray.mk #[]).toList)<;>rfl
      simp only[h9n,show Nat.blt 0 y=true by simpa[Nat.blt_eq] using hy0,qd,h9o y hy0 hyL,hyn];rw[h12',Option.bind_some];simp only[h12n,h12o y hy0 hyL,hyn,b1,Option.bind_some,hn2];rw[qg (n:=((pre.length:Nat):Int)+1) (by omega) (by omega)];rfl
    · refine a8 (fun z _ h => .inl h) (fun z h0 h=>by rw[qci _ _ (by omega) h0 (by have:=hP z h;omega),b3 z h0 (by have:=hP z h;omega),hw12 z h0 h]) (by omega) (.inr ⟨by omega,by rw[qfb];omega⟩) (by rw[qgM _ _ (by omega) (by omega),hcc]) ?_;refine b4.mono (fun z h0 h=>?_) (fun z h0 h=>qci _ _ (by omega) h0 ?_)
      · rcases h with h | h
        · exact .inl h
        · exact .inr ⟨by omega,by rw[qfb];exact h.2⟩
      · rcases h with h | h
        · have:=hP z h;omega
        · omega
theorem qnd (self:(Unit×Unit×ArB×List Nat×List Nat×Unit)→Option (Unit×ArB×List Nat)) (N:Nat) (hs:qre self N) (b:List Nat) (hbl:b.length≤1000) :
    ∀(fb fo:Fo) (pre ys xs:List Nat) (ns:ArB) (P:Nat→Prop),szF fb≤N→b=pre++ys→IsF ns P fb ys→IsF ns P fo xs→(∀y,P y→y≤ns.length)→szF fo+szF fb≤1000 →
    ∃ns' zs,iterW (qF b self) ((xs,((pre.length:Nat):Int),()),(ns,()))=some ((zs,()),(ns',()))∧ns.length≤ns'.length∧(∀y,0<y→y≤ns.length→ndP ns' dBn y=ndP ns dBn y)∧IsF ns' (fun y=>P y∨ns.length<y∧y≤ns'.length) (mgF fb fo) zs
  | .nil,fo,pre,ys,xs,ns,P,_,hr,hb,ho,_,_=>by
    have hb:ys=[]:=hb;subst hb;refine⟨ns,xs,qh ?_,Nat.le_refl _,fun _ _ _=>rfl,ho.mono (fun _ _ h => .inl h) (fun _ _ _=>rfl)⟩;unfold qF;simp only[hr,List.append_nil,show decide (((pre.length:Nat):Int)<((pre.length:Nat):Int))=false by simp,cond_false]
  | .cons m c k r,fo,pre,ys,xs,ns,P,hN,hr,⟨y,ys',ks,e,h0,hp,h1,h2,h3⟩,ho,hP,hsz=>by
    subst e;simp only[szF] at hN hsz
    have hpl:pre.length<b.length:=by rw[hr];simp
    have hat:at? b ((pre.length:Nat):Int)=some y:=by
      rw[qbj _ _ hpl];simp only[hr];rw[List.getElem_append_right (Nat.le_refl _)];simp
    obtain⟨ns1,xs1,e1,e2,e3,e4⟩:=qs0 self N hs b (by omega) hpl hbl hat h0 hp h1 h2 ho hP (by omega);have hins:=qqZ (g:=mgF k) (k:=k) (fun k'=>ql4 k k') m c fo
    obtain⟨ns',zs,g1,g2,g3,g4⟩:=qnd self N hs b hbl r (insF (mgF k) m c k fo) (pre++[y]) ys' xs1 ns1 (fun y=>P y∨ns.length<y∧y≤ns1.length) (by omega) (by rw[hr,List.append_assoc];rfl) (h3.mono (fun _ _ h => .inl h) (fun z hz h=>e3 z hz (hP z h))) e4 (fun z hz=>by
      rcases hz with hz | hz
      · have:=hP z hz;omega
      · exact hz.2) (by omega)
    refine⟨ns',zs,?_,by omega,fun z h0 hz=>by rw[g3 z h0 (by omega),e3 z h0 hz],?_⟩
    · rw[ql e1];rw[List.length_append,List.length_singleton] at g1;exact g1
    · refine g4.mono (fun z _ h=>?_) (fun _ _ _=>rfl);rcases h with (h | h) | h
      · exact .inl h
      · exact .inr ⟨h.1,by omega⟩
      · exact .inr ⟨by omega,h.2⟩
theorem qpB:∀N,qre (fixN qJ N) N
  | 0=>fun fb fo P ns xs ys h=>absurd h (Nat.not_lt_zero _)
  | N+1=>fun fb fo P ns xs ys hN ho hb hP hsz=>by
    have hyl:ys.length≤1000:=by have:=hb.len;have:=qju fb;omega
    have hxl:xs.length≤1000:=by have:=ho.len;have:=qju fo;omega
    obtain⟨ns',zs,e1,e2,e3,e4⟩:=qnd (fixN qJ N) N (qpB N) ys hyl fb fo [] ys xs ns P (by omega) rfl hb ho hP hsz;refine⟨ns',zs,?_,e2,e3,e4⟩;show qbY (fixN qJ N) ns xs ys=_;unfold qbY;have hclone:(bif (xs.isEmpty) then(agree (some ((([]:List Nat),()),())) (req (room (([]:List Nat).length+xs.length) 8) (some (((([]:List Nat)++xs),()),())))) else req (room (([]:List Nat).length+xs.length) 8) (some (((([]:List Nat)++xs),()),())))=some ((xs,()),()):=by
      rw[qR (by simp;omega),qd,List.nil_append]
      cases xs with
      | nil=>simp[agree]
      | cons _ _=>rfl
    rw[hclone,Option.bind_some];have e1:iterW (qF ys (fixN qJ N)) ((xs,0,()),(ns,()))=_:=e1;rw[e1];rfl
theorem qsE (fb fo:Fo) (P:Nat→Prop) (ns:ArB) (xs ys:List Nat) (ho:IsF ns P fo xs) (hb:IsF ns P fb ys) (hP:∀y,P y→y≤ns.length) (hsz:szF fo+szF fb≤1000) :
    ∃ns' zs Q,qaR ns xs ys=some ((),ns',zs)∧IsF ns' Q (mgF fb fo) zs:=by
  obtain⟨ns',zs,e1,_,_,e4⟩:=qpB (szF fb+1) fb fo P ns xs ys (Nat.lt_succ_self _) ho hb hP hsz;exact⟨ns',zs,_,fix_of qiz e1,e4⟩
set_option maxHeartbeats 1000000

def dpN (ns:List RNode) (n:Int):Int:=(((wayN ns n).countP (sibB ns):Nat):Int)
theorem dpN_neg (ns:List RNode) {n:Int} (h:n<0):dpN ns n=0:=by unfold dpN;rw[qbJ _ h];rfl
theorem dpN_pos {ns:List RNode} {n:Int} (h:0≤n) (hd:Down ns (n+1).toNat):dpN ns n=(if sibB ns n.toNat=true then 1 else 0)+dpN ns (rpar ns n.toNat):=by
  unfold dpN;rw[qaE h hd,List.countP_cons]
  split<;>omega
theorem dpN_le {ns:List RNode} {n:Int} (hd:Down ns (n+1).toNat):0≤dpN ns n∧dpN ns n≤((n+1).toNat:Nat):=by
  unfold dpN;have h1:=qdg (ns:=ns) _ n (Nat.le_refl _) hd;have h2:=List.countP_le_length (p:=sibB ns) (l:=wayN ns n);omega
def nErrX (r:Rules) (ns:List RNode) (i:Nat):Int:=if nErr r ns i≠0 then nErr r ns i else if 20<dpN ns (i:Int) then 2 else 0
theorem qn2 {r:Rules} {ns:List RNode} {i:Nat} {v:Int} (h:nErr r ns i=v) (hv:v≠0):v=nErrX r ns i:=by
  unfold nErrX;rw[h,if_pos hv]
structure DeepX (ns:List RNode) (deep:List Int) (i:Nat):Prop where
  len:deep.length=ns.length
  all:∀j,j<i→deep.getD j 0=dpN ns (j:Int)
  zero:∀j,i≤j→deep.getD j 0=0
theorem qsH {r:Rules} (hr:Rng qX r) (x:Rec) (hx:Rng tyRec x) (h30:x.2.2.1.length≤1000) {i:Nat} (hi:i<x.2.2.1.length) (ho:Ord x.2.2.1 i) {deep:List Int} (hD:DeepX x.2.2.1 deep i) :
    ∃deep' e,qdo deep r x (i:Int)=some (deep',e)∧e=nErrX r x.2.2.1 i∧(e=0→DeepX x.2.2.1 deep' (i+1)):=by
  have hcs:(rcom x.2.2.1 i).size≤9223372036854775807:=by
    have:=(hx.2.2.1.2 _ (List.getElem_mem hi)).2.2.1;rw[←(qbN hi).2.2];exact this
  have hd:=ho.down;obtain⟨n1,n2,n3⟩:=qbN hi;unfold qdo;rw[qbj _ _ hi,Option.bind_some];simp only[n1,n2,n3];rw[qeb _ hcs,Option.bind_some];by_cases hc:cErr (rcom x.2.2.1 i)=0
  rotate_left
  · rw[bne_t hc,cond_true];exact⟨_,_,rfl,qn2 (by unfold nErr;rw[if_pos hc]) hc,fun h=>absurd h hc⟩
  rw[bne_f hc,cond_false];have hon:qgS x (rpar x.2.2.1 i) (w64 ((i:Int)-1))=some (decide (0≤rpar x.2.2.1 i∧(rpar x.2.2.1 i).toNat∈wayN x.2.2.1 ((i:Int)-1))||(rpar x.2.2.1 i == -1)):=by
    rw[qg (by omega) (by omega)];exact on_spec x _ (by omega) (by rw[show((i:Int)-1+1).toNat=i by omega];exact hd)
  rw[hon];by_cases hob:ordB x.2.2.1 i=true
  rotate_left
  · rw[Bool.not_eq_true] at hob;refine⟨deep,3,?_,qn2 (by unfold nErr;rw[if_neg (fun h=>h hc),if_pos hob]) (by decide),fun h=>by cases h⟩;unfold ordB at hob;by_cases hp:rpar x.2.2.1 i<(i:Int)
    · rw[decide_eq_true hp,Bool.true_and] at hob;rw[show decide (rpar x.2.2.1 i≥(i:Int))=false by simp only[decide_eq_false_iff_not];omega,hob];rfl
    · rw[show decide (rpar x.2.2.1 i≥(i:Int))=true by simp only[decide_eq_true_eq];omega];rfl
  have hor:=ho.step hob;have hd1:=hor.down;have hpi:=hd1 i (Nat.lt_succ_self i);have hpl:=hor.low i (Nat.lt_succ_self i);have hob2:=hob;unfold ordB at hob2;rw[decide_eq_true hpi,Bool.true_and] at hob2;rw[show decide (rpar x.2.2.1 i≥(i:Int))=false by simp only[decide_eq_false_iff_not];omega,hob2];simp only[Bool.not_false,gopt,cond_true,Option.bind_some,Bool.not_true,Bool.or_self,cond_false];have hdl:=hD.len
  obtain⟨dp,hdp1,hdp2⟩:∃dp:List Int,(bif (decide (rpar x.2.2.1 i≥0)) then req (inb (rpar x.2.2.1 i) deep.length) (req (inb (i:Int) deep.length) (some ((),((deep.set (((i:Int)).toNat) (getD' deep ((rpar x.2.2.1 i).toNat) 0)),()))))
      else some ((),(deep,())))=some ((),(dp,()))∧(dp.length=x.2.2.1.length∧(∀j,j<i→dp.getD j 0=dpN x.2.2.1 (j:Int))∧(∀j,i<j→dp.getD j 0=0)∧dp.getD i 0=dpN x.2.2.1 (rpar x.2.2.1 i)):=by
    by_cases h0:0≤rpar x.2.2.1 i
    · rw[show decide (rpar x.2.2.1 i≥0)=true by simp only[decide_eq_true_eq];omega,cond_true,inb_iff.2 ⟨h0,by omega⟩,qd,show inb (i:Int) deep.length=true from inb_iff.2 (by omega),qd];have q:=hD.all (rpar x.2.2.1 i).toNat (by omega);refine⟨_,rfl,by rw[List.length_set];exact hdl,fun j hj=>?_,fun j hj=>?_,?_⟩
      · rw[Int.toNat_natCast,gdD,setD _ _ _ _ (by omega),if_neg (by omega)];exact hD.all j hj
      · rw[Int.toNat_natCast,gdD,setD _ _ _ _ (by omega),if_neg (by omega)];exact hD.zero j (by omega)
      · rw[Int.toNat_natCast,gdD,setD _ _ _ _ (by omega),if_pos rfl,q,show(((rpar x.2.2.1 i).toNat:Nat):Int)=rpar x.2.2.1 i by omega]
    · rw[show decide (rpar x.2.2.1 i≥0)=false by simp only[decide_eq_false_iff_not];omega,cond_false];exact⟨_,rfl,hdl,hD.all,fun j hj=>hD.zero j (by omega),by rw[hD.zero i (Nat.le_refl _),dpN_neg _ (by omega)]⟩
  rw[hdp1,Option.bind_some];rw[show qv 0 (i:Int) x.2.2.1.length=true by simp only[qv,Bool.and_eq_true,decide_eq_true_eq];omega,qd,qd]
  have htl:(x.2.2.1.take i).length=i:=by rw[List.length_take];omega
  have tk:∀k (hk:k<(x.2.2.1.take i).length),(x.2.2.1.take i)[k].1=rpar x.2.2.1 k∧(x.2.2.1.take i)[k].2.1=rmv x.2.2.1 k:=fun k hk=>by
    rw[List.getElem_take];exact⟨(qbN (by omega)).1,(qbN (by omega)).2.1⟩
  obtain⟨nd,hnd⟩:∃nd:RNode,x.2.2.1[i]=nd:=⟨_,rfl⟩;rw[hnd] at n1 n2;rw[hnd];have anyT:(x.2.2.1.take i).any (fun d=>(d.1==rpar x.2.2.1 i)&&(d.2.1==rmv x.2.2.1 i))=twinB x.2.2.1 i:=by
    unfold twinB;rw[Bool.eq_iff_iff,List.any_eq_true,List.any_eq_true];constructor
    · rintro ⟨d,hd,e⟩
      obtain⟨k,hk,rfl⟩:=List.mem_iff_getElem.1 hd;rw[(tk k hk).1,(tk k hk).2] at e;exact⟨k,List.mem_range.2 (by omega),e⟩
    · rintro ⟨k,hk,e⟩
      have hk:=List.mem_range.1 hk;refine⟨(x.2.2.1.take i)[k]'(by omega),List.getElem_mem _,?_⟩;rw[(tk k (by omega)).1,(tk k (by omega)).2];exact e
  have anyS:(x.2.2.1.take i).any (fun d=>d.1==rpar x.2.2.1 i)=sibB x.2.2.1 i:=by
    unfold sibB;rw[Bool.eq_iff_iff,List.any_eq_true,List.any_eq_true];constructor
    · rintro ⟨d,hd,e⟩
      obtain⟨k,hk,rfl⟩:=List.mem_iff_getElem.1 hd;rw[(tk k hk).1] at e;exact⟨k,List.mem_range.2 (by omega),e⟩
    · rintro ⟨k,hk,e⟩
      have hk:=List.mem_range.1 hk;refine⟨(x.2.2.1.take i)[k]'(by omega),List.getElem_mem _,?_⟩;rw[(tk k (by omega)).1];exact e
  have hL1:=qt (x.2.2.1.take i) (fun d=>(d.1==rpar x.2.2.1 i)&&(d.2.1==rmv x.2.2.1 i)) (qaS x (i:Int) nd ((),(dp,()))) (.inr (dp,7)) (.inl ((),())) (fun k hk=>by
    unfold qaS;simp only[Int.toNat_natCast,List.drop_zero,n1,n2];rw[htl];simp only[show decide ((k:Int)<((i:Nat):Int))=true by simp;omega,cond_true];rw[qbj _ _ hk,Option.bind_some,(tk k hk).1,(tk k hk).2];rw[qg (n:=(k:Int)+1) (by omega) (by omega)];have:=qiA (rmv x.2.2.1 k) (rmv x.2.2.1 i);unfold eqMv at this;rw[this];cases e1:(rpar x.2.2.1 k==rpar x.2.2.1 i)
    · simp only[bne,e1,Bool.not_false,cond_true,Option.bind_some,Sum.elim_inl,Bool.false_and,cond_false];rfl
    · simp only[bne,e1,Bool.not_true,cond_false,Bool.true_and]
      cases (rmv x.2.2.1 k==rmv x.2.2.1 i)<;>rfl) (by
    unfold qaS;simp only[Int.toNat_natCast,List.drop_zero];rw[htl]
    simp)
  rw[hL1,anyT,Option.bind_some];cases htw:twinB x.2.2.1 i
  rotate_left
  · simp only[cond_true,Sum.elim_inr];exact⟨dp,7,rfl,qn2 (by unfold nErr;rw[if_neg (fun h=>h hc),if_neg (by rw[hob];decide),if_pos htw]) (by decide),fun h=>by cases h⟩
  simp only[cond_false,Sum.elim_inl]
  have hne:nErr r x.2.2.1 i=gErr r (wayM x.2.2.1 (i:Int)):=by unfold nErr;rw[if_neg (fun h=>h hc),if_neg (by rw[hob];decide),if_neg (by rw[htw];decide)]
  have hdi:=dpN_pos (ns:=x.2.2.1) (n:=(i:Int)) (by omega) (by rw[show((i:Int)+1).toNat=i+1 by omega];exact hd1);rw[Int.toNat_natCast] at hdi;have hdb:=dpN_le (ns:=x.2.2.1) (n:=(i:Int)) (by rw[show((i:Int)+1).toNat=i+1 by omega];exact hd1);have hway:qZ x (i:Int)=some (wayM x.2.2.1 (i:Int)):=qq6 x (by omega) (by omega) (by omega) (by rw[show((i:Int)+1).toNat=i+1 by omega];exact hd1);have hwl:(wayM x.2.2.1 (i:Int)).length≤1000:=by
    unfold wayM;rw[List.length_reverse,List.length_map];have:=qdg _ (i:Int) (Nat.le_refl _) (by rw[show((i:Int)+1).toNat=i+1 by omega];exact hd1);omega
  have hrun:=qr9 r (wayM x.2.2.1 (i:Int)) hr (by omega)
  have gm:∀z:List Int,z.length=x.2.2.1.length→z.getD i 0=dpN x.2.2.1 (i:Int)→(Option.bind (Option.bind (qZ x (i:Int)) fun r15=>Option.bind (qam r r15) fun r16=>some ((r16.2.2.1,()),())) fun x27:((Int×Unit)×Unit) =>
      bif (x27.1.1 !=0) then some (z,x27.1.1) else req (inb (i:Int) z.length) (bif (decide ((getD' z (((i:Int)).toNat) 0)>20)) then some (z,2) else some (z,0)))=some (z,nErrX r x.2.2.1 i):=fun z hz h2=>by
    rw[hway,Option.bind_some,hrun,Option.bind_some,Option.bind_some,run_err];by_cases e:gErr r (wayM x.2.2.1 (i:Int))=0
    · simp only[e,bne_self_eq_false,cond_false];rw[inb_iff.2 ⟨by omega,by omega⟩,qd,Int.toNat_natCast,gdD,h2];unfold nErrX;rw[hne,if_neg (fun h=>h e)];by_cases e2:20<dpN x.2.2.1 (i:Int)
      · rw[if_pos e2,show decide (dpN x.2.2.1 (i:Int)>20)=true by simpa using e2,cond_true]
      · rw[if_neg e2,show decide (dpN x.2.2.1 (i:Int)>20)=false by simpa using e2,cond_false]
    · simp only[bne_t e,cond_true];unfold nErrX;rw[hne,if_pos e]
  have hL2:=qt (x.2.2.1.take i) (fun d=>d.1==rpar x.2.2.1 i) (qaQ x (i:Int) nd ((),(dp,())) r) (.inr ((dp.set i (dp.getD i 0+1)),nErrX r x.2.2.1 i)) (.inl ((),())) (fun k hk=>by
    unfold qaQ;simp only[Int.toNat_natCast,List.drop_zero,n1,n2];rw[htl];simp only[show decide ((k:Int)<((i:Nat):Int))=true by simp;omega,cond_true];rw[qbj _ _ hk,Option.bind_some,(tk k hk).1];rw[qg (n:=(k:Int)+1) (by omega) (by omega)];cases e1:(rpar x.2.2.1 k==rpar x.2.2.1 i)
    · rfl
    · have hs:sibB x.2.2.1 i=true:=by
        unfold sibB;rw[List.any_eq_true];exact⟨k,List.mem_range.2 (by omega),e1⟩
      have hq2:=hdp2.2.2.2;have hdl2:=hdp2.1;rw[hs] at hdi;simp only[if_true] at hdi;simp only[cond_true,show decide ((k:Int)≥0)=true by simp];rw[inb_iff.2 ⟨by omega,by omega⟩,qd,qd,Option.bind_some];simp only[agree_self];have:=gm (dp.set i (dp.getD i 0+1)) (by rw[List.length_set];exact hdl2) (by rw[setD _ _ _ _ (by omega),if_pos rfl,hq2,hdi];omega);simp only[Int.toNat_natCast] at this;rw[gdD,qg (by omega) (by omega),this]
      rfl) (by
    unfold qaQ;simp only[Int.toNat_natCast,List.drop_zero];rw[htl]
    simp)
  rw[hL2,anyS,Option.bind_some];have hq2:=hdp2.2.2.2;have hdl2:=hdp2.1;cases hsb:sibB x.2.2.1 i
  · simp only[cond_false,Sum.elim_inl,agree_self];rw[hsb] at hdi;simp only[Bool.false_eq_true,if_false,Int.zero_add] at hdi;exact⟨dp,_,gm dp hdl2 (by rw[hq2,hdi]),rfl,fun _=>⟨hdl2,fun j hj=>by
      by_cases e:j=i
      · subst e;rw[hq2,hdi]
      · exact hdp2.2.1 j (by omega),fun j hj=>hdp2.2.2.1 j (by omega)⟩⟩
  · simp only[cond_true,Sum.elim_inr];rw[hsb] at hdi;simp only[if_true] at hdi;refine⟨_,_,rfl,rfl,fun _=>⟨by rw[List.length_set];exact hdl2,fun j hj=>?_,fun j hj=>?_⟩⟩
    · rw[setD _ _ _ _ (by omega)];by_cases e:i=j
      · subst e;rw[if_pos rfl,hq2,hdi];omega
      · rw[if_neg e];exact hdp2.2.1 j (by omega)
    · rw[setD _ _ _ _ (by omega),if_neg (by omega)];exact hdp2.2.2.1 j (by omega)

theorem qjC {r:Rules} {ns:List RNode} {i:Nat} (h:nErrX r ns i=0):nErr r ns i=0∧dpN ns (i:Int)≤20:=by
  unfold nErrX at h;by_cases e:nErr r ns i=0
  · rw[if_neg (fun h=>h e)] at h;by_cases e2:20<dpN ns (i:Int)
    · rw[if_pos e2] at h;cases h
    · exact⟨e,by omega⟩
  · rw[if_pos e] at h;exact absurd h e
theorem nErrX_ord {r:Rules} {ns:List RNode} {i:Nat} (h:nErrX r ns i=0):ordB ns i=true:=qgW (qjC h).1
theorem qqg {r:Rules} (hr:Rng qX r) (x:Rec) (hx:Rng tyRec x) (h30:x.2.2.1.length≤1000):∀(k i:Nat) (deep:List Int),i+k=x.2.2.1.length→Ord x.2.2.1 i→DeepX x.2.2.1 deep i →
    Option.bind (iterW (qab x r) (((i:Int),()),(deep,()))) (Sum.elim (fun _=>some 0) some)=some (scan (fun i=>nz (nErrX r x.2.2.1 i)) 0 i k):=by
  intro k
  induction k with
  | zero =>
    intro i deep hi ho hD
    have:i=x.2.2.1.length:=by omega
    subst this;rw[qh (r := .inl ((),(deep,()))) (by unfold qab;simp)];rfl
  | succ k ih =>
    intro i deep hi ho hD;obtain⟨deep',e0,h1,he0,h2⟩:=qsH hr x hx h30 (i:=i) (by omega) ho hD;subst he0;have hs:=qjQ (nErrX r x.2.2.1) i k;rw[hs];by_cases e:nErrX r x.2.2.1 i=0
    · rw[if_pos e,ql (y:=((((i+1:Nat):Int),()),(deep',())))]
      · exact ih (i+1) deep' (by omega) (ho.step (nErrX_ord e)) (h2 e)
      · unfold qab;simp only[show decide ((i:Int)<((x.2.2.1.length:Nat):Int))=true by simp;omega,cond_true];rw[h1,Option.bind_some];simp only[e,bne_self_eq_false,cond_false];rw[qg (by omega) (by omega)];rfl
    · rw[if_neg e,qh (r := .inr (nErrX r x.2.2.1 i))]
      · rfl
      · unfold qab;simp only[show decide ((i:Int)<((x.2.2.1.length:Nat):Int))=true by simp;omega,cond_true];rw[h1,Option.bind_some];simp only[bne_t e,cond_true]
def qbu (r:Rules) (x:Rec):Int:=if qw r≠0 then qw r else if 10<x.1.length then 2 else if qs (tErr x.1) x.1.length≠0 then qs (tErr x.1) x.1.length else if x.2.2.2.1<0∨3<x.2.2.2.1 then 4 else if cErr x.2.1≠0 then cErr x.2.1 else qs (nErrX r x.2.2.1) x.2.2.1.length
theorem qoP {r:Rules} (hr:Rng qX r) (x:Rec) (hx:Rng tyRec x) (h30:x.2.2.1.length≤200):qal r x=some (qbu r x):=by
  unfold qal qbu;rw[qgU r hr,Option.bind_some];by_cases c:qw r=0
  rotate_left
  · rw[bne_t c,cond_true,if_pos c]
  rw[bne_f c,cond_false,if_neg (fun h=>h c)];rw[show decide (((x.2.2.1.length:Nat):Int)>200)=false by simp only[decide_eq_false_iff_not];omega,Bool.or_false];by_cases c1:10<x.1.length
  · rw[if_pos c1,show decide (((x.1.length:Nat):Int)>10)=true by simp only[decide_eq_true_eq];omega];rfl
  rw[if_neg c1,show decide (((x.1.length:Nat):Int)>10)=false by simp only[decide_eq_false_iff_not];omega,cond_false,qpd x hx,Option.bind_some];by_cases c2:qs (tErr x.1) x.1.length=0
  rotate_left
  · rw[bne_t c2,cond_true,if_pos c2]
  rw[bne_f c2,cond_false,if_neg (fun h=>h c2)];by_cases c3:x.2.2.2.1<0∨3<x.2.2.2.1
  · rw[if_pos c3,show(decide (x.2.2.2.1<0)||decide (x.2.2.2.1>3))=true by simp only[Bool.or_eq_true,decide_eq_true_eq];omega];rfl
  rw[if_neg c3,show(decide (x.2.2.2.1<0)||decide (x.2.2.2.1>3))=false by simp only[Bool.or_eq_false_iff,decide_eq_false_iff_not];omega,cond_false];rw[qeb _ hx.2.1,Option.bind_some];by_cases c4:cErr x.2.1=0
  rotate_left
  · rw[bne_t c4,cond_true,if_pos c4]
  rw[bne_f c4,cond_false,if_neg (fun h=>h c4)]
  rw[show(decide (0≤((x.2.2.1.length:Nat):Int))&&((((x.2.2.1.length:Nat):Int)==((x.2.2.1.length:Nat):Int))&&room (((x.2.2.1.length:Nat):Int)).toNat 8))=true by
    rw[beq_self_eq_true,qR (by omega)];simp,qd]
  exact qqg hr x hx (by omega) x.2.2.1.length 0 _ (by omega) (fun i hi=>by omega) ⟨by simp,fun j hj=>by omega,fun j _=>by
    rw[List.getD_eq_getElem?_getD,List.getElem?_replicate]
    split<;>rfl⟩
theorem qmy {r:Rules} (hr:Rng qX r) (x:Rec) (hx:Rng tyRec x) (h30:x.2.2.1.length≤200) (z:Option Int):∀(k i:Nat),i+k=x.2.2.1.length→Ord x.2.2.1 i →
    Option.bind (iterW (qC x r) (((i:Int),()),())) (Sum.elim (fun _=>z) some)=if scan (fun i=>nz (nErr r x.2.2.1 i)) 0 i k=0 then z else some (scan (fun i=>nz (nErr r x.2.2.1 i)) 0 i k):=by
  intro k
  induction k with
  | zero =>
    intro i hi ho
    have:i=x.2.2.1.length:=by omega
    subst this;rw[qh (r := .inl ((),())) (by unfold qC;simp)];rfl
  | succ k ih =>
    intro i hi ho
    have hi':i<x.2.2.1.length:=by omega
    have hs:=qjQ (nErr r x.2.2.1) i k;have hf:qC x r (((i:Int),()),())=if nErr r x.2.2.1 i=0 then some (.inl ((((i+1:Nat):Int),()),())) else some (.inr (.inr (nErr r x.2.2.1 i))):=by
      obtain⟨n1,n2,n3⟩:=qbN hi';have hd:=ho.down;unfold qC;simp only[show decide ((i:Int)<((x.2.2.1.length:Nat):Int))=true by simp;omega,cond_true];rw[qbj _ _ hi',Option.bind_some];obtain⟨nd,hnd⟩:∃nd:RNode,x.2.2.1[i]=nd:=⟨_,rfl⟩;rw[hnd] at n1 n2 n3;rw[hnd];simp only[n1,n3];rw[qg (n:=(i:Int)+1) (by omega) (by omega)];unfold nErr;by_cases hc1:60<(rcom x.2.2.1 i).size
      · have:cErr (rcom x.2.2.1 i)=2:=by unfold cErr;rw[if_pos hc1]
        rw[show decide (((rcom x.2.2.1 i).size:Nat)>(60:Int))=true by simp only[decide_eq_true_eq];omega,this];rfl
      rw[show decide (((rcom x.2.2.1 i).size:Nat)>(60:Int))=false by simp only[decide_eq_false_iff_not];omega,cond_false,qgs _ _ (by omega) (by decide),Option.bind_some];cases hc2:fineT (rcom x.2.2.1 i) (ByteArray.mk #[123,125])
      · have:cErr (rcom x.2.2.1 i)=3:=by unfold cErr;rw[if_neg hc1,hc2,if_pos rfl]
        rw[this];rfl
      have hc:cErr (rcom x.2.2.1 i)=0:=by unfold cErr;rw[if_neg hc1,hc2,if_neg (by decide)]
      simp only[hc,ne_eq,not_true,if_false,Bool.not_true,cond_false]
      have hcond:∃b,gopt (((decide ((i:Int)>0))&&(decide (rpar x.2.2.1 i≥0)))&&(!((decide (rpar x.2.2.1 i < -1))||(decide (rpar x.2.2.1 i≥(i:Int)))))) false (qe1 x.2.2.1 (rpar x.2.2.1 i) (w64 ((i:Int)-1)))=some b ∧
          ((((decide (rpar x.2.2.1 i < -1))||(decide (rpar x.2.2.1 i≥(i:Int))))||(((decide ((i:Int)>0))&&(decide (rpar x.2.2.1 i≥0)))&&(!b)))||(((i:Int)==0)&&(rpar x.2.2.1 i != -1))) = !(ordB x.2.2.1 i):=by
        rw[qg (by omega) (by omega)];generalize hp:rpar x.2.2.1 i=p
        have hob:ordB x.2.2.1 i=(decide (p<(i:Int))&&(decide (0≤p∧p.toNat∈wayN x.2.2.1 ((i:Int)-1))||(p == -1))):=by unfold ordB;rw[hp]
        rw[hob];by_cases g1:p < -1
        · refine⟨false,by rw[show decide (p < -1)=true from decide_eq_true g1];simp[gopt],?_⟩;rw[show decide (p < -1)=true from decide_eq_true g1,beq_f (show ¬p = -1 by omega),decide_eq_false (show ¬(0≤p∧p.toNat∈wayN x.2.2.1 ((i:Int)-1)) by omega)];simp
        rw[show decide (p < -1)=false from decide_eq_false g1];by_cases g2:p≥(i:Int)
        · refine⟨false,by rw[show decide (p≥(i:Int))=true from decide_eq_true g2];simp[gopt],?_⟩;rw[show decide (p≥(i:Int))=true from decide_eq_true g2,decide_eq_false (show ¬p<(i:Int) by omega)];simp
        rw[show decide (p≥(i:Int))=false from decide_eq_false g2,decide_eq_true (show p<(i:Int) by omega)];by_cases g3:p = -1
        · refine⟨false,by rw[show decide (p≥0)=false from decide_eq_false (by omega)];simp[gopt],?_⟩;subst g3;simp
        have g4:0≤p:=by omega
        have g5:0<i:=by omega
        have hab:=qnv x.2.2.1 (a:=p) (n:=(i:Int)-1) g4 (by omega) (by rw[show((i:Int)-1+1).toNat=i by omega];exact hd);refine⟨_,by rw[show decide ((i:Int)>0)=true from decide_eq_true (by omega),show decide (p≥0)=true from decide_eq_true g4];exact hab,?_⟩;rw[show decide ((i:Int)>0)=true from decide_eq_true (by omega),show decide (p≥0)=true from decide_eq_true g4,beq_f (show ¬p = -1 from g3),beq_f (show ¬(i:Int)=0 by omega)];by_cases g6:p.toNat∈wayN x.2.2.1 ((i:Int)-1)
        · simp[g4,g6]
        · simp[g4,g6]
      obtain⟨b,hb1,hb2⟩:=hcond;rw[hb1,Option.bind_some,hb2];cases hob:ordB x.2.2.1 i
      · rfl
      have hor:=ho.step hob;have hd1:=hor.down;simp only[Bool.not_true,cond_false,if_neg (show ¬(true=false) by decide)]
      have hL4:=qt (List.range i) (fun k=>(rpar x.2.2.1 k==rpar x.2.2.1 i)&&(rmv x.2.2.1 k==rmv x.2.2.1 i)) (qT (((i:Int),()),()) x nd) (.inr (.inr (.inr (.inr 7)))) (.inl ((),())) (fun k hk=>by
        have hk':k<i:=by simpa using hk
        obtain⟨d,e1,e2,e3⟩:=qcW (ns:=x.2.2.1) (n:=(k:Int)) (by omega) (by omega);rw[Int.toNat_natCast] at e2 e3;unfold qT;simp only[show decide ((k:Int)<(i:Int))=true by simp;omega,cond_true,n1,n2,List.getElem_range];rw[e1,Option.bind_some,e2,qg (n:=(k:Int)+1) (by omega) (by omega)];cases e5:(rpar x.2.2.1 k==rpar x.2.2.1 i)
        · rfl
        · show Option.bind (at? x.2.2.1 (k:Int)) _=_;rw[e1,Option.bind_some];have:=qiA d.2.1 (rmv x.2.2.1 i);unfold eqMv at this;rw[this,e3]
          cases (rmv x.2.2.1 k==rmv x.2.2.1 i)<;>rfl) (by
        unfold qT;rw[List.length_range]
        simp)
      have htw:(List.range i).any (fun k=>(rpar x.2.2.1 k==rpar x.2.2.1 i)&&(rmv x.2.2.1 k==rmv x.2.2.1 i))=twinB x.2.2.1 i:=rfl;rw[hL4,htw,Option.bind_some];cases twinB x.2.2.1 i
      rotate_left
      · rfl
      simp only[cond_false,Sum.elim_inl,if_neg (show ¬(false=true) by decide)];have hwl:(wayM x.2.2.1 (i:Int)).length≤1000:=by
        unfold wayM;rw[List.length_reverse,List.length_map];have:=qdg _ (i:Int) (Nat.le_refl _) (by rw[show((i:Int)+1).toNat=i+1 by omega];exact hd1);omega
      rw[way3 x.2.2.1 (by omega) (n:=(i:Int)) (by omega) (by omega) (by rw[show((i:Int)+1).toNat=i+1 by omega];exact hd1) (fun j hj=>hor.low j (by omega)),Option.bind_some,qe3 r (wayM x.2.2.1 (i:Int)) hr (by omega),Option.bind_some,qgG];by_cases e:gErr r (wayM x.2.2.1 (i:Int))=0
      · simp only[e,bne_self_eq_false,cond_false,if_true];rfl
      · simp only[bne_t e,cond_true,if_neg e];rfl
    rw[hs];by_cases e:nErr r x.2.2.1 i=0
    · rw[if_pos e] at hf;rw[if_pos e,ql hf];exact ih (i+1) (by omega) (ho.step (qgW e))
    · rw[if_neg e] at hf;rw[if_neg e,qh hf,if_neg e];rfl
theorem qsk (ns:List RNode) (h30:ns.length≤1000) (n c:Int) (h0:0≤n) (h1:n<((ns.length:Nat):Int)) :
    iterW (qS ((n,c,()),()) ns) ((c,0,()),())=some ((if sibB ns n.toNat=true then w64 (c+1) else c,()),()):=by
  have key:∀k i:Nat,i+k=n.toNat→iterW (qS ((n,c,()),()) ns) ((c,(i:Int),()),())=some ((if ((List.range k).any fun t=>rpar ns (i+t)==rpar ns n.toNat)=true then w64 (c+1) else c,()),()):=by
    intro k
    induction k with
    | zero =>
      intro i hi;refine qh ?_;unfold qS;simp only[show decide ((i:Int)<n)=false by simp only[decide_eq_false_iff_not];omega,cond_false];rfl
    | succ k ih =>
      intro i hi;obtain⟨d3,e1,e2,_⟩:=qcW (ns:=ns) (n:=(i:Int)) (by omega) (by omega);obtain⟨d4,e3,e4,_⟩:=qcW (ns:=ns) (n:=n) h0 h1;rw[List.range_succ_eq_map,List.any_cons,List.any_map,Nat.add_zero];by_cases e:rpar ns i=rpar ns n.toNat
      · rw[if_pos (by rw[beq_t e];rfl)];refine qh ?_;unfold qS;simp only[show decide ((i:Int)<n)=true by simp only[decide_eq_true_eq];omega,cond_true];rw[e1,Option.bind_some,e3,Option.bind_some,e2,e4,Int.toNat_natCast,beq_t e,cond_true]
      · rw[beq_f e,Bool.false_or,ql (y:=((c,((i+1:Nat):Int),()),())),ih (i+1) (by omega)]
        · have:((fun t=>rpar ns (i+t)==rpar ns n.toNat)∘Nat.succ)=fun t=>rpar ns (i+1+t)==rpar ns n.toNat:=by
            funext t;simp only[Function.comp];rw[show i+Nat.succ t=i+1+t by omega]
          rw[this]
        · unfold qS;simp only[show decide ((i:Int)<n)=true by simp only[decide_eq_true_eq];omega,cond_true];rw[e1,Option.bind_some,e3,Option.bind_some,e2,e4,Int.toNat_natCast,beq_f e,cond_false,qg (by omega) (by omega)];rfl
  have:=key n.toNat 0 (by omega);simp only[Nat.zero_add] at this;exact this
theorem qoB (ns:List RNode) (h30:ns.length≤1000) {i:Nat} (hi:i<ns.length) (ho:Ord ns (i+1)):qdi ns (i:Int)=some (dpN ns (i:Int)):=by
  have hI:=qgX (f:=qaW ns) (fun s => -1≤s.1.1∧s.1.1≤(i:Int)∧0≤s.1.2.1∧s.1.2.1+dpN ns s.1.1=dpN ns (i:Int)) (fun s=>(s.1.1+1).toNat) (fun r=>r.1.1=dpN ns (i:Int)) (by
    rintro ⟨⟨n,c,⟨⟩⟩,⟨⟩⟩ ⟨h1,h2,h3,h4⟩
    simp only at h1 h2 h3 h4 ⊢;have hb:=dpN_le (ns:=ns) (n:=(i:Int)) (ho.down.mono (by omega));by_cases h:n<0
    · refine .inr ⟨((c,()),()),?_,by simp only;rw[dpN_neg _ h] at h4;omega⟩;unfold qaW;simp only[show decide (n≥0)=false by simp only[decide_eq_false_iff_not];omega,cond_false]
    · have q1:=qsk ns (by omega) n c (by omega) (by omega);obtain⟨d7,e1,e2,_⟩:=qcW (ns:=ns) (n:=n) (by omega) (by omega);have hp:=ho.down n.toNat (by omega);have hp2:=ho.low n.toNat (by omega);have hpos:=dpN_pos (ns:=ns) (n:=n) (by omega) (ho.down.mono (by omega));have hb2:=dpN_le (ns:=ns) (n:=n) (ho.down.mono (by omega));have hw:w64 (c+1)=c+1:=qg (by omega) (by omega);rw[hw] at q1;refine .inl ⟨((rpar ns n.toNat,if sibB ns n.toNat=true then c+1 else c,()),()),?_,?_,by simp only;omega⟩
      · unfold qaW;simp only[show decide (n≥0)=true by simp only[decide_eq_true_eq];omega,cond_true];rw[q1,Option.bind_some,Option.bind_some,e1,Option.bind_some,e2]
      · simp only
        split<;>rename_i hs<;>simp only[hs,if_true,if_false,Bool.false_eq_true] at hpos<;>omega)
  obtain⟨r,q1,q2⟩:=hI (((i:Int),0,()),()) ⟨by simp only;omega,Int.le_refl _,Int.le_refl _,by simp only;omega⟩;unfold qdi;rw[q1,Option.bind_some,q2]
theorem qnF (x:Rec) (h30:x.2.2.1.length≤1000) (ho:Ord x.2.2.1 x.2.2.1.length) (hdp:∀i,i<x.2.2.1.length→dpN x.2.2.1 (i:Int)≤20):iterW (qo x) ((0,()),())=some (.inl ((),())):=by
  have:=qt x.2.2.1 (fun _=>false) (qo x) (.inr 2) (.inl ((),())) (fun i hi=>by
    have e1:=qoB x.2.2.1 h30 hi (ho.mono (by omega));have e2:=hdp i hi;unfold qo;simp only[show decide ((i:Int)<((x.2.2.1.length:Nat):Int))=true by simp;omega,cond_true];rw[e1,Option.bind_some,show decide (dpN x.2.2.1 (i:Int)>20)=false by simp only[decide_eq_false_iff_not];omega,cond_false,qg (by omega) (by omega)]
    rfl) (by unfold qo;simp)
  rw[this,show x.2.2.1.any (fun _=>false)=false from List.any_eq_false.2 (fun _ _ h=>by cases h)];rfl
theorem qlI {e:Nat→Int} {n:Nat} (h:∀i,i<n→e i=0):qs e n=0:=by
  rw[qnW (g:=fun _=>0) h];have key:∀k i,scan (fun i=>nz ((fun _=>(0:Int)) i)) 0 i k=0:=by
    intro k
    induction k with
    | zero=>intro i;rfl
    | succ k ih=>intro i;rw[qjQ (fun _=>(0:Int)),if_pos rfl];exact ih (i+1)
  exact key n 0
theorem qiy {r:Rules} {x:Rec} (h:qbu r x=0):qs (nErrX r x.2.2.1) x.2.2.1.length=0:=by
  unfold qbu at h
  repeat (split at h;first | contradiction | skip)
  all_goals first | exact h | (exfalso;omega)
theorem qpf {r:Rules} {x:Rec} (h:qbu r x=0):∀i,i<x.2.2.1.length→dpN x.2.2.1 (i:Int)≤20:=fun i hi=>(qjC (qaP (qiy h) i hi)).2
theorem qmj {r:Rules} {x:Rec} (h:qbu r x=0):qP r x=0:=by
  have h1:=qiy h;have h2:qs (nErr r x.2.2.1) x.2.2.1.length=0:=qlI fun i hi=>(qjC (qaP h1 i hi)).1;unfold qbu at h;unfold qP;rw[h2];rw[h1] at h;exact h
theorem qq9 {r:Rules} (hr:Rng qX r) (x:Rec) (hx:Rng tyRec x) (h30:x.2.2.1.length≤200) (h0:qbu r x=0):qA r x=some 0:=by
  have h0':=qmj h0;have hdp:=qpf h0
  suffices hh:qA r x=some (qP r x) by rw[hh,h0']
  unfold qA qP;rw[qe3 r [] hr (by simp),Option.bind_some,qgG];have hg:gErr r []=qw r:=by
    unfold gErr qhs;by_cases c:qw r=0
    · rw[if_pos c,c];rfl
    · rw[if_neg c]
  rw[hg];by_cases c:qw r=0
  rotate_left
  · rw[bne_t c,cond_true,if_pos c]
  rw[bne_f c,cond_false,if_neg (fun h=>h c)];rw[show decide (((x.2.2.1.length:Nat):Int)>200)=false by simp only[decide_eq_false_iff_not];omega,Bool.or_false];by_cases c1:10<x.1.length
  · rw[if_pos c1,show decide (((x.1.length:Nat):Int)>10)=true by simp only[decide_eq_true_eq];omega];rfl
  rw[if_neg c1,show decide (((x.1.length:Nat):Int)>10)=false by simp only[decide_eq_false_iff_not];omega,cond_false,qj6 x hx];by_cases c2:qs (tErr x.1) x.1.length=0
  rotate_left
  · rw[if_neg c2,if_pos c2]
  rw[if_pos c2,if_neg (fun h=>h c2)];by_cases c3:x.2.2.2.1<0∨3<x.2.2.2.1
  · rw[if_pos c3,show(decide (x.2.2.2.1<0)||decide (x.2.2.2.1>3))=true by simp only[Bool.or_eq_true,decide_eq_true_eq];omega];rfl
  rw[if_neg c3,show(decide (x.2.2.2.1<0)||decide (x.2.2.2.1>3))=false by simp only[Bool.or_eq_false_iff,decide_eq_false_iff_not];omega,cond_false];by_cases hc1:60<x.2.1.size
  · have:cErr x.2.1=2:=by unfold cErr;rw[if_pos hc1]
    rw[show decide (((x.2.1.size:Nat):Int)>60)=true by simp only[decide_eq_true_eq];omega,this];rfl
  rw[show decide (((x.2.1.size:Nat):Int)>60)=false by simp only[decide_eq_false_iff_not];omega,cond_false,qgs _ _ (by omega) (by decide),Option.bind_some];cases hc2:fineT x.2.1 (ByteArray.mk #[123,125])
  · have:cErr x.2.1=3:=by unfold cErr;rw[if_neg hc1,hc2,if_pos rfl]
    rw[this];rfl
  have hc:cErr x.2.1=0:=by unfold cErr;rw[if_neg hc1,hc2,if_neg (by decide)]
  simp only[hc,ne_eq,not_true,if_false,Bool.not_true,cond_false];have h3:=qmy hr x hx h30 (Option.bind (iterW (qo x) ((0,()),())) (Sum.elim (fun x28=>some 0) some)) x.2.2.1.length 0 (by omega) (fun i hi=>by omega);refine h3.trans ?_;show(if qs (nErr r x.2.2.1) x.2.2.1.length=0 then _ else some (qs (nErr r x.2.2.1) x.2.2.1.length))=some (qs (nErr r x.2.2.1) x.2.2.1.length);by_cases c5:qs (nErr r x.2.2.1) x.2.2.1.length=0
  · rw[if_pos c5,qnF x (by omega) (ord_of c5) hdp,c5];rfl
  · rw[if_neg c5]

theorem qnn (f:Fo) (w:List Mv) (c:ByteArray):(w,c)∈wfF [] f↔∃t,t<szF f∧w=wayM (preF (-1) 0 f) (t:Int)∧c=rcom (preF (-1) 0 f) t:=by
  rw[←qe2 f,List.mem_map];constructor
  · rintro ⟨t,ht,e⟩
    cases e;exact⟨t,List.mem_range.1 ht,rfl,rfl⟩
  · rintro ⟨t,ht,rfl,rfl⟩
    exact⟨t,List.mem_range.2 ht,rfl⟩
theorem mg_from {fx fy:Fo} (hx:Dis fx) (hy:Dis fy) {w:List Mv} {c:ByteArray} (h:(w,c)∈wfF [] (mgF fy fx)):(∃c',(w,c')∈wfF [] fx∨(w,c')∈wfF [] fy)∧((w,c)∈wfF [] fx∨(w,c)∈wfF [] fy):=by
  obtain⟨t,hw,ht⟩:=(qcy _ [] w c (qjw fy fx hy hx)).1 h;subst hw;rw[qkM fy fx w hy hx] at ht;have ix:∀c',lookF fx w=some c'→(w,c')∈wfF [] fx:=fun c' h=>(qcy fx [] _ c' hx).2 ⟨w,rfl,h⟩;have iy:∀c',lookF fy w=some c'→(w,c')∈wfF [] fy:=fun c' h=>(qcy fy [] _ c' hy).2 ⟨w,rfl,h⟩;have key:lookF fx w=some c∨lookF fy w=some c:=by
    cases h1:lookF fx w with
    | none=>rw[h1] at ht;exact .inr ht
    | some a =>
      cases h2:lookF fy w with
      | none=>rw[h1,h2] at ht;exact .inl ht
      | some b =>
        rw[h1,h2] at ht;simp only[combF,Option.some.injEq] at ht;split at ht
        · exact .inr (by rw[ht])
        · exact .inl (by rw[ht])
  rcases key with h | h
  · exact⟨⟨c,.inl (ix c h)⟩,.inl (ix c h)⟩
  · exact⟨⟨c,.inr (iy c h)⟩,.inr (iy c h)⟩
theorem qgH {r:Rules} {ns:List RNode} {i:Nat} (h:nErr r ns i=0):cErr (rcom ns i)=0∧gErr r (wayM ns (i:Int))=0∧twinB ns i=false:=by
  unfold nErr at h;split at h
  · contradiction
  · rename_i h1;split at h
    · cases h
    · split at h
      · cases h
      · rename_i h3;exact⟨by simpa using h1,h,by simpa using h3⟩
theorem mg_nErr {r:Rules} {fx fy:Fo} (hx:Dis fx) (hy:Dis fy) (ex:∀i,i<szF fx→nErr r (preF (-1) 0 fx) i=0) (ey:∀i,i<szF fy→nErr r (preF (-1) 0 fy) i=0) :
    ∀i,i<szF (mgF fy fx)→nErr r (preF (-1) 0 (mgF fy fx)) i=0:=fun i hi=>by
  have hm:=mg_from hx hy ((qnn (mgF fy fx) _ _).2 ⟨i,hi,rfl,rfl⟩);have ho:=qp9 (mgF fy fx) i (by rw[qu];exact hi);have ht:=pre_twin (mgF fy fx) (qjw fy fx hy hx) i hi;have key:cErr (rcom (preF (-1) 0 (mgF fy fx)) i)=0∧gErr r (wayM (preF (-1) 0 (mgF fy fx)) (i:Int))=0:=by
    rcases hm.2 with h | h
    · obtain⟨t,h1,h2,h3⟩:=(qnn fx _ _).1 h;obtain⟨p1,p2,_⟩:=qgH (ex t h1);exact⟨by rw[h3];exact p1,by rw[h2];exact p2⟩
    · obtain⟨t,h1,h2,h3⟩:=(qnn fy _ _).1 h;obtain⟨p1,p2,_⟩:=qgH (ey t h1);exact⟨by rw[h3];exact p1,by rw[h2];exact p2⟩
  unfold nErr;rw[if_neg (fun h=>h key.1),if_neg (by rw[ho];decide),if_neg (by rw[ht];decide)];exact key.2
theorem qle {ns:List RNode} (hd:Down ns ns.length) {i:Nat} (hi:i<ns.length):wayM ns (i:Int)=wayM ns (rpar ns i)++[rmv ns i]:=by
  unfold wayM;rw[qaE (by omega) (hd.mono (by omega)),List.map_cons,List.reverse_cons,Int.toNat_natCast]
theorem mg_node {fx fy:Fo} (hx:Dis fx) (hy:Dis fy) {i:Nat} (hi:i<szF (mgF fy fx)):(∃t,t<szF fx∧rmv (preF (-1) 0 (mgF fy fx)) i=rmv (preF (-1) 0 fx) t∧rcom (preF (-1) 0 (mgF fy fx)) i=rcom (preF (-1) 0 fx) t) ∨
    ∃t,t<szF fy∧rmv (preF (-1) 0 (mgF fy fx)) i=rmv (preF (-1) 0 fy) t∧rcom (preF (-1) 0 (mgF fy fx)) i=rcom (preF (-1) 0 fy) t:=by
  have hm:=mg_from hx hy ((qnn (mgF fy fx) _ _).2 ⟨i,hi,rfl,rfl⟩);have hl:=qle (qea (mgF fy fx)) (i:=i) (by rw[qu];exact hi);rcases hm.2 with h | h
  · obtain⟨t,h1,h2,h3⟩:=(qnn fx _ _).1 h;rw[hl,qle (qea fx) (i:=t) (by rw[qu];exact h1)] at h2;have:=(List.append_inj' h2 rfl).2;exact .inl ⟨t,h1,by simpa using this,h3⟩
  · obtain⟨t,h1,h2,h3⟩:=(qnn fy _ _).1 h;rw[hl,qle (qea fy) (i:=t) (by rw[qu];exact h1)] at h2;have:=(List.append_inj' h2 rfl).2;exact .inr ⟨t,h1,by simpa using this,h3⟩
theorem mg_rng {fx fy:Fo} (hx:Dis fx) (hy:Dis fy) (rx:∀d∈preF (-1) 0 fx,Rng qpA d) (ry:∀d∈preF (-1) 0 fy,Rng qpA d) (hs:szF (mgF fy fx)≤1000):∀d∈preF (-1) 0 (mgF fy fx),Rng qpA d:=fun d hd=>by
  obtain⟨i,hi,rfl⟩:=List.mem_iff_getElem.1 hd;have hi':=hi;rw[qu] at hi';obtain⟨n1,n2,n3⟩:=qbN hi;have ho:=qp9 (mgF fy fx);have hdn:=ho.down i hi;have hlo:=ho.low i hi;have ex:∀ {f:Fo} {t:Nat},(∀d∈preF (-1) 0 f,Rng qpA d)→t<szF f→Rng tyMv (rmv (preF (-1) 0 f) t)∧(rcom (preF (-1) 0 f) t).size≤Go.maxLen:=fun {f t} hr ht=>by
    have hl:t<(preF (-1) 0 f).length:=by rw[qu];exact ht
    have:=hr _ (List.getElem_mem hl);obtain⟨q1,q2,q3⟩:=qbN hl;rw[←q2,←q3];exact⟨this.2.1,this.2.2.1⟩
  have key:Rng tyMv (rmv (preF (-1) 0 (mgF fy fx)) i)∧(rcom (preF (-1) 0 (mgF fy fx)) i).size≤Go.maxLen:=by
    rcases mg_node hx hy hi' with ⟨t,h1,h2,h3⟩ | ⟨t,h1,h2,h3⟩
    · rw[h2,h3];exact ex rx h1
    · rw[h2,h3];exact ex ry h1
  rw[←n2,←n3] at key;have hp:Rng (.int .i64) (preF (-1) 0 (mgF fy fx))[i].1:=by
    rw[n1];refine⟨?_,?_⟩
    · show IntKind.min .i64≤_;rw[show IntKind.min .i64 = -9223372036854775808 from rfl];omega
    · show _≤IntKind.max .i64;rw[show IntKind.max .i64=9223372036854775807 from rfl];omega
  exact⟨hp,key.1,key.2,trivial⟩

def zeroR:Rec:=([],((ByteArray.mk #[]),([],(0,()))))
def qcJ (x:Rec) (t:RTag):Bool:=!(x.1.any fun u=>u.1.toList==t.1.toList)
def mgR (x y:Rec) (f:Fo):Rec:=(x.1++y.1.filter (qcJ x),((bif (x.2.1.toList==(ByteArray.mk #[]).toList) then y.2.1 else x.2.1),(preF (-1) 0 f,((bif (x.2.2.2.1==0) then y.2.2.2.1 else x.2.2.2.1),()))))
theorem tagL3 (x:Rec) (hl:x.1.length≤1000000) (t:RTag):Option.bind (iterW (qaA x t) (((0:Int),()),())) (Sum.elim (fun x140=>some (((false,()),()):(Bool×Unit)×Unit)) some)=some ((!(qcJ x t),()),()):=by
  have:=qt x.1 (fun u=>u.1.toList==t.1.toList) (qaA x t) (.inr ((true,()),())) (.inl ((),())) (fun i hi=>by
    unfold qaA;simp only[show decide ((i:Int)<((x.1.length:Nat):Int))=true by simp;omega,cond_true];rw[qbj _ _ hi,Option.bind_some,show decide ((i:Int)≥0)=true by simp,qg (n:=(i:Int)+1) (by omega) (by omega)]
    cases (x.1[i].1.toList==t.1.toList)<;>rfl) (by unfold qaA;simp)
  rw[this,Option.bind_some];unfold qcJ
  cases x.1.any (fun u=>u.1.toList==t.1.toList)<;>rfl
theorem tagL2 (x y:Rec) (hx:x.1.length≤10) (hy:y.1.length≤10) (c:ByteArray) (ns:List RNode) (e:Int):∀(ts pre tags:List RTag),y.1=pre++ts→tags.length+ts.length≤1000 →
    iterW (qV y x) ((((pre.length:Nat):Int),()),((tags,(c,(ns,(e,())))),()))=some ((),((tags++ts.filter (qcJ x),(c,(ns,(e,())))),()))
  | [],pre,tags,hr,hl=>by
    refine qh ?_;unfold qV;simp only[hr,List.append_nil,show decide (((pre.length:Nat):Int)<((pre.length:Nat):Int))=false by simp,cond_false,List.filter_nil]
  | t::ts,pre,tags,hr,hl=>by
    have hpl:pre.length<y.1.length:=by rw[hr];simp
    have hat:at? y.1 ((pre.length:Nat):Int)=some t:=by
      rw[qbj _ _ hpl];simp only[hr];rw[List.getElem_append_right (Nat.le_refl _)];simp
    have hstep:qV y x ((((pre.length:Nat):Int),()),((tags,(c,(ns,(e,())))),()))=some (.inl (((((pre++[t]).length:Nat):Int),()),(((bif qcJ x t then tags++[t] else tags),(c,(ns,(e,())))),()))):=by
      unfold qV;simp only[show decide (((pre.length:Nat):Int)<((y.1.length:Nat):Int))=true by simp;exact hpl,cond_true];rw[hat,Option.bind_some,tagL3 x (by omega) t,Option.bind_some,qg (n:=((pre.length:Nat):Int)+1) (by omega) (by omega)];simp only[List.length_append,List.length_singleton,Bool.not_not];cases qcJ x t
      · rfl
      · simp only[cond_true];rw[qR (by simp only[List.length_cons] at hl;omega),qd];rfl
    rw[ql hstep,tagL2 x y hx hy c ns e ts (pre++[t]) _ (by rw[hr,List.append_assoc];rfl) (by simp only[List.length_cons] at hl;cases qcJ x t<;>simp only[cond_true,cond_false,List.length_append,List.length_singleton]<;>omega)]
    rw[List.filter_cons];cases qcJ x t
    · rfl
    · simp only[cond_true,if_true,List.append_assoc];rfl
theorem qsB (s:List RTag) (h:s.length≤1000):qb s=some s:=by
  unfold qb;rw[qR (by simp only[List.length_nil];omega),qd,List.nil_append]
  cases s with
  | nil=>simp[agree]
  | cons _ _=>rfl
theorem qrQ {r:Rules} (hr:Rng qX r) (x y:Rec) (hx:Rng tyRec x) (hy:Rng tyRec y) (h30:x.2.2.1.length≤30) (h31:y.2.2.1.length≤30) (z:Rec) :
    iterW (qD r x y) ((0,()),(z,()))=some (if qP r x≠0 then .inr (zeroR,(qP r x,())) else if qP r y≠0 then .inr (zeroR,(qP r y,())) else .inl ((),(z,()))):=by
  obtain⟨x1,x2,x3,x4,⟨⟩⟩:=x;obtain⟨y1,y2,y3,y4,⟨⟩⟩:=y;have ex:=qhQ hr _ hx h30;have ey:=qhQ hr _ hy h31;by_cases c:qP r (x1,x2,x3,x4,())=0
  · rw[if_neg (fun h=>h c),ql (y:=((1,()),(z,())))]
    · by_cases d:qP r (y1,y2,y3,y4,())=0
      · rw[if_neg (fun h=>h d),ql (y:=((2,()),(z,()))),qh (r := .inl ((),(z,())))]
        · unfold qD;rfl
        · have:qD r (x1,x2,x3,x4,()) (y1,y2,y3,y4,()) ((1,()),(z,()))=Option.bind (qal r (y1,y2,y3,y4,())) fun r5=>bif (r5 !=0) then some (.inr (.inr (zeroR,(r5,())))) else some (.inl ((w64 (1+1),()),(z,()))):=rfl;rw[this,ey,d];rfl
      · rw[if_pos d,qh (r := .inr (zeroR,(qP r (y1,y2,y3,y4,()),())))];have:qD r (x1,x2,x3,x4,()) (y1,y2,y3,y4,()) ((1,()),(z,()))=Option.bind (qal r (y1,y2,y3,y4,())) fun r5=>bif (r5 !=0) then some (.inr (.inr (zeroR,(r5,())))) else some (.inl ((w64 (1+1),()),(z,()))):=rfl;rw[this,ey,Option.bind_some,bne_t d,cond_true]
    · have:qD r (x1,x2,x3,x4,()) (y1,y2,y3,y4,()) ((0,()),(z,()))=Option.bind (qal r (x1,x2,x3,x4,())) fun r5=>bif (r5 !=0) then some (.inr (.inr (zeroR,(r5,())))) else some (.inl ((w64 (0+1),()),(z,()))):=rfl;rw[this,ex,c];rfl
  · rw[if_pos c,qh (r := .inr (zeroR,(qP r (x1,x2,x3,x4,()),())))];have:qD r (x1,x2,x3,x4,()) (y1,y2,y3,y4,()) ((0,()),(z,()))=Option.bind (qal r (x1,x2,x3,x4,())) fun r5=>bif (r5 !=0) then some (.inr (.inr (zeroR,(r5,())))) else some (.inl ((w64 (0+1),()),(z,()))):=rfl;rw[this,ex,Option.bind_some,bne_t c,cond_true]
set_option maxHeartbeats 2000000

theorem qlW {r:Rules} {x:Rec} (h:qP r x=0):x.1.length≤10:=by
  unfold qP at h;split at h
  · contradiction
  · split at h
    · cases h
    · omega
theorem mergeI_ok {r:Rules} (hr:Rng qX r) (x y:Rec) (hx:Rng tyRec x) (hy:Rng tyRec y) (h30:x.2.2.1.length≤30) (h31:y.2.2.1.length≤30) (c:qP r x=0) (d:qP r y=0) (fx fy:Fo) (ex:x.2.2.1=preF (-1) 0 fx) (ey:y.2.2.1=preF (-1) 0 fy)
    (hz:Rng tyRec (mgR x y (mgF fy fx))):qaJ r x y=some (if qbu r (mgR x y (mgF fy fx))≠0 then(zeroR,(qbu r (mgR x y (mgF fy fx)),())) else(mgR x y (mgF fy fx),(0,()))):=by
  have lx:szF fx=x.2.2.1.length:=by rw[ex,qu]
  have ly:szF fy=y.2.2.1.length:=by rw[ey,qu]
  have lz:=ql4 fy fx;obtain⟨w1,ns1,xs,t1,t2,t3,t4⟩:=qo3 x fx ex (List.replicate (((x.2.2.1.length:Nat):Int)).toNat (0:Nat)) [] (by rw[List.length_replicate];omega) (by simp;omega);simp only[List.length_nil,Nat.zero_add] at t2 t4;obtain⟨w2,ns2,ys,u1,u2,u3,u4⟩:=qo3 y fy ey (List.replicate (((y.2.2.1.length:Nat):Int)).toNat (0:Nat)) ns1 (by rw[List.length_replicate];omega) (by omega);obtain⟨ns3,zs,Q,v1,v2⟩:=qsE fy fx (fun z=>z≤ns2.length) ns2 xs ys (t4.mono (fun z h0 h=>by omega) (fun z h0 h=>u3 z h0 h.2)) (u4.mono (fun z h0 h=>h.2) (fun _ _ _=>rfl)) (fun _ h=>h) (by omega);have f1:=flat_spec (mgF fy fx) Q ns3 zs v2 (by omega);have htx:=qlW c;have hty:=qlW d;have k1:=qsB x.1 (by omega);have m1:=qrQ hr x y hx hy h30 h31 zeroR
  rw[if_neg (fun h=>h c),if_neg (fun h=>h d)] at m1;have room_n:∀n:Nat,n≤1000→(decide (0≤((n:Nat):Int))&&((((n:Nat):Int)==((n:Nat):Int))&&room (((n:Nat):Int)).toNat 8))=true:=fun n hn=>by
    rw[beq_self_eq_true,qR (by omega)];simp
  unfold qaJ;have m1:iterW (qD r x y) (((0:Int),()),((([]:List RTag),((ByteArray.mk #[]),(([]:List RNode),((0:Int),())))),()))=_:=m1;rw[m1];simp only[Option.bind_some,Sum.elim_inl];rw[room_n _ (by omega),qd];have t1:qcG (List.replicate (((x.2.2.1.length:Nat):Int)).toNat (0:Nat)) ([]:ArB) x (-1:Int)=_:=t1;rw[t1,Option.bind_some,room_n _ (by omega),qd];simp only;rw[u1,Option.bind_some];simp only[v1,Option.bind_some,k1,f1,agree_self];have lc:=tagL2 x y htx hty;have hsz:=qoP hr (mgR x y (mgF fy fx)) hz (by show(preF (-1) 0 (mgF fy fx)).length≤200;rw[qu];omega)
  have fin:∀(cc:ByteArray) (rr:Int),cc=(bif (x.2.1.toList==(ByteArray.mk #[]).toList) then y.2.1 else x.2.1)→rr=(bif (x.2.2.2.1==0) then y.2.2.2.1 else x.2.2.2.1) →
      (Option.bind (iterW (qV y x) (((0:Int),()),((x.1,(cc,(preF (-1) 0 (mgF fy fx),(rr,())))),()))) fun x143=>Option.bind (qde r (x143.2.1.1,(x143.2.1.2.1,(x143.2.1.2.2.1,x143.2.1.2.2.2)))) fun r144=>some r144) =
      some (if qbu r (mgR x y (mgF fy fx))≠0 then(zeroR,(qbu r (mgR x y (mgF fy fx)),())) else(mgR x y (mgF fy fx),(0,()))):=fun cc rr hc hrr=>by
    have l2:=lc cc (preF (-1) 0 (mgF fy fx)) rr y.1 [] x.1 rfl (by omega);have l2:iterW (qV y x) (((0:Int),()),((x.1,(cc,(preF (-1) 0 (mgF fy fx),(rr,())))),()))=_:=l2;rw[l2,Option.bind_some]
    have hmg:(x.1++y.1.filter (qcJ x),(cc,(preF (-1) 0 (mgF fy fx),(rr,()))))=mgR x y (mgF fy fx):=by rw[hc,hrr];rfl
    simp only;rw[hmg];unfold qde;rw[hsz,Option.bind_some];by_cases e:qbu r (mgR x y (mgF fy fx))=0
    · rw[if_neg (fun h=>h e),e];rfl
    · rw[if_pos e,bne_t e,cond_true];rfl
  cases hc:(x.2.1.toList==(ByteArray.mk #[]).toList)<;>cases hrr:(x.2.2.2.1==(0:Int))<;>simp only[cond_true,cond_false,Option.bind_some,hrr]<;>exact fin _ _ (by rw[hc];rfl) (by rw[hrr];rfl)

def okT (pre:List RTag):List RTag→Prop
  | []=>True
  | t::ts=>tErrD pre t=0∧okT (pre++[t]) ts
theorem okT_iff:∀(ts pre:List RTag),okT pre ts↔∀i (h:i<ts.length),tErrD (pre++ts.take i) ts[i]=0
  | [],pre=>⟨fun _ i h=>by simp at h,fun _=>trivial⟩
  | t::ts,pre=>by
    simp only[okT,okT_iff ts];constructor
    · rintro ⟨h1,h2⟩ i hi
      cases i with
      | zero=>simpa using h1
      | succ i =>
        have:=h2 i (by simpa using hi);simpa using this
    · intro h;have h0:tErrD (pre++[]) t=0:=h 0 (by simp);refine⟨by rwa [List.append_nil] at h0,fun i hi=>?_⟩;have:=h (i+1) (by simpa using hi);simpa using this
theorem okT_firstNZ {ts:List RTag}:qs (tErr ts) ts.length=0↔okT [] ts:=by
  rw[okT_iff];constructor
  · intro h i hi;have:=qaP h i hi
    rwa [qnH _ _ hi] at this
  · exact fun h=>qlI fun i hi=>by rw[qnH _ _ hi];exact h i hi
theorem qmI:∀(a pre b:List RTag),okT pre a→okT (pre++a) b→okT pre (a++b)
  | [],pre,b,_,h=>by simpa using h
  | t::a,pre,b,⟨h1,h2⟩,h=>⟨h1,qmI a (pre++[t]) b h2 (by simpa using h)⟩
theorem qmT (x:Rec):∀(ts pre:List RTag),okT pre ts→okT (x.1++pre.filter (qcJ x)) (ts.filter (qcJ x))
  | [],_,_=>trivial
  | t::ts,pre,⟨h1,h2⟩=>by
    have ih:=qmT x ts (pre++[t]) h2;rw[List.filter_append,List.filter_cons,List.filter_nil] at ih;rw[List.filter_cons];cases hn:qcJ x t
    · rw[hn] at ih;simpa using ih
    · rw[hn] at ih;simp only[if_true] at ih ⊢;refine⟨?_,by rwa [List.append_assoc]⟩;unfold tErrD at h1 ⊢;by_cases e1:qeq t.1=false
      · rw[if_pos e1] at h1;cases h1
      rw[if_neg e1] at h1 ⊢;by_cases e2:40<t.2.1.size
      · rw[if_pos e2] at h1;cases h1
      rw[if_neg e2] at h1 ⊢;by_cases e3:fineT t.2.1 (ByteArray.mk #[34])=false
      · rw[if_pos e3] at h1;cases h1
      rw[if_neg e3] at h1 ⊢;by_cases e4:pre.any (fun u=>u.1.toList==t.1.toList)=true
      · rw[if_pos e4] at h1;cases h1
      rw[if_neg];rw[List.any_append,Bool.or_eq_true]
      rintro (h | h)
      · unfold qcJ at hn;rw[h] at hn;cases hn
      · rw[List.any_eq_true] at h;obtain⟨u,hu,he⟩:=h;exact e4 (List.any_eq_true.2 ⟨u,(List.mem_filter.1 hu).1,he⟩)
theorem qsg (f:Nat→Int) (n:Nat):qs f n=0∨∃i,i<n∧qs f n=f i:=by
  have key:∀k i:Nat,scan (fun i=>nz (f i)) 0 i k=0∨∃j,j<i+k∧scan (fun i=>nz (f i)) 0 i k=f j:=by
    intro k
    induction k with
    | zero=>exact fun i => .inl rfl
    | succ k ih =>
      intro i;rw[qjQ];by_cases e:f i=0
      · rw[if_pos e];rcases ih (i+1) with h | ⟨j,hj,h⟩
        · exact .inl h
        · exact .inr ⟨j,by omega,h⟩
      · rw[if_neg e];exact .inr ⟨i,by omega,rfl⟩
  rcases key n 0 with h | ⟨j,hj,h⟩
  · exact .inl h
  · exact .inr ⟨j,by omega,h⟩
structure RecG (r:Rules) (x:Rec):Prop where
  rule:qw r=0
  few:x.1.length≤10
  tags:okT [] x.1
  res:0≤x.2.2.2.1∧x.2.2.2.1≤3
  com:cErr x.2.1=0
  nodes:∀i,i<x.2.2.1.length→nErr r x.2.2.1 i=0
theorem recG_of {r:Rules} {x:Rec} (h:qP r x=0):RecG r x:=by
  unfold qP at h;by_cases c1:qw r=0
  rotate_left
  · rw[if_pos c1] at h;exact absurd h c1
  rw[if_neg (fun h=>h c1)] at h;by_cases c2:10<x.1.length
  · rw[if_pos c2] at h;cases h
  rw[if_neg c2] at h;by_cases c3:qs (tErr x.1) x.1.length=0
  rotate_left
  · rw[if_pos c3] at h;exact absurd h c3
  rw[if_neg (fun h=>h c3)] at h;by_cases c4:x.2.2.2.1<0∨3<x.2.2.2.1
  · rw[if_pos c4] at h;cases h
  rw[if_neg c4] at h;by_cases c5:cErr x.2.1=0
  rotate_left
  · rw[if_pos c5] at h;exact absurd h c5
  rw[if_neg (fun h=>h c5)] at h;exact⟨c1,by omega,okT_firstNZ.1 c3,by omega,c5,qaP h⟩
theorem qsR {r:Rules} {x y:Rec} {fx fy:Fo} (gx:RecG r x) (gy:RecG r y) (ex:x.2.2.1=preF (-1) 0 fx) (ey:y.2.2.1=preF (-1) 0 fy) (hx:Dis fx) (hy:Dis fy):qbu r (mgR x y (mgF fy fx))=0∨qbu r (mgR x y (mgF fy fx))=2:=by
  have ht:qs (tErr (mgR x y (mgF fy fx)).1) (mgR x y (mgF fy fx)).1.length=0:=okT_firstNZ.2 (qmI _ _ _ gx.tags (by simpa using qmT x y.1 [] gy.tags));have hres:¬((mgR x y (mgF fy fx)).2.2.2.1<0∨3<(mgR x y (mgF fy fx)).2.2.2.1):=by
    have h1:=gx.res;have h2:=gy.res;show ¬((bif (x.2.2.2.1==0) then y.2.2.2.1 else x.2.2.2.1)<0∨3<(bif (x.2.2.2.1==0) then y.2.2.2.1 else x.2.2.2.1))
    cases (x.2.2.2.1==0)<;>simp only[cond_true,cond_false]<;>omega
  have hcom:cErr (mgR x y (mgF fy fx)).2.1=0:=by
    show cErr (bif (x.2.1.toList==(ByteArray.mk #[]).toList) then y.2.1 else x.2.1)=0;cases (x.2.1.toList==(ByteArray.mk #[]).toList)
    · exact gx.com
    · exact gy.com
  have hn:∀i,i<szF (mgF fy fx)→nErr r (preF (-1) 0 (mgF fy fx)) i=0:=mg_nErr hx hy (fun i hi=>by rw[←ex];exact gx.nodes i (by rw[ex,qu];exact hi)) (fun i hi=>by rw[←ey];exact gy.nodes i (by rw[ey,qu];exact hi));unfold qbu;rw[if_neg (fun h=>h gx.rule)];by_cases c2:10<(mgR x y (mgF fy fx)).1.length
  · rw[if_pos c2];exact .inr rfl
  rw[if_neg c2,if_neg (fun h=>h ht),if_neg hres,if_neg (fun h=>h hcom)];rcases qsg (nErrX r (mgR x y (mgF fy fx)).2.2.1) (mgR x y (mgF fy fx)).2.2.1.length with h | ⟨i,hi,h⟩
  · exact .inl h
  · rw[h];have hi:i<szF (mgF fy fx):=by
      have:i<(preF (-1) 0 (mgF fy fx)).length:=hi
      rwa [qu] at this
    have h0:nErr r (mgR x y (mgF fy fx)).2.2.1 i=0:=hn i hi;unfold nErrX;rw[if_neg (fun h=>h h0)];split
    · exact .inr rfl
    · exact .inl rfl
theorem rng_mg {x y:Rec} {fx fy:Fo} (rx:Rng tyRec x) (ry:Rng tyRec y) (hx10:x.1.length≤10) (hy10:y.1.length≤10) (h30:x.2.2.1.length≤30) (h31:y.2.2.1.length≤30) (ex:x.2.2.1=preF (-1) 0 fx) (ey:y.2.2.1=preF (-1) 0 fy) (hx:Dis fx) (hy:Dis fy):Rng tyRec (mgR x y (mgF fy fx)):=by
  have lx:szF fx=x.2.2.1.length:=by rw[ex,qu]
  have ly:szF fy=y.2.2.1.length:=by rw[ey,qu]
  have lz:=ql4 fy fx;have hfl:=List.length_filter_le (qcJ x) y.1;refine⟨⟨?_,fun t ht=>?_⟩,?_,⟨?_,mg_rng hx hy (by rw[←ex];exact rx.2.2.1.2) (by rw[←ey];exact ry.2.2.1.2) (by omega)⟩,?_,trivial⟩
  · show(x.1++y.1.filter (qcJ x)).length≤Go.maxLen;rw[List.length_append];exact Nat.le_trans (show _≤20 by omega) (by decide)
  · have ht:t∈x.1++y.1.filter (qcJ x):=ht;rcases List.mem_append.1 ht with h | h
    · exact rx.1.2 t h
    · exact ry.1.2 t (List.mem_filter.1 h).1
  · show(bif (x.2.1.toList==(ByteArray.mk #[]).toList) then y.2.1 else x.2.1).size≤Go.maxLen;cases (x.2.1.toList==(ByteArray.mk #[]).toList)
    · exact rx.2.1
    · exact ry.2.1
  · show(preF (-1) 0 (mgF fy fx)).length≤Go.maxLen;rw[qu];exact Nat.le_trans (show _≤60 by omega) (by decide)
  · show Rng (.int .i64) (bif (x.2.2.2.1==0) then y.2.2.2.1 else x.2.2.2.1);cases (x.2.2.2.1==(0:Int))
    · exact rx.2.2.2.1
    · exact ry.2.2.2.1
end Go.Proofs.YthidcmjpbokeeaaGreat
