/- Several texts in one: GameP, GameQ, RetN, RetO, TopPuzzleL. -/
import Derived.Test.YtkkoolcdonhoaaaGreatDoorMAD
import Derived.Test.YtkkoolcdonhoaaaGreatDoorMAF
namespace Go.Proofs.YtkkoolcdonhoaaaGreatDoor
open Go.Den
set_option linter.unusedVariables false
set_option linter.unusedSimpArgs false
set_option maxRecDepth 100000

theorem pl_eta (p:Place):(p.1,((p.2.1.1,(p.2.1.2.1,())),p.2.2))=p:=rfl
theorem gd_eq {A:Type} (xs:List A) (i:Nat) (hi:i<xs.length) (d:A):getD' xs i d=xs[i]:=by simp[getD',hi]
theorem ltd {A:Type} (xs:List A) (i:Nat) (hi:i<xs.length):decide ((i:Int)<((xs.length:Nat):Int))=true:=by simp;omega
theorem nltd {A:Type} (xs:List A):decide (((xs.length:Nat):Int)<((xs.length:Nat):Int))=false:=by simp
theorem inbN {A:Type} (xs:List A) (i:Nat) (hi:i<xs.length):inb (i:Int) xs.length=true:=inb_iff.2 ⟨by omega,by omega⟩
theorem qqj (a b:List Int) (ha:a.length≤1000000000):qbs a b=some (decide (a=b)):=by
  unfold qbs;by_cases hl:a.length=b.length
  · have e:(((a.length:Nat):Int)!=((b.length:Nat):Int))=false:=bne_f (by omega);rw[e,cond_false]
    have hL:=qcO (List.range a.length) (fun i=>a.getD i 0 !=b.getD i 0) (qbS a b) (.inr false) (.inl ((),())) (fun i hi=>by
      have hi':i<a.length:=by simpa using hi
      unfold qbS;simp only[show decide ((i:Int)<((a.length:Nat):Int))=true by simp;omega,cond_true,List.getElem_range];rw[at?_eq a _ (by omega) (by omega),at?_eq b _ (by omega) (by omega),Option.bind_some,Option.bind_some,qk (n:=(i:Int)+1) (by omega) (by omega)];simp only[Int.toNat_natCast,List.getD_eq_getElem?_getD,List.getElem?_eq_getElem hi',List.getElem?_eq_getElem (show i<b.length by omega),Option.getD_some]
      cases (a[i]!=b[i])<;>rfl) (by unfold qbS;simp)
    rw[hL]
    cases hany:(List.range a.length).any (fun i=>a.getD i 0 !=b.getD i 0) with
    | true =>
      rw[List.any_eq_true] at hany;obtain⟨i,_,h⟩:=hany
      have:¬a=b:=fun e=>by subst e;simp at h
      simp[this]
    | false =>
      rw[List.any_eq_false] at hany;have:a=b:=by
        apply List.ext_getElem hl;intro i h1 h2;have:=hany i (List.mem_range.2 h1);simpa[List.getD_eq_getElem?_getD,h1,h2] using this
      simp[this]
  · have e:(((a.length:Nat):Int)!=((b.length:Nat):Int))=true:=bne_t (by omega);rw[e,cond_true];have:¬a=b:=fun h=>hl (by rw[h]);simp[this]
def same0 (p q:Place):Bool:=((decide (p.1=q.1)&&decide (p.2.1.1=q.2.1.1))&&decide (p.2.1.2.1=q.2.1.2.1))&&(p.2.2.1==q.2.2.1)
theorem same_spec {r:Rules} {p q:Place} (h:Valid r p):qg0 p q=some (same0 p q):=by
  have h64:=qch h;have t6:=h.r0.t6;have l0:p.2.1.1.length=r.pieces.length:=h.l0;have l1:p.2.1.2.1.length=r.pieces.length:=h.l1;unfold qg0 same0;rw[qqj _ _ (by omega),qqj _ _ (by omega),qqj _ _ (by omega)]
  have hg:∀b c:Bool,gopt b false (some c)=some (b&&c):=fun b c=>by cases b<;>rfl
  simp only[hg,Option.bind_some,Option.some.injEq]
  cases decide (p.1=q.1)<;>cases decide (p.2.1.1=q.2.1.1)<;>cases decide (p.2.1.2.1=q.2.1.2.1)<;>cases (p.2.2.1==q.2.2.1)<;>rfl
theorem qrZ {r:Rules} {p:Place} (h:Valid r p):qbY p=some p:=by
  have h64:=qch h;have t6:=h.r0.t6;have l0:p.2.1.1.length=r.pieces.length:=h.l0;have l1:p.2.1.2.1.length=r.pieces.length:=h.l1;unfold qbY;simp only[agree_self];rw[qeL _ (by omega),Option.bind_some,qeL _ (by omega),Option.bind_some,qeL _ (by omega)];rfl
theorem qrW (s:List (Int×Int×Int×Int×Unit)) (h:s.length≤1000000):qbC s=some s:=by
  unfold qbC;have:room (([]:List (Int×Int×Int×Int×Unit)).length+s.length) 32=true:=qav (by simp;omega);rw[this]
  cases s with
  | nil=>simp[qi,agree_self]
  | cons a l=>simp[qi]
theorem qsk (s:List (Int×Int×Int×Bool×Unit)) (h:s.length≤1000000):qa4 s=some s:=by
  unfold qa4;have:room (([]:List (Int×Int×Int×Bool×Unit)).length+s.length) 32=true:=qav (by simp;omega);rw[this]
  cases s with
  | nil=>simp[qi,agree_self]
  | cons a l=>simp[qi]
theorem qjX {r:Rules} (h:VR0 r):qaw r=some r:=by
  have t6:r.2.2.2.1.length≤6:=h.t6;have e6:r.2.2.2.2.2.2.2.1.length≤6:=h.ends6;have hs:((r.2.2.2.2.1.length:Nat):Int)=r.width*r.height:=h.start;have ha:=h.area;unfold qaw;simp only[agree_self]
  have hL:=qZ (f:=qdz r) r.2.2.2.1.length (fun i=>(((i:Int),()),((r.1,(r.2.1,(r.2.2.1,(r.2.2.2.1.take i,r.2.2.2.2)))),()))) ((),((r.1,(r.2.1,(r.2.2.1,(r.2.2.2.1,r.2.2.2.2)))),())) (fun i hi=>by
    unfold qdz;simp only[show decide ((i:Int)<((r.2.2.2.1.length:Nat):Int))=true by simp;omega,cond_true];rw[at?_eq _ _ (by omega) (by omega),Option.bind_some];simp only[Int.toNat_natCast];rw[qrW _ (by have:r.2.2.2.1[i].2.2.2.1.length≤16:=h.ways _ (List.getElem_mem hi);omega),Option.bind_some];have hroom:∀z:Piece,room ((r.2.2.2.1.take i).length+[z].length) 48=true:=fun z=>qav (by simp;omega);rw[hroom,qi,qk (n:=(i:Int)+1) (by omega) (by omega),List.take_succ_eq_append_getElem hi]
    rfl) (by
    unfold qdz
    simp only[show decide (((r.2.2.2.1.length:Nat):Int)<((r.2.2.2.1.length:Nat):Int))=false by simp,cond_false,List.take_length])
  have hL':iterW (qdz r) (((0:Int),()),((r.1,(r.2.1,(r.2.2.1,(([]:List Piece),r.2.2.2.2)))),()))=_:=hL;rw[hL',Option.bind_some,qeL _ (by omega),Option.bind_some,qsk _ (by omega)];rfl
def dP:Place:=([],(([],([],())),((0:Int),((0:Int),()))))
def lastP (l:List Place):Place:=getD' l (l.length-1) dP
def qpY (l:List Place):Nat:=l.countP fun p=>same0 p (lastP l)
def qkh (r:Rules) (l:List Place):Int:=bif ((qm r (lastP l)==0)&&(r.repeats !=0))&&decide (((qpY l:Nat):Int)≥r.repeats) then 3 else qm r (lastP l)
structure OKG (r:Rules) (s:List Place×List Mv):Prop where
  ok:qaT r=0
  all:∀p∈s.1,Valid r p
  len:s.1.length=s.2.length+1
  most:s.2.length≤400
theorem last_mem {l:List Place} (h:0<l.length):lastP l∈l:=by
  unfold lastP;rw[gd_eq l (l.length-1) (by omega)];exact List.getElem_mem _
theorem OKG.last {r:Rules} {s:List Place×List Mv} (h:OKG r s):Valid r (lastP s.1):=h.all _ (last_mem (by have:=h.len;omega))
def stepG (r:Rules) (s:List Place×List Mv) (m:Mv):Int:=if qkh r s.1=0 then if qN r (lastP s.1) m=true then if s.2.length=400 then 9 else 0 else 13 else 14
def nextG (r:Rules) (s:List Place×List Mv) (m:Mv):List Place×List Mv:=(s.1++[qd r (lastP s.1) m],s.2++[m])
theorem next_ok {r:Rules} {s:List Place×List Mv} {m:Mv} (h:OKG r s) (c:stepG r s m=0):OKG r (nextG r s m):=by
  unfold stepG at c;by_cases c1:qkh r s.1=0
  · rw[if_pos c1] at c;by_cases c2:qN r (lastP s.1) m=true
    · rw[if_pos c2] at c;by_cases c3:s.2.length=400
      · rw[if_pos c3] at c;cases c
      · have hl:=h.len;have hm:=h.most;refine⟨h.ok,fun p hp=>?_,by unfold nextG;simp;omega,by unfold nextG;simp;omega⟩;rcases List.mem_append.1 hp with hp | hp
        · exact h.all p hp
        · rw[List.mem_singleton.1 hp];exact qic h.last c2
    · rw[if_neg c2] at c;cases c
  · rw[if_neg c1] at c;cases c
theorem qq5 {A:Type} {L:List A} (h0:0<L.length) (h:L.length≤1000000000):w64 (((L.length:Nat):Int)-1)=((L.length-1:Nat):Int):=by
  rw[qk (by omega) (by omega)];omega
abbrev Game:=Rules×List Place×List Mv×Unit
theorem atP {L:List Place} (h0:0<L.length):at? L ((L.length-1:Nat):Int)=some (lastP L):=by
  rw[at?_eq _ _ (by omega) (by omega)];unfold lastP;rw[gd_eq L _ (by omega)];simp
theorem qpR {r:Rules} {s:List Place×List Mv} (h:OKG r s):qdv (r,(s.1,(s.2,())))=some ((qpY s.1:Nat):Int):=by
  obtain⟨l,ms⟩:=s;have hl:l.length=ms.length+1:=h.len;have hm:ms.length≤400:=h.most;have hw:=qq5 (L:=l) (by omega) (by omega)
  have:=qm5 l (fun p=>same0 p (lastP l)) (qcj (r,(l,(ms,())))) (fun c=>((c,()),())) (fun i hi c hc0 hc1=>by
    unfold qcj;simp only[agree_self];rw[ltd l i hi,cond_true,at?_eq l _ (by omega) (by omega),Option.bind_some,hw,atP (by omega),Option.bind_some];simp only[Int.toNat_natCast];rw[same_spec (h.all _ (List.getElem_mem hi)),Option.bind_some,Option.bind_some];show Option.bind (bif same0 l[i] (lastP l) then _ else _) _=_;rw[qk (n:=c+1) (by omega) (by omega),qk (n:=(i:Int)+1) (by omega) (by omega)];cases same0 l[i] (lastP l)<;>rfl) (fun c=>by
    unfold qcj;simp only
    rw[nltd,cond_false])
  unfold qdv;rw[this];rfl
theorem qkK {r:Rules} {s:List Place×List Mv} (h:OKG r s):qbx (r,(s.1,(s.2,())))=some (qkh r s.1):=by
  have hl:=h.len;have hm:=h.most;have hw:=qq5 (L:=s.1) (by omega) (by omega);have hrep:r.2.2.2.2.2.2.2.2.2.2.1=r.repeats:=rfl;unfold qbx;simp only[agree_self,hw,atP (show 0<s.1.length by omega),qb5 h.last,Option.bind_some,qpR h,hrep];unfold qkh
  cases hc:((qm r (lastP s.1)==0)&&(r.repeats !=0)) with
  | true =>
    simp only[gopt,cond_true,Option.bind_some,Bool.true_and]
    cases decide (((qpY s.1:Nat):Int)≥r.repeats)<;>rfl
  | false=>rfl
theorem qmD {r:Rules} {s:List Place×List Mv} (h:OKG r s):qbr (r,(s.1,(s.2,())))=some (lastP s.1):=by
  have hl:=h.len;have hm:=h.most;have hw:=qq5 (L:=s.1) (by omega) (by omega);unfold qbr;simp only[hw,atP (show 0<s.1.length by omega),qrZ h.last,Option.bind_some,pl_eta]
theorem play_spec {r:Rules} {s:List Place×List Mv} (h:OKG r s) (m:Mv):qcR (r,(s.1,(s.2,()))) m=some (if stepG r s m=0 then((r,((nextG r s m).1,((nextG r s m).2,()))),0) else((r,(s.1,(s.2,()))),stepG r s m)):=by
  obtain⟨l,ms⟩:=s;have hl:l.length=ms.length+1:=h.len;have hm:ms.length≤400:=h.most;have hv:=h.last;simp only at hv;have hw:=qq5 (L:=l) (by omega) (by omega);have hi:=inbN l (l.length-1) (by omega);have hla:getD' l (l.length-1) (([],(([],([],())),((0:Int),((0:Int),())))):Place)=lastP l:=rfl;have hres:=qkK h;simp only at hres;unfold qcR;simp only[agree_self,hw,hi,qi,Int.toNat_natCast,hla,hres,Option.bind_some];unfold stepG;by_cases c1:qkh r l=0
  · rw[bne_f c1,cond_false];simp only[if_pos c1];rw[qdG hv,Option.bind_some,qsv _ _ (by have:=qS hv;omega),Option.bind_some,Option.bind_some]
    have hmem:decide (m∈qc r (lastP l))=qN r (lastP l) m:=by rw[Bool.eq_iff_iff,decide_eq_true_eq,qin]
    rw[hmem];by_cases c2:qN r (lastP l) m=true
    · simp only[if_pos c2];rw[c2,Bool.not_true,cond_false];by_cases c3:ms.length=400
      · rw[beq_t (by omega),cond_true];simp only[if_pos c3];rfl
      · rw[beq_f (by omega),cond_false,qbJ hv c2,Option.bind_some];simp only[if_neg c3,if_true];have hroom:∀z:Place,room (l.length+[z].length) 88=true:=fun z=>qav (by simp;omega);have hroom2:room (ms.length+[m].length) 24=true:=qav (by simp;omega);rw[hroom,qi,Option.bind_some];simp only;rw[hroom2,qi];rfl
    · simp only[if_neg c2];rw[show qN r (lastP l) m=false by simpa using c2];rfl
  · rw[bne_t c1,cond_true];simp only[if_neg c1];rfl
def runG (r:Rules):List Mv→List Place×List Mv→(List Place×List Mv) ⊕ Int
  | [],s => .inl s
  | m::k,s=>if stepG r s m=0 then runG r k (nextG r s m) else .inr (stepG r s m)
theorem run_ok {r:Rules}:∀(k:List Mv) (s s':List Place×List Mv),OKG r s→runG r k s = .inl s'→OKG r s'∧s'.2=s.2++k
  | [],s,s',h,e=>by cases e;exact⟨h,by simp⟩
  | m::k,s,s',h,e=>by
    unfold runG at e;split at e
    · rename_i c;obtain⟨a,b⟩:=run_ok k _ _ (next_ok h c) e;refine⟨a,?_⟩;rw[b];unfold nextG;simp
    · cases e
def flG (g:Game):ByteArray×Int×Int×(List (Int×Int×Int×(List (Int×Int×Int×Int×Unit))×Unit))×(List Int)×Bool×Bool×(List (Int×Int×Int×Bool×Unit))×Int×Int×Int×(List Place)×(List Mv)×Unit :=
  (g.1.1,(g.1.2.1,(g.1.2.2.1,(g.1.2.2.2.1,(g.1.2.2.2.2.1,(g.1.2.2.2.2.2.1,(g.1.2.2.2.2.2.2.1,(g.1.2.2.2.2.2.2.2.1,(g.1.2.2.2.2.2.2.2.2.1,(g.1.2.2.2.2.2.2.2.2.2.1,(g.1.2.2.2.2.2.2.2.2.2.2.1,(g.2.1,(g.2.2.1,())))))))))))))
def gm (r:Rules) (s:List Place×List Mv):Game:=(r,(s.1,(s.2,())))
theorem qpa {r:Rules} {T R:Type} (l:List Mv) (hlen:l.length≤1000000000) (f:T→Option (T ⊕ R)) (st:Int→Game→T) (bad:Int→R) (fin:List Place×List Mv→R)
    (hf:∀i s,f (st i (gm r s))=bif (decide (i<((l.length:Nat):Int))) then(Option.bind (at? l i) fun m=>Option.bind (qcR (r,(s.1,(s.2,()))) m) fun x=>bif (x.2 !=0) then some (.inr (bad x.2)) else some (.inl (st (w64 (i+1)) x.1))) else some (.inr (fin s))) :
    ∀(k:Nat) (i:Nat) (s:List Place×List Mv),i+k=l.length→OKG r s→iterW f (st (i:Int) (gm r s))=some (match runG r (l.drop i) s with
      | .inl s'=>fin s'
      | .inr e=>bad e)
  | 0,i,s,hi,h=>by
    have:i=l.length:=by omega
    subst this;refine qn ?_;rw[hf,nltd,cond_false,List.drop_length];rfl
  | k+1,i,s,hi,h=>by
    have hil:i<l.length:=by omega
    have hL:=hf (i:Int) s;rw[ltd l i hil,cond_true,at?_eq l _ (by omega) (by omega),Option.bind_some,play_spec h,Option.bind_some] at hL;simp only[Int.toNat_natCast] at hL;rw[List.drop_eq_getElem_cons hil];unfold runG;by_cases c:stepG r s l[i]=0
    · rw[if_pos c] at hL;simp only[bne_self_eq_false,cond_false] at hL;rw[qk (by omega) (by omega)] at hL;rw[qx hL,if_pos c];exact qpa l hlen f st bad fin hf k (i+1) _ (by omega) (next_ok h c)
    · rw[if_neg c] at hL;simp only[bne_t c,cond_true] at hL;rw[qn hL,if_neg c]
theorem qpB {r:Rules} (c:qaT r=0):OKG r ([qcv r],[]):=⟨c,fun p hp=>by rw[List.mem_singleton.1 hp];exact qh4 (qbH c),rfl,by simp⟩
def gameOf (r:Rules) (l:List Mv):(List Place×List Mv) ⊕ Int:=runG r l ([qcv r],[])
abbrev FlP:=List Int×List Int×List Int×Int×Int×Unit
def flp (p:Place):FlP:=(p.1,(p.2.1.1,(p.2.1.2.1,p.2.2)))
def runRes (r:Rules) (l:List Mv):Place×Int×Int×Unit:=if qaT r=0 then(match gameOf r l with
    | .inl s=>(lastP s.1,(qkh r s.1,(0,())))
    | .inr e=>(dP,(0,(e,())))) else(dP,(0,(qaT r,())))
theorem run_spec (r:Rules) (l:List Mv) (hr:Rng qb7 r) (hl:l.length≤1000000000):qiK r l=some (runRes r l):=by
  unfold qiK runRes;rw[qj9 r hr,Option.bind_some];by_cases c:qaT r=0
  · simp only[if_pos c];rw[show((0:Int)!=0)=false from rfl,cond_false];simp only[agree_self];rw[qjX (qbH c),Option.bind_some];have hP:=qpa (r:=r) l hl (qh0 l) (fun i g=>((i,()),(flp dP,(flG g,())))) (fun e => .inr (dP,(0,(e,())))) (fun s => .inl ((),(flp dP,(flG (gm r s),()))))
      (fun i s=>by rfl) l.length 0 ([qcv r],[]) (by omega) (qpB c)
    rw[List.drop_zero] at hP;have hP':iterW (qh0 l) (((0:Int),()),((([]:List Int),(([]:List Int),(([]:List Int),((0:Int),((0:Int),()))))),(r.1,(r.2.1,(r.2.2.1,(r.2.2.2.1,(r.2.2.2.2.1,(r.2.2.2.2.2.1,(r.2.2.2.2.2.2.1,(r.2.2.2.2.2.2.2.1,(r.2.2.2.2.2.2.2.2.1,(r.2.2.2.2.2.2.2.2.2.1,(r.2.2.2.2.2.2.2.2.2.2.1,([((qcv r).1,(((qcv r).2.1.1,((qcv r).2.1.2.1,())),(qcv r).2.2))],(([]:List Mv),()))))))))))))),()))=_:=hP
    try simp only[Option.bind_some,bne_self_eq_false,cond_false]
    rw[hP',Option.bind_some];unfold gameOf
    cases hg:runG r l ([qcv r],[]) with
    | inr e=>rfl
    | inl s =>
      have hok:=(run_ok l _ _ (qpB c) hg).1;simp only[Sum.elim_inl];change Option.bind (qbr (r,(s.1,(s.2,())))) (fun r16=>Option.bind (qbx (r,(s.1,(s.2,())))) fun r17=>some ((r16.1,((r16.2.1.1,(r16.2.1.2.1,())),r16.2.2)),(r17,((0:Int),()))))=_;rw[qmD hok,Option.bind_some,qkK hok,Option.bind_some]
  · simp only[if_neg c];rw[bne_t c,cond_true,cond_true];rfl

theorem qql (r:Rules) (p:Place) (hr:Rng qb7 r) (hn:p.1.length≤9223372036854775807):qm9 r p=some (if qP r p=0 then qm r p else 0,qP r p,()):=by
  unfold qm9;rw[qfy r p hr hn,Option.bind_some];by_cases c:qP r p=0
  · rw[bne_f c,cond_false,if_pos c,qb5 (qhs c),c];rfl
  · rw[bne_t c,cond_true,if_neg c]

def decP:DecidableEq Place:=inferInstance
def decLP:DecidableEq (List Place):=@instDecidableEqList Place decP
def x0 (r:Rules):List Place×List (List Int)×Mp:=(addL [] [] (qcv r),([],addM [] [] (qcv r)))
theorem pi_nil (r:Rules):PI r [] []:=⟨fun p hp=>absurd hp (by simp),fun k=>⟨fun i hi=>(by cases hi),fun ⟨p,hp,_⟩=>absurd hp (by simp)⟩,fun a b ha hb _=>absurd ha (Nat.not_lt_zero _)⟩
theorem ti_x0 {r:Rules} (h:qaT r=0):TI r 0 (x0 r):=by
  have hv:=qh4 (qbH h);refine⟨(pi_nil r).add hv,rfl,Nat.zero_le _,?_,fun k hk=>absurd hk (Nat.not_lt_zero _)⟩;have:=(qhl [] [] (qcv r)).2;show(addL [] [] (qcv r)).length≤3000;have h0:([]:List Place).length=0:=rfl;omega
theorem tab_of {r:Rules} (h:qaT r=0) (hq:r.quiet=0) {f:Nat} {l:List Place} {nx:List (List Int)} {m:Mp} (hn:newF r f 0 (x0 r)=some (l,(nx,m))):Tab r l nx m:=⟨newF_ok f 0 _ _ (ti_x0 h) hn,hq⟩
abbrev two:Rules:=qa
abbrev twoB:Place:=([0,0],(([2],([2],())),((0:Int),((0:Int),()))))
abbrev twoP:Place:=([1,0],(([1],([2],())),((1:Int),((0:Int),()))))
abbrev twoQ:Place:=([1,2],(([1],([1],())),((0:Int),((0:Int),()))))
abbrev twoL:List Place:=[twoB,twoP,([0,1],(([1],([2],())),((1:Int),((0:Int),())))),twoQ,([2,1],(([1],([1],())),((0:Int),((0:Int),()))))]
abbrev twoN:List (List Int):=[[1,2],[3],[4],[],[]]
def twoM:Mp:=((newF qa 6 0 (x0 qa)).map fun y=>y.2.2).getD []
abbrev twoE:List En:=[((2:Int),((2:Int),())),(2,(1,())),(2,(1,())),(2,(0,())),(2,(0,()))]
abbrev twoA:Mv:=((-1:Int),((0:Int),((0:Int),())))
abbrev twoD:Mv:=((-1:Int),((1:Int),((0:Int),())))
theorem qdH:Rng qb7 two:=qkd _ _ (by decide +kernel)
theorem qhY:qaT two=0:=by decide +kernel
theorem two_q:two.quiet=0:=rfl
theorem two_newL:((newF two 6 0 (x0 two)).map fun y=>y.1).getD []=twoL:=@of_decide_eq_true _ (decLP _ _) (by decide +kernel)
theorem two_newN:((newF two 6 0 (x0 two)).map fun y=>y.2.1)=some twoN:=by decide +kernel
theorem qpS:newF two 6 0 (x0 two)=some (twoL,(twoN,twoM)):=by
  have h:=two_newL;have h2:=two_newN;unfold twoM
  cases e:newF two 6 0 (x0 two) with
  | none=>rw[e] at h2;cases h2
  | some y =>
    obtain⟨a,b,c⟩:=y;rw[e] at h h2;have h':a=twoL:=h;have h2':some b=some twoN:=h2;subst h';cases h2';rfl
theorem two_tab:Tab two twoL twoN twoM:=tab_of qhY two_q qpS
theorem two_solve:qku twoL twoN twoL.length 1 (qbw two twoL)=twoE:=by decide +kernel
theorem two_begin:qcv two=twoB:=by decide +kernel
theorem qqF {i:Nat} (hi:i<twoL.length):Valid two twoL[i]:=(two_tab.pos hi).1
theorem ql3 {p:Place} (h:Valid two p):qP two p=0:=qnZ h qhY
theorem qrq:qc two twoB=[twoA,twoD]:=by decide +kernel
theorem two_m1:qc two twoP=[twoD]:=by decide +kernel
theorem two_r0:qm two twoB=0:=by decide +kernel
theorem two_r1:qm two twoP=0:=by decide +kernel
theorem two_r2:qm two twoQ=2:=by decide +kernel
theorem two_a0:qd two twoB twoA=twoP:=by decide +kernel
theorem two_a1:qd two twoP twoD=twoQ:=by decide +kernel
theorem two_t2:treeN two 2 twoB≤50000:=by decide +kernel
theorem two_t5:treeN two 5 twoB≤50000:=by decide +kernel
theorem two_t3:treeN two 3 twoB≤50000:=by decide +kernel
theorem two_t1:treeN two 1 twoB≤50000:=by decide +kernel
theorem two_s2:qa2 two 2 twoB = -998:=by decide +kernel
theorem two_w0:(qc two twoB).filter (winP two 0 twoB)=[]:=by decide +kernel
theorem two_w1:(qc two twoB).filter (winP two 1 twoB)=[]:=by decide +kernel
theorem two_w2:(qc two twoB).filter (winP two 2 twoB)=[]:=by decide +kernel
theorem two_run:runRes two [twoA,twoD]=(twoQ,((2:Int),((0:Int),()))):=by decide +kernel
theorem qjF:Valid two twoB:=qqF (i:=0) (by decide)
theorem two_b1:Valid two twoP:=qqF (i:=1) (by decide)
theorem two_b2:Valid two twoQ:=qqF (i:=3) (by decide)
theorem two_n:twoB.1.length≤9223372036854775807:=by decide
theorem two_e2:qa3 two twoB 2=0:=qgr (ql3 qjF) rfl (by show ¬50000<treeN two 2 twoB;have:=two_t2;omega)
theorem two_score:qag two twoB 2=some (-998,(0,())):=by
  rw[qsr _ _ _ qdH two_n,if_pos two_e2];show some (qa2 two 2 twoB,_)=_;rw[two_s2]
theorem two_z (d:Nat) (hd:d≤2) (h:treeN two (2*(d:Int)+1).toNat twoB≤50000):pzErr two twoB d=0:=by
  rw[pz_eq (ql3 qjF) two_r0];exact qgr (ql3 qjF) (okDepth_iff.2 ⟨by omega,by omega⟩) (by omega)
theorem two_least:qaO two twoB=some ((0:Int),((8:Int),())):=by
  have h0:=qd0 two twoB qdH two_n (d:=0) (by omega);have h1:=qd0 two twoB qdH two_n (d:=1) (by omega);have h2:=qd0 two twoB qdH two_n (d:=2) (by omega);rw[if_pos (two_z 0 (by omega) two_t1),two_w0] at h0;rw[if_pos (two_z 1 (by omega) two_t3),two_w1] at h1;rw[if_pos (two_z 2 (by omega) two_t5),two_w2] at h2;exact qsu h0 h1 h2
theorem two_plain:qiK two [twoA,twoD]=some (twoQ,((2:Int),((0:Int),()))):=by
  rw[run_spec two _ qdH (by decide),two_run]
theorem two_of:qm9 two twoB=some ((0:Int),((0:Int),())):=by
  rw[qql two twoB qdH two_n,if_pos (ql3 qjF),two_r0,ql3 qjF]
theorem two_all:qdu two twoB=some ([twoA,twoD],((0:Int),())):=by
  rw[qru two twoB qdH two_n,if_pos (ql3 qjF),qrq,ql3 qjF]
theorem two_at:qah (two,(twoL,(twoN,(twoE,(twoM,()))))) 0=some ((two,(twoL,(twoN,(twoE,(twoM,()))))),(twoB,((2,(2,())),((0:Int),())))):=two_tab.at (i:=0) (by decide) rfl
theorem two_get:qbZ (two,(twoL,(twoN,(twoE,(twoM,()))))) twoB=some ((two,(twoL,(twoN,(twoE,(twoM,()))))),((2,(2,())),((0:Int),()))):=of_fact (two_tab.find qdH qhY (i:=0) (by decide)) rfl
theorem two_best0:qQ (two,(twoL,(twoN,(twoE,(twoM,()))))) twoB=some ((two,(twoL,(twoN,(twoE,(twoM,()))))),([twoA,twoD],((0:Int),()))):=by
  have h:=two_tab.best qdH qhY (i:=0) (es:=twoE) (by decide) rfl (a:=2) (b:=2) rfl (by decide) (by decide) two_r0 (by show qc two twoB≠[];rw[qrq];decide) (keep:=fun _=>true) (fun t ht=>by
    have ht':t<(qc two twoB).length:=ht;rw[qrq] at ht'
    match t,ht' with
    | 0,_=>exact⟨1,rfl,by decide,rfl⟩
    | 1,_=>exact⟨2,rfl,by decide,rfl⟩)
  have e:(qc two twoL[0]).filter (fun _=>true)=[twoA,twoD]:=by
    show(qc two twoB).filter _=_;rw[qrq];rfl
  rw[e] at h;exact h
theorem two_best1:qQ (two,(twoL,(twoN,(twoE,(twoM,()))))) twoP=some ((two,(twoL,(twoN,(twoE,(twoM,()))))),([twoD],((0:Int),()))):=by
  have h:=two_tab.best qdH qhY (i:=1) (es:=twoE) (by decide) rfl (a:=2) (b:=1) rfl (by decide) (by decide) two_r1 (by show qc two twoP≠[];rw[two_m1];decide) (keep:=fun _=>true) (fun t ht=>by
    have ht':t<(qc two twoP).length:=ht;rw[two_m1] at ht'
    match t,ht' with
    | 0,_=>exact⟨3,rfl,by decide,rfl⟩)
  have e:(qc two twoL[1]).filter (fun _=>true)=[twoD]:=by
    show(qc two twoP).filter _=_;rw[two_m1];rfl
  rw[e] at h;exact h
theorem two_best2:qQ (two,(twoL,(twoN,(twoE,(twoM,()))))) twoQ=some ((two,(twoL,(twoN,(twoE,(twoM,()))))),([],((14:Int),()))):=by
  have z:((0:Int)!=0)=false:=rfl;have hf:qaF (two,(twoL,(twoN,(twoE,(twoM,()))))) twoQ=some ((two,(twoL,(twoN,(twoE,(twoM,()))))),(((3:Nat):Int),((0:Int),()))):=two_tab.find qdH qhY (i:=3) (by decide);have hin:inb ((3:Nat):Int) twoL.length=true:=rfl;have hp:getD' twoL ((3:Nat):Int).toNat eP=twoQ:=rfl
  have he:qaC two twoQ=some []:=by rw[qaX two_b2,qnj (by rw[two_r2];decide)]
  have hl:(((([]:List Mv).length:Nat):Int)==0)=true:=rfl;unfold qQ;simp only[hf,Option.bind_some,z,cond_false,hin,qi,hp,he,hl,cond_true]

section
variable {r r' : Rules} {l : List Place} {nx : List (List Int)} {es : List En} {m : Mp} {most j e c : Int} {p q : Place} {w acc : List Mv} {mv : Mv}
theorem pl_step {y} (hm:decide (j<most)=true) (hB:qQ (r,(l,(nx,(es,(m,()))))) p=some ((r,(l,(nx,(es,(m,()))))),(w,((0:Int),())))) (hin:inb (0:Int) w.length=true) (hw:getD' w 0 dM=mv) (hroom:room (acc.length+[mv].length) 24=true) (hmk:qp r' p mv=some q) :
    qaM most (r',y) ((acc,(j,())),(flT r l nx es m,(flp p,())))=some (.inl ((acc++[mv],(w64 (j+1),())),(flT r l nx es m,(flp q,())))):=by
  have z:((0:Int)!=0)=false:=rfl;obtain⟨r1,r2,r3,r4,r5,r6,r7,r8,r9,r10,r11,⟨⟩⟩:=r;obtain⟨p1,⟨p2,p3,⟨⟩⟩,⟨p4,p5,⟨⟩⟩⟩:=p;obtain⟨q1,⟨q2,q3,⟨⟩⟩,⟨q4,q5,⟨⟩⟩⟩:=q;simp only[flT,flp];unfold qaM;simp only[hm,cond_true,hB,Option.bind_some,z,cond_false,hin,qi,hw,hroom,hmk]
theorem pl_stop {y} (hm:decide (j<most)=true) (hB:qQ (r,(l,(nx,(es,(m,()))))) p=some ((r,(l,(nx,(es,(m,()))))),([],(e,())))) (he:(e !=0)=true) :
    qaM most (r',y) ((acc,(j,())),(flT r l nx es m,(flp p,())))=some (.inr ((acc,()),(flT r l nx es m,(flp p,())))):=by
  obtain⟨r1,r2,r3,r4,r5,r6,r7,r8,r9,r10,r11,⟨⟩⟩:=r;obtain⟨p1,⟨p2,p3,⟨⟩⟩,⟨p4,p5,⟨⟩⟩⟩:=p;simp only[flT,flp];unfold qaM;simp only[hm,cond_true,hB,Option.bind_some,he]
theorem line_fact {g:En} (ho:qbZ (r,(l,(nx,(es,(m,()))))) p=some ((r,(l,(nx,(es,(m,()))))),(g,((0:Int),())))) (hm:(decide (most<0)||decide (most>256))=false)
    (hL:iterW (qaM most (r',((r,(l,(nx,(es,(m,()))))),(((),((),(c,()))),())))) (([],((0:Int),())),(flT r l nx es m,(flp p,())))=some ((w,()),(flT r l nx es m,(flp q,())))) :
    qb1 (r',((r,(l,(nx,(es,(m,()))))),(((),((),(c,()))),()))) p most=some ((r',((r,(l,(nx,(es,(m,()))))),(((),((),(c,()))),()))),(w,((0:Int),()))):=by
  have z:((0:Int)!=0)=false:=rfl;obtain⟨r1,r2,r3,r4,r5,r6,r7,r8,r9,r10,r11,⟨⟩⟩:=r;obtain⟨p1,⟨p2,p3,⟨⟩⟩,⟨p4,p5,⟨⟩⟩⟩:=p;simp only[flT,flp] at hL;unfold qb1;simp only[agree_self,ho,Option.bind_some,z,cond_false,hm,hL]
end
theorem two_line:qb1 (two,((two,(twoL,(twoN,(twoE,(twoM,()))))),(((),((),((0:Int),()))),()))) twoB 9=some ((two,((two,(twoL,(twoN,(twoE,(twoM,()))))),(((),((),((0:Int),()))),()))),([twoA,twoD],((0:Int),()))):=by
  refine line_fact (q:=twoQ) two_get rfl ?_;rw[qx (pl_step (mv:=twoA) (q:=twoP) rfl two_best0 rfl rfl rfl (by rw[qbJ qjF (by decide +kernel),two_a0]))];have w1:w64 (0+1)=1:=rfl;rw[w1,qx (pl_step (mv:=twoD) (q:=twoQ) rfl two_best1 rfl rfl rfl (by rw[qbJ two_b1 (by decide +kernel),two_a1]))];exact qn (pl_stop rfl two_best2 rfl)
theorem two_add:qu (two,([],([],([],([],()))))) twoB=some ((two,((x0 two).1,([],([],((x0 two).2.2,()))))),numOf [] [] twoB):=qfH qjF (by decide)
theorem two_L7:iterW qK (((0:Int),()),(flT two (x0 two).1 [] [] (x0 two).2.2,()))=some (.inl ((),(flT two twoL twoN [] twoM,()))):=qqO 6 0 (x0 two) _ (ti_x0 qhY) qpS
theorem two_L3:iterW qD (((0:Int),()),(flT two (x0 two).1 [] [] (x0 two).2.2,()))=some (.inl ((),(flT two twoL twoN [] twoM,()))):=qrB 6 0 (x0 two) _ (ti_x0 qhY) qpS
theorem qrP:qH (two,(twoL,(twoN,([],(twoM,())))))=some ((two,(twoL,(twoN,(twoE,(twoM,()))))),()):=by
  rw[qmI two_tab.wf (fun p hp=>(two_tab.ti.pi.val p hp).1),two_solve]
theorem two_copy:qaw two=some two:=qjX (qbH qhY)
theorem two_bg:qar two=some (twoB,((0:Int),())):=by
  rw[qj9 two qdH,if_pos qhY,two_begin]
theorem qdh:qa5=some true:=by
  have z:((0:Int)!=0)=false:=rfl;have hq:((two.2.2.2.2.2.2.2.2.2.1:Int)!=0)=false:=rfl;have h3:=two_L3;have h7:=two_L7;have a1:=two_bg;have a2:=two_copy;have a3:=two_add;have a4:=qrP;have a5:=two_at;have a6:=two_score;have a7:=two_line;have a8:=two_plain;have a9:=two_least;have b1:=two_of;have b2:=two_all;have f2:qh [(0:Int),0]=some true:=qnt _ (by decide) (by decide);have f6:qh [(0:Int),0,0,0,0,0]=some true:=qnt _ (by decide) (by decide);unfold flT at h3 h7;unfold two at hq h3 h7 a1 a2 a3 a4 a5 a6 a7 a8 a9 b1 b2;unfold qa5;generalize qa=r at hq h3 h7 a1 a2 a3 a4 a5 a6 a7 a8 a9 b1 b2 ⊢;obtain⟨r1,r2,r3,r4,r5,r6,r7,r8,r9,r10,r11,⟨⟩⟩:=r;simp only at hq h3 h7
  simp only[a1,Option.bind_some,z,cond_false,hq,a2,a3,h7,h3,Sum.elim_inl,a4,f2,Bool.not_true,Bool.or_self,a5,agree_self,a6,a7,a8,a9,b1,b2,f6];rfl
end Go.Proofs.YtkkoolcdonhoaaaGreatDoor
namespace Go.Proofs.YtkkoolcdonhoaaaGreatDoor
open Go.Den
set_option linter.unusedVariables false
set_option linter.unusedSimpArgs false
set_option maxRecDepth 100000

section
variable {r : Rules} {picks : List Int} {l l0 : List Place} {nx : List (List Int)} {es : List En} {m m0 : Mp} {n : Int} {p : Place} {e : Int}
theorem tp_wide (hg:(decide (w64 (r.2.1*r.2.2.1)>9)||decide (((r.2.2.2.1.length:Nat):Int)>3))=true):qw r picks=some true:=by
  unfold qw;simp only[qdh,Option.bind_some,Bool.not_true,cond_false,hg,cond_true]
theorem tp_bad (hg:(decide (w64 (r.2.1*r.2.2.1)>9)||decide (((r.2.2.2.1.length:Nat):Int)>3))=false) (hb:qar r=some (p,(e,()))) (he:(e !=0)=true):qw r picks=some true:=by
  unfold qw;simp only[qdh,Option.bind_some,Bool.not_true,cond_false,hg,hb,he,cond_true,Bool.or_true]
theorem tp_quiet (hg:(decide (w64 (r.2.1*r.2.2.1)>9)||decide (((r.2.2.2.1.length:Nat):Int)>3))=false) (hb:qar r=some (p,((0:Int),()))) (hq:(r.2.2.2.2.2.2.2.2.2.1 !=(0:Int))=true):qw r picks=some true:=by
  have z:((0:Int)!=0)=false:=rfl;unfold qw;simp only[qdh,Option.bind_some,Bool.not_true,cond_false,hg,hb,z,hq,cond_true]
theorem tp_big (hg:(decide (w64 (r.2.1*r.2.2.1)>9)||decide (((r.2.2.2.1.length:Nat):Int)>3))=false) (hb:qar r=some (p,((0:Int),()))) (hq:(r.2.2.2.2.2.2.2.2.2.1 !=(0:Int))=false) (hc:qaw r=some r)
    (ha:qu (r,([],([],([],([],()))))) p=some ((r,(l0,([],([],(m0,()))))),n)) (hL:iterW qv (((0:Int),()),(flT r l0 [] [] m0,()))=some (.inr true)):qw r picks=some true:=by
  have z:((0:Int)!=0)=false:=rfl;obtain⟨r1,r2,r3,r4,r5,r6,r7,r8,r9,r10,r11,⟨⟩⟩:=r;obtain⟨p1,⟨p2,p3,⟨⟩⟩,⟨p4,p5,⟨⟩⟩⟩:=p;simp only[flT] at hL;unfold qw;simp only[qdh,Option.bind_some,Bool.not_true,cond_false,hg,hb,z,hq,hc,ha,hL,Sum.elim_inr]
theorem tp_size (hg:(decide (w64 (r.2.1*r.2.2.1)>9)||decide (((r.2.2.2.1.length:Nat):Int)>3))=false) (hb:qar r=some (p,((0:Int),()))) (hq:(r.2.2.2.2.2.2.2.2.2.1 !=(0:Int))=false) (hc:qaw r=some r)
    (ha:qu (r,([],([],([],([],()))))) p=some ((r,(l0,([],([],(m0,()))))),n)) (hL:iterW qv (((0:Int),()),(flT r l0 [] [] m0,()))=some (.inl ((),(flT r l nx [] m,()))))
    (hS:qH (r,(l,(nx,([],(m,())))))=some ((r,(l,(nx,(es,(m,()))))),())) (h0:(((l.length:Nat):Int)==0)=false) (h5:decide (((l.length:Nat):Int)>500)=true):qw r picks=some true:=by
  have z:((0:Int)!=0)=false:=rfl;obtain⟨r1,r2,r3,r4,r5,r6,r7,r8,r9,r10,r11,⟨⟩⟩:=r;obtain⟨p1,⟨p2,p3,⟨⟩⟩,⟨p4,p5,⟨⟩⟩⟩:=p;simp only[flT] at hL;unfold qw;simp only[qdh,Option.bind_some,Bool.not_true,cond_false,hg,hb,z,hq,hc,ha,hL,Sum.elim_inl,hS,qg5,h0,h5,cond_true]
theorem tp_go (hg:(decide (w64 (r.2.1*r.2.2.1)>9)||decide (((r.2.2.2.1.length:Nat):Int)>3))=false) (hb:qar r=some (p,((0:Int),()))) (hq:(r.2.2.2.2.2.2.2.2.2.1 !=(0:Int))=false) (hc:qaw r=some r)
    (ha:qu (r,([],([],([],([],()))))) p=some ((r,(l0,([],([],(m0,()))))),n)) (hL:iterW qv (((0:Int),()),(flT r l0 [] [] m0,()))=some (.inl ((),(flT r l nx [] m,()))))
    (hS:qH (r,(l,(nx,([],(m,())))))=some ((r,(l,(nx,(es,(m,()))))),())) (h0:(((l.length:Nat):Int)==0)=false) (h5:decide (((l.length:Nat):Int)>500)=false)
    (hp:qM (0:Int) (if (8:Int)<((picks.length:Nat):Int) then(8:Int) else((picks.length:Nat):Int)) picks.length=true)
    (h3:iterW (qs picks r) (((0:Int),()),(flT r l nx es m,()))=some (.inl ((),(flT r l nx es m,())))):qw r picks=some true:=by
  have z:((0:Int)!=0)=false:=rfl;obtain⟨r1,r2,r3,r4,r5,r6,r7,r8,r9,r10,r11,⟨⟩⟩:=r;obtain⟨p1,⟨p2,p3,⟨⟩⟩,⟨p4,p5,⟨⟩⟩⟩:=p;simp only[flT] at hL h3;unfold qw;simp only[qdh,Option.bind_some,Bool.not_true,cond_false,hg,hb,z,hq,hc,ha,hL,Sum.elim_inl,hS,qg5,h0,h5,hp,qi,h3]
end
theorem ps8_len (picks:List Int):(ps8 picks).length≤8:=by
  unfold ps8;rw[List.drop_zero,List.length_take]
  split<;>omega
theorem ps8_bound (picks:List Int):qM (0:Int) (if (8:Int)<((picks.length:Nat):Int) then(8:Int) else((picks.length:Nat):Int)) picks.length=true:=by
  unfold qM
  split<;>simp<;>omega
theorem qqN {r:Rules}:∀(f i:Nat) (x y:List Place×List (List Int)×Mp),newF r f i x=some y→x.1.length≤y.1.length
  | 0,i,x,y,he=>by cases he
  | f+1,i,x,y,he=>by
    unfold newF at he
    cases hp:x.1[i]? with
    | none=>rw[hp] at he;cases he;exact Nat.le_refl _
    | some p =>
      rw[hp] at he;simp only at he;split at he
      · exact Nat.le_trans (qdm r p (qe r p) (x.1,(x.2.2,[]))) (qqN f (i+1) _ y he)
      · cases he
theorem gamehalltopTopPuzzle_true (r:Rules) (picks:List Int) (hr:Rng qb7 r) (hp:Rng (.sl (.int .i64)) picks):qw r picks=some true:=by
  cases hg:(decide (w64 (r.2.1*r.2.2.1)>9)||decide (((r.2.2.2.1.length:Nat):Int)>3)) with
  | true=>exact tp_wide hg
  | false =>
    have hb:=qj9 r hr;by_cases c:qaT r=0
    · rw[if_pos c] at hb
      cases hq:(r.2.2.2.2.2.2.2.2.2.1 !=(0:Int)) with
      | true=>exact tp_quiet hg hb hq
      | false =>
        have hq0:r.quiet=0:=by
          have:¬r.2.2.2.2.2.2.2.2.2.1≠0:=fun h=>by rw[bne_t h] at hq;cases hq
          exact Decidable.not_not.1 this
        have hv:=qh4 (qbH c);have hc:=qjX (qbH c);have ha:=qfH (r:=r) (l:=[]) (nx:=[]) (es:=[]) (m:=[]) hv (Nat.zero_le _)
        cases hn:newF r 3001 0 (x0 r) with
        | none=>exact tp_big hg hb hq hc ha (qmj 3001 0 (x0 r) (ti_x0 c) (by omega) hn)
        | some y =>
          obtain⟨l,nx,m⟩:=y;have hL:=qrC (es:=[]) 3001 0 (x0 r) _ (ti_x0 c) hn;have ht:=tab_of c hq0 hn;have hwf:=ht.wf;have hS:=qmI (r:=r) (l:=l) (nx:=nx) (es0:=[]) (m:=m) hwf (fun p hp=>(ht.ti.pi.val p hp).1);have hl0:l.length≠0:=by
            have h1:(x0 r).1.length≤l.length:=qqN 3001 0 (x0 r) _ hn;have h2:(x0 r).1.length=1:=rfl;omega
          have h0:(((l.length:Nat):Int)==0)=false:=beq_f (by omega);by_cases c5:500<l.length
          · exact tp_size hg hb hq hc ha hL hS h0 (decide_eq_true (by show((l.length:Nat):Int)>500;omega))
          · obtain⟨K,hK1,hK2⟩:=qnf hwf l.length 0 (cnt_le _ _);have hK1':qku l nx l.length 1 (qbw r l)=drawM (Es r l nx K):=hK1;rw[hK1'] at hS;exact tp_go hg hb hq hc ha hL hS h0 (decide_eq_false (by show ¬((l.length:Nat):Int)>500;omega)) (ps8_bound picks) (l3_spec ht hr c hK2 hl0 (by omega) picks (ps8_len picks))
    · rw[if_neg c] at hb;exact tp_bad hg hb (bne_t c)
end Go.Proofs.YtkkoolcdonhoaaaGreatDoor
