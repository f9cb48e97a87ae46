/- Several texts in one: ClaimM, MatchF, MatchG, MatchH, MatchI, HtenP, RefA, RefB, PlaceN, RuleU, JrnA, JrnB, JrnC, TopJournalL. -/
import Derived.Test.YtlfpfiplndkofaaGreatDoorMAE
import Derived.Test.YtlfpfiplndkofaaGreatDoorMAF
import Derived.Test.YtlfpfiplndkofaaGreatDoorMAA
import Derived.Test.YtlfpfiplndkofaaGreatDoorMAD
namespace Go.Proofs.YtlfpfiplndkofaaGreatDoor
open Go.Den
set_option linter.unusedVariables false
set_option linter.unusedSimpArgs false
set_option maxRecDepth 100000

def ownB (pl c:Int):Bool:=decide (c>0)&&((w64 (c-1)).tmod 2==pl)
def kc (c:Int):Nat:=((c-1) / 2).toNat
theorem kc_eq {c:Int} (h:0<c) (h':c≤12):w64 ((w64 (c-1)).tdiv 2)=((kc c:Nat):Int):=by
  unfold kc;rw[qf (n:=c-1) (by omega) (by omega),Int.tdiv_eq_ediv_of_nonneg (by omega),qf (by omega) (by omega)];omega
theorem qxk {pl c:Int} (h:ownB pl c=true):0<c:=by
  unfold ownB at h;rw[Bool.and_eq_true,decide_eq_true_eq] at h;exact h.1
def handP (p:Place) (pl:Int):List Int:=getD' [p.2.1.1,p.2.1.2.1] pl.toNat []
def hk (p:Place) (pl:Int) (k:Nat):Int:=getD' (handP p pl) k 0
def nN (p:Place) (pl:Int) (n:Nat):Int:=((p.1.countP (ownB pl):Nat):Int)+sumN (hk p pl) n
def qcH (p:Place) (pl:Int) (n:Nat):List Nat:=(p.1.filter (ownB pl)).map kc++(List.range n).filter (fun k=>decide (hk p pl k>0))
def qdn (p:Place) (pl:Int) (n:Nat):List Int:=(qcH p pl n).map fun k:Nat=>(k:Int)
theorem handP_len {r:Rules} {p:Place} (hv:Valid r p) {pl:Int} (hpl:pl=0∨pl=1):(handP p pl).length=r.pieces.length:=by
  rcases hpl with h | h
  · subst h;exact hv.l0
  · subst h;exact hv.l1
theorem hk_rng {r:Rules} {p:Place} (hv:Valid r p) {pl:Int} (hpl:pl=0∨pl=1) (k:Nat):0≤hk p pl k∧hk p pl k≤1000:=by
  unfold hk;by_cases c:k<(handP p pl).length
  · rw[gd_eq _ k c];rcases hpl with h | h
    · subst h;exact hv.hand0 _ (List.getElem_mem (l:=p.2.1.1) (by exact c))
    · subst h;exact hv.hand1 _ (List.getElem_mem (l:=p.2.1.2.1) (by exact c))
  · simp[getD',List.getElem?_eq_none (Nat.not_lt.1 c)]
theorem qva {r:Rules} {p:Place} (hv:Valid r p):p.1.length≤64:=by
  have h1:=hv.cells;have h2:=hv.r0.area;have h3:((p.1.length:Nat):Int)=r.width*r.height:=h1;omega
theorem cell12 {r:Rules} {p:Place} (hv:Valid r p) {c:Int} (hc:c∈p.1):0≤c∧c≤2*((r.pieces.length:Nat):Int)∧c≤12:=by
  have h1:=hv.cell c hc;have h2:=hv.r0.t6;omega
theorem himp (b:Bool):imp b true=true:=by cases b<;>rfl
theorem take_le {A:Type} (q:A→Bool) (l:List A) (i:Nat):((l.take i).filter q).length≤i:=Nat.le_trans (List.length_filter_le _ _) (by simp;omega)
theorem qxX {r:Rules} {p:Place} (hv:Valid r p) {pl:Int} (hpl:pl=0∨pl=1):qke p pl=some (qdn p pl r.pieces.length,(nN p pl r.pieces.length,())):=by
  have hc64:=qva hv;have ht6:=hv.r0.t6;have hH:=handP_len hv hpl;have h1:iterW (qdd p pl) ((([]:List Int),(0:Int),(0:Int),()),())=some ((((p.1.filter (ownB pl)).map (fun c=>((kc c:Nat):Int))),(((p.1.countP (ownB pl):Nat):Int)),()),()):=by
    have:=qc9 (f:=qdd p pl) p.1.length (fun i=>((((p.1.take i).filter (ownB pl)).map (fun c=>((kc c:Nat):Int)),(((p.1.take i).countP (ownB pl):Nat):Int),(i:Int),()),())) ((((p.1.filter (ownB pl)).map (fun c=>((kc c:Nat):Int))),(((p.1.countP (ownB pl):Nat):Int)),()),()) (fun i hi=>by
      have hm:p.1[i]∈p.1:=List.getElem_mem _;have h12:=cell12 hv hm
      have hcl:(p.1.take i).countP (ownB pl)≤i:=by rw[List.countP_eq_length_filter];exact take_le _ _ _
      unfold qdd;simp only[ltd p.1 i hi,cond_true];rw[at?_eq _ _ (by omega) (by omega)];simp only[Option.bind_some,Int.toNat_natCast,himp,qb];rw[show(decide (p.1[i]>0)&&((w64 (p.1[i]-1)).tmod 2==pl))=ownB pl p.1[i] from rfl,List.take_succ_eq_append_getElem hi,List.filter_append,List.map_append,List.countP_append];rw[qf (n:=(i:Int)+1) (by omega) (by omega)]
      cases hq:ownB pl p.1[i] with
      | true =>
        have hp0:=qxk hq;rw[kc_eq hp0 h12.2.2,qf (n:=(((p.1.take i).countP (ownB pl):Nat):Int)+1) (by omega) (by omega),cond_true];rw[qS (by rw[List.length_map];have:=take_le (ownB pl) p.1 i;simp only[List.length_singleton];omega),qb];simp[hq]
      | false =>
        simp[hq]) (by
      unfold qdd
      simp only[nltd,cond_false,List.take_length])
    exact this
  have h2:iterW (qdu p pl) ((((p.1.filter (ownB pl)).map (fun c=>((kc c:Nat):Int))),(((p.1.countP (ownB pl):Nat):Int)),(0:Int),()),())=some ((qdn p pl r.pieces.length,nN p pl r.pieces.length,()),()):=by
    have hcp:p.1.countP (ownB pl)≤64:=Nat.le_trans List.countP_le_length hc64;have hfl:(p.1.filter (ownB pl)).length≤64:=Nat.le_trans (List.length_filter_le _ _) hc64
    have:=qc9 (f:=qdu p pl) r.pieces.length (fun i=>((qdn p pl i,nN p pl i,(i:Int),()),())) ((qdn p pl r.pieces.length,nN p pl r.pieces.length,()),()) (fun i hi=>by
      have hk1:=hk_rng hv hpl i;have hs:=qwR (hk p pl) 1000 i (fun j _=>hk_rng hv hpl j);unfold qdu;simp only[show getD' [p.2.1.1,p.2.1.2.1] pl.toNat []=handP p pl from rfl];simp only[ltd (handP p pl) i (by omega),cond_true];rw[at?_eq _ _ (by omega) (by omega)];simp only[Option.bind_some,Int.toNat_natCast];rw[show(handP p pl)[i]'(by omega)=hk p pl i from(gd_eq _ i (by omega) 0).symm];rw[qf (n:=(i:Int)+1) (by omega) (by omega)]
      have e1:nN p pl (i+1)=nN p pl i+hk p pl i:=by unfold nN;rw[sumN];omega
      have hn:0≤nN p pl i∧nN p pl i≤6064:=by unfold nN;omega
      have e2:qdn p pl (i+1)=bif decide (hk p pl i>0) then qdn p pl i++[(i:Int)] else qdn p pl i:=by
        unfold qdn qcH;rw[List.range_succ,List.filter_append]
        cases hq:decide (hk p pl i>0)<;>simp[hq]
      rw[e1,e2]
      cases hq:decide (hk p pl i>0) with
      | true =>
        have hl:(qdn p pl i).length≤100:=by
          unfold qdn qcH;rw[List.length_map,List.length_append,List.length_map];have:((List.range i).filter (fun k=>decide (hk p pl k>0))).length≤(List.range i).length:=List.length_filter_le _ _;rw[List.length_range] at this;omega
        rw[cond_true,qS (by simp only[List.length_singleton];omega),qb,qf (n:=nN p pl i+hk p pl i) (by omega) (by omega)];rfl
      | false =>
        have hz:hk p pl i=0:=by rw[decide_eq_false_iff_not] at hq;omega
        rw[hz,Int.add_zero]
        rfl) (by
      unfold qdu;simp only[show getD' [p.2.1.1,p.2.1.2.1] pl.toNat []=handP p pl from rfl]
      rw[show((r.pieces.length:Nat):Int)=(((handP p pl).length:Nat):Int) by rw[hH],nltd,cond_false])
    have e0:qdn p pl 0=(p.1.filter (ownB pl)).map (fun c=>((kc c:Nat):Int)):=by
      unfold qdn qcH;simp
    have e1:nN p pl 0=((p.1.countP (ownB pl):Nat):Int):=by unfold nN;simp[sumN]
    rw[←e0,←e1];exact this
  unfold qke;rw[h1,Option.bind_some,show inb pl 2=true from inb_iff.2 (by omega),qb,h2,Option.bind_some]
theorem qwY {r:Rules} {p:Place} (hv:Valid r p) {pl:Int} {k:Nat} (hk':k∈qcH p pl r.pieces.length):k<r.pieces.length:=by
  unfold qcH at hk';rcases List.mem_append.1 hk' with h | h
  · obtain⟨c,hc,e⟩:=List.mem_map.1 h;obtain⟨h1,h2⟩:=List.mem_filter.1 hc;have h3:=cell12 hv h1;have h4:=qxk h2;rw[←e];unfold kc;omega
  · exact List.mem_range.1 (List.mem_filter.1 h).1
def dQ:Piece:=(0,0,0,[],())
def qkU (r:Rules) (k:Nat):Piece:=getD' r.pieces k dQ
def prN (r:Rules) (k:Nat):Nat:=(qkU r k).2.2.1.toNat
theorem qum (r:Rules) {k:Nat} (h:k<r.pieces.length):qkU r k∈r.pieces:=by unfold qkU;rw[gd_eq _ k h];exact List.getElem_mem _
theorem qt4 (r:Rules) {k:Nat} (h:k<r.pieces.length):at? r.2.2.2.1 (k:Int)=some (qkU r k):=by
  rw[at?_eq _ _ (by omega) (by show(k:Int)<((r.pieces.length:Nat):Int);omega)];unfold qkU;rw[gd_eq _ k h];rfl
theorem qyy {r:Rules} (hv:VR0 r) (g:Nat):∀m i k:Nat,i+m=r.pieces.length+1→k<r.pieces.length→Option.bind (α:=((Unit)×(Unit)) ⊕ Bool) (iterW (qa4 r (g:Int)) (((k:Int),(i:Int),()),())) (Sum.elim (fun x4=>some false) some)=some (bec (prN r) g m k):=by
  have ht6:=hv.t6;have hw:w64 (((r.2.2.2.1.length:Nat):Int)+1)=((r.pieces.length:Nat):Int)+1:=qf (by show _≤((r.pieces.length:Nat):Int)+1;omega) (by show((r.pieces.length:Nat):Int)+1≤_;omega);intro m
  induction m with
  | zero =>
    intro i k hi hk
    rw[qm (r := .inl ((),())) (by
      unfold qa4;simp only;rw[hw,decide_eq_false (by omega)]
      rfl)]
    rfl
  | succ m ih =>
    intro i k hi hk;have hp:=hv.prom _ (qum r hk);by_cases e:k=g
    · rw[qm (r := .inr true) (by
        unfold qa4;simp only
        rw[hw,decide_eq_true (by omega),cond_true,beq_t (by omega),cond_true])]
      unfold bec;rw[beq_t e];rfl
    · by_cases c:(qkU r k).2.2.1=0
      · rw[qm (r := .inr false) (by
          unfold qa4;simp only
          rw[hw,decide_eq_true (by omega),cond_true,beq_f (by omega),cond_false,qt4 r hk,Option.bind_some,beq_t c,cond_true])]
        unfold bec;rw[beq_f e,decide_eq_false (show ¬0<prN r k by unfold prN;omega)];rfl
      · have e2:w64 ((qkU r k).2.2.1-1)=((prN r k-1:Nat):Int):=by
          unfold prN;rw[qf (by omega) (by omega)];omega
        have hlt:prN r k-1<r.pieces.length:=by unfold prN;omega
        rw[qo (y:=((((prN r k-1:Nat):Int),((i+1:Nat):Int),()),())) (by
          unfold qa4;simp only;rw[hw,decide_eq_true (by omega),cond_true,beq_f (by omega),cond_false,qt4 r hk,Option.bind_some,beq_f c,cond_false,Option.bind_some,e2,qf (n:=(i:Int)+1) (by omega) (by omega)]
          rfl),ih (i+1) (prN r k-1) (by omega) hlt]
        conv=>rhs;unfold bec
        rw[beq_f e,decide_eq_true (show 0<prN r k by unfold prN;omega)];rfl
theorem qvh {r:Rules} (hv:VR0 r) (g k:Nat) (hk:k<r.pieces.length):qj1 r (k:Int) (g:Int)=some (bec (prN r) g (r.pieces.length+1) k):=qyy hv g _ 0 k (by omega) hk

theorem qyx (q:Piece) (hq:q.2.2.2.1.length≤16) (i:Nat):iterW (qg4 q (((i:Int),()),())) (((0:Int),()),())=some (bif q.2.2.2.1.any (fun w=>w.2.2.2.1 !=0) then .inr (.inr (.inr ((true,()),()))) else .inl ((),())):=by
  refine qY (β:=((Unit)×(Unit)) ⊕ (((Int×Unit)×(Unit)) ⊕ (((Unit)×(Unit)) ⊕ ((Bool×Unit)×(Unit))))) q.2.2.2.1 (fun w=>w.2.2.2.1 !=0) _ (.inr (.inr (.inr ((true,()),())))) (.inl ((),())) (fun j hj=>?_) ?_
  · unfold qg4;simp only;rw[ltd _ j hj,cond_true,at?_eq _ _ (by omega) (by omega),Option.bind_some,decide_eq_true (show(j:Int)≥0 by omega),decide_eq_true (show(i:Int)≥0 by omega),qf (n:=(j:Int)+1) (by omega) (by omega)];simp only[Int.toNat_natCast]
    cases (q.2.2.2.1[j].2.2.2.1 !=0)<;>rfl
  · unfold qg4;simp only;rw[nltd];rfl
def takesK (r:Rules) (k:Nat):Bool:=(qkU r k).2.2.2.1.any fun w=>w.2.2.2.1 !=0
def ableX (r:Rules) (p:Place) (pl:Int) (x:End):Bool:=(x.2.2.2.1||(x.1==2))||((((x.1==0)&&decide (nN p pl r.pieces.length≥x.2.2.1))||((x.1==1)&&(qcH p pl r.pieces.length).any (bec (prN r) x.2.1.toNat (r.pieces.length+1))))||(r.keeps&&(qcH p pl r.pieces.length).any (takesK r)))
theorem able_spec {r:Rules} {p:Place} (hv:Valid r p) {pl:Int} (hpl:pl=0∨pl=1) {x:End} (hx:x∈r.ends):qnm r p x pl=some (ableX r p pl x):=by
  have hE:=hv.r0.ends x hx;have ht1:=hv.r0.t1;have ht6:=hv.r0.t6;have hx1:0≤x.2.1:=by
    have:=hE.2.2
    split at this<;>omega
  have hg:x.2.1=((x.2.1.toNat:Nat):Int):=by omega
  have hTl:(qcH p pl r.pieces.length).length≤100:=by
    have hfl:(p.1.filter (ownB pl)).length≤64:=Nat.le_trans (List.length_filter_le _ _) (qva hv);have:((List.range r.pieces.length).filter (fun k=>decide (hk p pl k>0))).length≤(List.range r.pieces.length).length:=List.length_filter_le _ _;rw[List.length_range] at this;unfold qcH;rw[List.length_append,List.length_map];omega
  have hlen:(qdn p pl r.pieces.length).length=(qcH p pl r.pieces.length).length:=List.length_map _;have hget:∀i (hi:i<(qcH p pl r.pieces.length).length),getD' (qdn p pl r.pieces.length) i 0=(((qcH p pl r.pieces.length)[i]:Nat):Int):=fun i hi=>by
    rw[gd_eq _ i (by omega)];unfold qdn;rw[List.getElem_map]
  have i1:iterW (qgn (qdn p pl r.pieces.length,(nN p pl r.pieces.length,())) r x) (((0:Int),()),())=some (bif (qcH p pl r.pieces.length).any (bec (prN r) x.2.1.toNat (r.pieces.length+1)) then .inr ((true,()),()) else .inl ((),())):=by
    refine qY (β:=((Unit)×(Unit)) ⊕ ((Bool×Unit)×(Unit))) (qcH p pl r.pieces.length) _ _ (.inr ((true,()),())) (.inl ((),())) (fun i hi=>?_) ?_
    · unfold qgn;simp only;rw[decide_eq_true (show(i:Int)<(((qdn p pl r.pieces.length).length:Nat):Int) by omega),cond_true,inbN _ i (by omega),qb,Int.toNat_natCast,hget i hi,hg,qvh hv.r0 _ _ (qwY hv (List.getElem_mem _)),Option.bind_some,decide_eq_true (show(i:Int)≥0 by omega),qf (n:=(i:Int)+1) (by omega) (by omega)];rfl
    · unfold qgn;simp only;rw[decide_eq_false (by omega)];rfl
  have i2:iterW (qga (qdn p pl r.pieces.length,(nN p pl r.pieces.length,())) r) (((0:Int),()),())=some (bif (qcH p pl r.pieces.length).any (takesK r) then .inr ((true,()),()) else .inl ((),())):=by
    refine qY (β:=((Unit)×(Unit)) ⊕ ((Bool×Unit)×(Unit))) (qcH p pl r.pieces.length) _ _ (.inr ((true,()),())) (.inl ((),())) (fun i hi=>?_) ?_
    · have hlt:=qwY hv (List.getElem_mem hi);have hwl:=hv.r0.ways _ (qum r hlt);unfold qga;simp only;rw[decide_eq_true (show(i:Int)<(((qdn p pl r.pieces.length).length:Nat):Int) by omega),cond_true,inbN _ i (by omega),qb,Int.toNat_natCast,hget i hi,qt4 r hlt,Option.bind_some,qf (n:=(i:Int)+1) (by omega) (by omega)];rw[qyx _ hwl i];show _=bif (qkU r (qcH p pl r.pieces.length)[i]).2.2.2.1.any (fun w=>w.2.2.2.1 !=0) then _ else _
      cases (qkU r (qcH p pl r.pieces.length)[i]).2.2.2.1.any (fun w=>w.2.2.2.1 !=0)<;>rfl
    · unfold qga;simp only;rw[decide_eq_false (by omega)];rfl
  unfold qnm;rw[qxX hv hpl,Option.bind_some,i1,i2];unfold ableX;show _=some (_||(_||(r.2.2.2.2.2.2.1&&_)))
  cases (x.2.2.2.1||(x.1==2)) with
  | true=>rfl
  | false =>
    cases ((x.1==0)&&decide (nN p pl r.pieces.length≥x.2.2.1)) with
    | true=>rfl
    | false =>
      cases (x.1==1)<;>cases (qcH p pl r.pieces.length).any (bec (prN r) x.2.1.toNat (r.pieces.length+1))<;>cases r.2.2.2.2.2.2.1<;>cases (qcH p pl r.pieces.length).any (takesK r)<;>rfl
def ableR (r:Rules) (p:Place) (pl:Int):Bool:=(r.blocked !=2)||r.ends.any (ableX r p pl)
theorem qrO (r:Rules) (p:Place) (pl:Int) (hr:Rng qbL r) (hn:p.1.length≤9223372036854775807):qf2 r p pl=some (if qcU r p=0 then if pl=0∨pl=1 then(ableR r p pl,(0,())) else(false,(1,())) else(false,(qcU r p,()))):=by
  unfold qf2;rw[qsJ r p hr hn,Option.bind_some];by_cases c:qcU r p=0
  · have hv:=valid_of c;have h6:=hv.r0.ends6;rw[bne_f c,cond_false,if_pos c];by_cases cp:pl=0∨pl=1
    · rw[if_pos cp,show((pl !=0)&&(pl !=1))=false by rcases cp with h | h<;>subst h<;>rfl,cond_false]
      have i1:iterW (qeg r p pl) (((0:Int),()),())=some (bif r.ends.any (ableX r p pl) then .inr ((true,(0:Int),()),()) else .inl ((),())):=by
        refine qY (β:=((Unit)×(Unit)) ⊕ ((Bool×Int×Unit)×(Unit))) r.ends _ _ (.inr ((true,(0:Int),()),())) (.inl ((),())) (fun i hi=>?_) ?_
        · have hi':i<r.2.2.2.2.2.2.2.1.length:=hi;unfold qeg;simp only;rw[ltd _ i hi',cond_true,at?_eq _ _ (by omega) (by omega),Option.bind_some];simp only[Int.toNat_natCast];rw[able_spec hv cp (x:=r.2.2.2.2.2.2.2.1[i]) (List.getElem_mem (l:=r.ends) hi),Option.bind_some,decide_eq_true (show(i:Int)≥0 by omega),qf (n:=(i:Int)+1) (by omega) (by omega)];rfl
        · unfold qeg;simp only;rw[show decide (((r.ends.length:Nat):Int)<((r.2.2.2.2.2.2.2.1.length:Nat):Int))=false from nltd r.ends];rfl
      rw[i1];unfold ableR;show _=some ((r.2.2.2.2.2.2.2.2.1 !=2)||_,_)
      cases (r.2.2.2.2.2.2.2.2.1 !=2)<;>cases r.ends.any (ableX r p pl)<;>rfl
    · rw[if_neg cp,show((pl !=0)&&(pl !=1))=true by rw[bne_t (by omega),bne_t (by omega)];rfl];rfl
  · rw[bne_t c,if_neg c];rfl
set_option maxHeartbeats 0

structure MS where
  g:List Place×List Mv
  res:Int
  rea:Int
  c:Clk
  o:Offs
  pm:List PM
  last:Int
  j:Jn
abbrev StT:=List Mv×Int×Int×Clk×Offs×List PM×Unit
abbrev qjd:=Rules×CRule×Game×StT×Int×Jn×Unit
def tupM (r:Rules) (cr:CRule) (m:MS):qjd:=(r,(cr,(gm r m.g,(([],(m.res,(m.rea,(m.c,(m.o,(m.pm,())))))),(m.last,(m.j,()))))))
def dClk:Clk:=((0,(0,())),((0,(0,())),((0,(0,())),(0,(0,(false,(0,())))))))
def dOff:Offs:=((0,(0,())),(((0,(0,())),((0,(0,())),())),()))
noncomputable def ofMove (o:Offs) (pl:Int):Offs:=((qhr o pl).getD (dOff,(0,()))).1
noncomputable def qsC (o:Offs) (k pl n:Int):Offs×Int:=let x:=(qdy o k pl n).getD (dOff,(0,())); (x.1,x.2.1)
noncomputable def qsj (o:Offs) (k pl n:Int):Offs×Int:=let x:=(qaS o k pl n).getD (dOff,(0,())); (x.1,x.2.1)
noncomputable def ofAcc (o:Offs) (k pl n:Int):Offs×Int:=let x:=(qd1 o k pl n).getD (dOff,(0,())); (x.1,x.2.1)
noncomputable def qxd (o:Offs) (n:Int):Offs:=((qfN o n).getD (dOff,(0,()))).1
noncomputable def lookC (cr:CRule) (c:Clk) (now:Int):Clk:=((qbd cr c now).getD (dClk,(0,()))).1
theorem qwb (o:Offs) (pl:Int):∃e,qhr o pl=some (ofMove o pl,(e,())):=by
  obtain⟨o',e,h⟩:=qyF o pl;exact⟨e,by unfold ofMove;rw[h];rfl⟩
theorem qp3 (o:Offs) (k pl n:Int):qdy o k pl n=some ((qsC o k pl n).1,((qsC o k pl n).2,())):=by
  obtain⟨o',e,h⟩:=qyw o k pl n;unfold qsC;rw[h];rfl
theorem qq9 (o:Offs) (k pl n:Int):qaS o k pl n=some ((qsj o k pl n).1,((qsj o k pl n).2,())):=by
  obtain⟨o',e,h⟩:=qtp o k pl n;unfold qsj;rw[h];rfl
theorem qx7 (o:Offs) (k pl n:Int):qd1 o k pl n=some ((ofAcc o k pl n).1,((ofAcc o k pl n).2,()))∧((ofAcc o k pl n).2=0→(k=0∨k=1)∧(pl=0∨pl=1)∧0≤n∧n≤400):=by
  obtain⟨o',e,h,h'⟩:=qvE o k pl n;unfold ofAcc;rw[h];exact⟨rfl,h'⟩
theorem qwB (o:Offs) (n:Int):∃e,qfN o n=some (qxd o n,(e,())):=by
  obtain⟨o',e,h⟩:=qyt o n;exact⟨e,by unfold qxd;rw[h];rfl⟩
theorem qoc (cr:CRule) (c:Clk) (now:Int) (hl:cr.1.length≤9223372036854775807):∃e,qbd cr c now=some (lookC cr c now,(e,())):=by
  obtain⟨c',e,h,_⟩:=look_some cr c now hl;exact⟨e,by unfold lookC;rw[h];rfl⟩
noncomputable def moveM (r:Rules) (cr:CRule) (m:MS) (x:Mv) (now:Int):MS:={ m with g:=nextG r m.g x,c:=qg5 cr m.c now,o:=ofMove m.o (par m.g.2.length) }
noncomputable def annM (r:Rules) (cr:CRule) (now:Int):Nat→MS→MS
  | 0,m=>m
  | k+1,m=>if qae r m.g.1=0∧m.g.2.length<400 then
      if (nextP r (lastP m.g.1) m.pm).2.1=true then annM r cr now k (moveM r cr { m with pm:=(nextP r (lastP m.g.1) m.pm).2.2.1 } (nextP r (lastP m.g.1) m.pm).1 now)
      else { m with pm:=(nextP r (lastP m.g.1) m.pm).2.2.1 }
    else m
noncomputable def qp9 (r:Rules) (cr:CRule) (m:MS) (e:Ev):MS×Int :=
  if par m.g.2.length≠e.2.1 then(m,12) else if e.2.2.2.2.1∉openM r (lastP m.g.1) then(m,13) else if m.g.2.length=400 then(m,2)
  else(annM r cr e.2.2.2.1 (m.pm.length+1) (moveM r cr m e.2.2.2.2.1 e.2.2.2.1),0)
noncomputable def qpB (m:MS) (e:Ev):MS×Int :=
  let x:=if e.1=3 then qsj m.o e.2.2.1 e.2.1 ((m.g.2.length:Nat):Int) else qsC m.o e.2.2.1 e.2.1 ((m.g.2.length:Nat):Int)
  if x.2=0 then({ m with o:=x.1 },0) else(m,x.2)
def backN:Nat→List Place×List Mv→List Place×List Mv
  | 0,s=>s
  | k+1,s=>backN k (backG s)
noncomputable def qmf (m:MS) (e:Ev):MS×Int :=
  let x:=ofAcc m.o e.2.2.1 e.2.1 ((m.g.2.length:Nat):Int)
  if x.2≠0 then(m,x.2) else if e.2.2.1=0 then({ m with o:=x.1,res:=3,rea:=4 },0)
  else
    let g:=backN (qiK (1-e.2.1) ((m.g.2.length:Nat):Int)).toNat m.g
    ({ m with g:=g,o:=qxd x.1 ((g.2.length:Nat):Int),c:=(m.c.1,(m.c.2.1,(m.c.2.2.1,(par g.2.length,(e.2.2.2.1,m.c.2.2.2.2.2))))),pm:=[] },0)
def fallR (r:Rules) (p:Place) (pl:Int):Int:=if ableR r p (1-pl)=true then 2-pl else 3
noncomputable def qpz (r:Rules) (cr:CRule) (m:MS) (e:Ev):MS×Int :=
  if e.2.2.1=2 then
    if (lookC cr m.c e.2.2.2.1).2.2.2.2.2.2.1<0 then(m,10)
    else({ m with res:=fallR r (lastP m.g.1) (lookC cr m.c e.2.2.2.1).2.2.2.2.2.2.1,rea:=2,c:=lookC cr m.c e.2.2.2.1 },0)
  else if e.2.2.1≠0∧e.2.2.1≠1 then(m,1) else if par m.g.2.length≠e.2.1 then(m,12)
  else if e.2.2.1=0∧3≤qeT m.g.1∨e.2.2.1=1∧20≤(lastP m.g.1).quiet then({ m with res:=3,rea:=5 },0) else(m,10)
def qks (m:MS) (e:Ev):MS×Int :=
  if par m.g.2.length=e.2.1 then(m,12) else if (ofL m.pm e.2.1).length=4 then(m,9) else({ m with pm:=m.pm++[(e.2.1,(e.2.2.2.2.1,()))] },0)
noncomputable def kindM (r:Rules) (cr:CRule) (m:MS) (e:Ev):MS×Int :=
  if e.1=0 then qp9 r cr m e else if e.1=1∨e.1=3 then qpB m e else if e.1=2 then qmf m e else if e.1=5 then qpz r cr m e
  else if e.1=6 then qks m e else({ m with res:=2-e.2.1,rea:=3 },0)
def overM (r:Rules) (m:MS):MS:=if m.res=0∧qae r m.g.1≠0 then { m with res:=qae r m.g.1,rea:=1 } else m
noncomputable def doneM (r:Rules) (m:MS) (e:Ev):MS:=overM r { m with last:=e.2.2.2.1,j:=nextJ m.j (qb2 e) }
noncomputable def doM (r:Rules) (cr:CRule) (m:MS) (e:Ev):MS×Int :=
  if (e.1<0∨6<e.1)∨(e.2.1≠0∧e.2.1≠1) then(m,1) else if e.2.2.2.1<m.last∨100000000<e.2.2.2.1 then(m,11) else if m.res≠0 then(m,14)
  else if m.j.length=1000 then(m,9)
  else if (0≤(lookC cr m.c e.2.2.2.1).2.2.2.2.2.2.1∧e.1≠4)∧¬(e.1=5∧e.2.2.1=2) then(m,11)
  else if (kindM r cr m e).2≠0 then(m,(kindM r cr m e).2) else(doneM r (kindM r cr m e).1 e,0)
structure MOK (r:Rules) (cr:CRule) (m:MS):Prop where
  rng:Rng qbL r
  len:cr.1.length≤9223372036854775807
  g:RG r m.g
  cok:chkC cr=0
  clk:m.res=0→GoodC cr m.c m.last
  turn:m.res=0→m.c.2.2.2.1=par m.g.2.length
  opn:m.res=0→qae r m.g.1=0
  pm:pmErr m.pm=0
  few:m.pm.length≤8
  j:JOK m.j
structure MID (r:Rules) (cr:CRule) (m:MS) (now:Int):Prop where
  rng:Rng qbL r
  len:cr.1.length≤9223372036854775807
  g:RG r m.g
  clk:GoodC cr m.c now
  turn:m.c.2.2.2.1=par m.g.2.length
  pm:pmErr m.pm=0
  few:m.pm.length≤8
theorem qsw {r:Rules} {cr:CRule} {m:MS} {now:Int} (h:MID r cr m now) {x:Mv} (c:stepG r m.g x=0):qay (tupM r cr m) x now=some (tupM r cr (moveM r cr m x now),()):=by
  obtain⟨e,he⟩:=qwb m.o (par m.g.2.length);obtain⟨hp,_⟩:=qsc h.len h.clk;have ht:=RG.turn m.g.2.length h.g rfl;unfold qay tupM gm;simp only;rw[qaa h.g.ok,Option.bind_some,quG h.g.ok,Option.bind_some,if_pos c,hp,Option.bind_some];rw[show(lastP m.g.1).2.2.1=(lastP m.g.1).turn from rfl,ht,he,Option.bind_some];rfl
theorem qxO {r:Rules} {cr:CRule} {m:MS} {now:Int} (h:MID r cr m now) {x:Mv} (c:stepG r m.g x=0):MID r cr (moveM r cr m x now) now:=by
  obtain⟨_,p1,p2,p3⟩:=qsc h.len h.clk
  have hlen:(moveM r cr m x now).g.2.length=m.g.2.length+1:=by unfold moveM nextG;simp
  refine⟨h.rng,h.len,h.g.next c,p1,?_,h.pm,h.few⟩;show(qg5 cr m.c now).2.2.2.1=_;rw[p2,h.turn,hlen,qxm]
theorem qmD (pl:Int):∀l:List PM,(ofL l pl).length=l.countP (fun x=>x.1==pl)
  | []=>rfl
  | x::l=>by
    have ih:=qmD pl l;unfold ofL at *;rw[List.flatMap_cons,List.length_append,ih,List.countP_cons];cases (x.1==pl)
    · simp
    · simp;omega
theorem qwT:∀l:List PM,l.length=l.countP (fun x=>x.1==0)+l.countP (fun x=>x.1==1)+l.countP odd1
  | []=>rfl
  | x::l=>by
    have ih:=qwT l;simp only[List.length_cons,List.countP_cons];rw[show odd1 x=((x.1 !=0)&&(x.1 !=1)) from rfl];by_cases h0:x.1=0
    · simp only[h0];simp;omega
    · by_cases h1:x.1=1
      · simp only[h1];simp;omega
      · simp[h0,h1];omega
theorem qvJ (l:List PM):pmErr l=0↔l.countP (fun x=>x.1==0)≤4∧l.countP (fun x=>x.1==1)≤4∧l.countP odd1=0:=by
  unfold pmErr;rw[qmD,qmD];constructor
  · intro h;split at h
    · cases h
    · rename_i c;split at h
      · cases h
      · rename_i d;refine⟨by omega,by omega,?_⟩;rw[List.countP_eq_zero];intro x hx q;exact d (List.any_eq_true.2 ⟨x,hx,q⟩)
  · rintro ⟨a,b,c⟩
    rw[if_neg (by omega),if_neg];intro d;obtain⟨x,hx,q⟩:=List.any_eq_true.1 d;exact(List.countP_eq_zero.1 c x hx) q
theorem pm_len {l:List PM} (h:pmErr l=0):l.length≤8:=by
  have:=(qvJ l).1 h;have:=qwT l;omega
theorem pm_sub {l l':List PM} (hs:l'.Sublist l) (h:pmErr l=0):pmErr l'=0:=by
  have h1:=(qvJ l).1 h;have a:=hs.countP_le (p:=fun x=>x.1==0);have b:=hs.countP_le (p:=fun x=>x.1==1);have c:=hs.countP_le (p:=odd1);exact(qvJ l').2 ⟨by omega,by omega,by omega⟩
theorem next_sub (r:Rules) (p:Place) (l:List PM):(nextP r p l).2.2.1.Sublist l:=by
  unfold nextP;split
  · unfold resN;split
    · show(l.take _++l.drop _).Sublist l;rw[←List.eraseIdx_eq_take_drop_succ];exact List.eraseIdx_sublist _ _
    · exact List.filter_sublist
  · exact List.filter_sublist
theorem next_mem {r:Rules} {p:Place} {l:List PM} (h:(nextP r p l).2.1=true):(nextP r p l).1∈openM r p∧(nextP r p l).2.2.1.length+1=l.length:=by
  unfold nextP at *;split at h
  · rename_i c;rw[if_pos c];unfold resN at *;split at h
    · rename_i d;rw[if_pos d];refine⟨d,?_⟩;show(l.take _++l.drop _).length+1=_;rw[List.length_append,List.length_take,List.length_drop];omega
    · cases h
  · cases h
theorem quX {r:Rules} {s:List Place×List Mv} {m:Mv} (hr:qae r s.1=0) (hm:m∈openM r (lastP s.1)) (hl:s.2.length<400):stepG r s m=0:=by
  unfold stepG;rw[if_pos hr,if_pos (openM_mem.1 hm).2,if_neg (by omega)]
def flatT (x:qjd):ByteArray×Int×Int×(List (Int×Int×Int×(List (Int×Int×Int×Int×Unit))×Unit))×(List Int)×Bool×Bool×(List (Int×Int×Int×Bool×Unit))×Int×Int×Int×(List (Int×Int×Unit))×Int×Int×Game×(List Mv)×Int×Int×Int×Int×Int×Int×Int×Int×Int×Int×Bool×Int×Int×Int×Int×Int×Int×Int×(List PM)×Int×Jn×Unit :=
  (x.1.1,(x.1.2.1,(x.1.2.2.1,(x.1.2.2.2.1,(x.1.2.2.2.2.1,(x.1.2.2.2.2.2.1,(x.1.2.2.2.2.2.2.1,(x.1.2.2.2.2.2.2.2.1,(x.1.2.2.2.2.2.2.2.2.1,(x.1.2.2.2.2.2.2.2.2.2.1,(x.1.2.2.2.2.2.2.2.2.2.2.1,(x.2.1.1,(x.2.1.2.1,(x.2.1.2.2.1,((x.2.2.1.1,(x.2.2.1.2.1,(x.2.2.1.2.2.1,()))),(x.2.2.2.1.1,(x.2.2.2.1.2.1,(x.2.2.2.1.2.2.1,
  (x.2.2.2.1.2.2.2.1.1.1,(x.2.2.2.1.2.2.2.1.1.2.1,(x.2.2.2.1.2.2.2.1.2.1.1,(x.2.2.2.1.2.2.2.1.2.1.2.1,(x.2.2.2.1.2.2.2.1.2.2.1.1,(x.2.2.2.1.2.2.2.1.2.2.1.2.1,(x.2.2.2.1.2.2.2.1.2.2.2.1,(x.2.2.2.1.2.2.2.1.2.2.2.2.1,(x.2.2.2.1.2.2.2.1.2.2.2.2.2.1,(x.2.2.2.1.2.2.2.1.2.2.2.2.2.2.1,
  (x.2.2.2.1.2.2.2.2.1.1.1,(x.2.2.2.1.2.2.2.2.1.1.2.1,(x.2.2.2.1.2.2.2.2.1.2.1.1.1,(x.2.2.2.1.2.2.2.2.1.2.1.1.2.1,(x.2.2.2.1.2.2.2.2.1.2.1.2.1.1,(x.2.2.2.1.2.2.2.2.1.2.1.2.1.2.1,(x.2.2.2.1.2.2.2.2.2.1,x.2.2.2.2)))))))))))))))))))))))))))))))))))
def withP (x:qjd) (l:List PM):qjd:=(x.1,(x.2.1,(x.2.2.1,((x.2.2.2.1.1,(x.2.2.2.1.2.1,(x.2.2.2.1.2.2.1,(x.2.2.2.1.2.2.2.1,(x.2.2.2.1.2.2.2.2.1,(l,())))))),x.2.2.2.2))))
theorem dm_L1 (e:Ev) (x:qjd):qaJ e ((),(flatT x,()))=Option.bind (Option.bind (qac x.2.2.1) fun a=>bif (a==(0:Int)) then(Option.bind (qv x.2.2.1) fun b=>some (((decide (((b.length:Nat):Int)<(400:Int))),()),())) else some ((false,()),())) fun b =>
    bif b.1.1 then(Option.bind (Option.bind (qn x.2.2.1) fun p=>Option.bind (qbC x.1 p x.2.2.2.1.2.2.2.2.2.1) fun y=>some ((y.1,(y.2.1,(y.2.2.1,()))),())) fun z=>bif (!z.1.2.1) then some (.inr ((),(flatT (withP x z.1.2.2.1),()))) else Option.bind (qay (withP x z.1.2.2.1) z.1.1 e.2.2.2.1) fun w=>some (.inl ((),(flatT w.1,()))))
    else some (.inr ((),(flatT x,()))):=by
  unfold qaJ;simp only[qao,agree_self];rfl

theorem mid_pm {r:Rules} {cr:CRule} {m:MS} {now:Int} (h:MID r cr m now) {l:List PM} (hs:l.Sublist m.pm):MID r cr { m with pm:=l } now :=
  ⟨h.rng,h.len,h.g,h.clk,h.turn,pm_sub hs h.pm,pm_len (pm_sub hs h.pm)⟩
theorem qxg {r:Rules} {cr:CRule} {now:Int} (e:Ev) (he:e.2.2.2.1=now):∀(k:Nat) (m:MS),MID r cr m now→m.pm.length<k →
    iterW (qaJ e) ((),(flatT (tupM r cr m),()))=some ((),(flatT (tupM r cr (annM r cr now k m)),()))∧MID r cr (annM r cr now k m) now
  | 0,m,_,hk=>absurd hk (Nat.not_lt_zero _)
  | k+1,m,h,hk=>by
    have hL:=dm_L1 e (tupM r cr m);rw[show(tupM r cr m).2.2.1=(r,(m.g.1,(m.g.2,()))) from rfl,show(tupM r cr m).1=r from rfl,show(tupM r cr m).2.2.2.1.2.2.2.2.2.1=m.pm from rfl,qgw h.g.ok,qc0 h.g.ok,qaa h.g.ok] at hL;simp only[Option.bind_some] at hL;unfold annM;by_cases c0:qae r m.g.1=0
    · rw[c0] at hL;simp only[beq_self_eq_true,cond_true,Option.bind_some] at hL;by_cases c1:m.g.2.length<400
      · rw[show decide (((m.g.2.length:Nat):Int)<400)=true by simp;omega,cond_true,qyI r _ h.rng h.g.ok.last h.g.ok.ok _ (by have:=h.few;omega),Option.bind_some] at hL;rw[if_neg (fun q=>q h.pm)] at hL;simp only[Option.bind_some] at hL;rw[if_pos ⟨c0,c1⟩];have hmid:=mid_pm h (next_sub r (lastP m.g.1) m.pm);by_cases c2:(nextP r (lastP m.g.1) m.pm).2.1=true
        · rw[c2,Bool.not_true,cond_false,he] at hL;obtain⟨n1,n2⟩:=next_mem c2;have hst:stepG r m.g (nextP r (lastP m.g.1) m.pm).1=0:=quX c0 n1 c1;have hmv:qay (withP (tupM r cr m) (nextP r (lastP m.g.1) m.pm).2.2.1) (nextP r (lastP m.g.1) m.pm).1 now=_:=qsw hmid hst;rw[hmv,Option.bind_some] at hL;rw[if_pos c2];have ih:=qxg e he k _ (qxO hmid hst) (by show(nextP r (lastP m.g.1) m.pm).2.2.1.length<k;omega);rw[qo hL];exact ih
        · have c3:(nextP r (lastP m.g.1) m.pm).2.1=false:=by simpa using c2
          rw[c3,Bool.not_false,cond_true] at hL;rw[if_neg c2];exact⟨qm hL,hmid⟩
      · rw[show decide (((m.g.2.length:Nat):Int)<400)=false by simp;omega,cond_false] at hL;rw[if_neg (fun q=>c1 q.2)];exact⟨qm hL,h⟩
    · rw[beq_f c0,cond_false,Option.bind_some,cond_false] at hL;rw[if_neg (fun q=>c0 q.1)];exact⟨qm hL,h⟩
def unflat (y:ByteArray×Int×Int×(List (Int×Int×Int×(List (Int×Int×Int×Int×Unit))×Unit))×(List Int)×Bool×Bool×(List (Int×Int×Int×Bool×Unit))×Int×Int×Int×(List (Int×Int×Unit))×Int×Int×Game×(List Mv)×Int×Int×Int×Int×Int×Int×Int×Int×Int×Int×Bool×Int×Int×Int×Int×Int×Int×Int×(List PM)×Int×Jn×Unit):qjd:=((y.1,(y.2.1,(y.2.2.1,(y.2.2.2.1,(y.2.2.2.2.1,(y.2.2.2.2.2.1,(y.2.2.2.2.2.2.1,(y.2.2.2.2.2.2.2.1,(y.2.2.2.2.2.2.2.2.1,(y.2.2.2.2.2.2.2.2.2.1,(y.2.2.2.2.2.2.2.2.2.2.1,()))))))))))),((y.2.2.2.2.2.2.2.2.2.2.2.1,(y.2.2.2.2.2.2.2.2.2.2.2.2.1,(y.2.2.2.2.2.2.2.2.2.2.2.2.2.1,()))),((y.2.2.2.2.2.2.2.2.2.2.2.2.2.2.1.1,(y.2.2.2.2.2.2.2.2.2.2.2.2.2.2.1.2.1,(y.2.2.2.2.2.2.2.2.2.2.2.2.2.2.1.2.2.1,()))),((y.2.2.2.2.2.2.2.2.2.2.2.2.2.2.2.1,(y.2.2.2.2.2.2.2.2.2.2.2.2.2.2.2.2.1,(y.2.2.2.2.2.2.2.2.2.2.2.2.2.2.2.2.2.1,(((y.2.2.2.2.2.2.2.2.2.2.2.2.2.2.2.2.2.2.1,(y.2.2.2.2.2.2.2.2.2.2.2.2.2.2.2.2.2.2.2.1,())),((y.2.2.2.2.2.2.2.2.2.2.2.2.2.2.2.2.2.2.2.2.1,(y.2.2.2.2.2.2.2.2.2.2.2.2.2.2.2.2.2.2.2.2.2.1,())),((y.2.2.2.2.2.2.2.2.2.2.2.2.2.2.2.2.2.2.2.2.2.2.1,(y.2.2.2.2.2.2.2.2.2.2.2.2.2.2.2.2.2.2.2.2.2.2.2.1,())),(y.2.2.2.2.2.2.2.2.2.2.2.2.2.2.2.2.2.2.2.2.2.2.2.2.1,(y.2.2.2.2.2.2.2.2.2.2.2.2.2.2.2.2.2.2.2.2.2.2.2.2.2.1,(y.2.2.2.2.2.2.2.2.2.2.2.2.2.2.2.2.2.2.2.2.2.2.2.2.2.2.1,(y.2.2.2.2.2.2.2.2.2.2.2.2.2.2.2.2.2.2.2.2.2.2.2.2.2.2.2.1,()))))))),(((y.2.2.2.2.2.2.2.2.2.2.2.2.2.2.2.2.2.2.2.2.2.2.2.2.2.2.2.2.1,(y.2.2.2.2.2.2.2.2.2.2.2.2.2.2.2.2.2.2.2.2.2.2.2.2.2.2.2.2.2.1,())),(((y.2.2.2.2.2.2.2.2.2.2.2.2.2.2.2.2.2.2.2.2.2.2.2.2.2.2.2.2.2.2.1,(y.2.2.2.2.2.2.2.2.2.2.2.2.2.2.2.2.2.2.2.2.2.2.2.2.2.2.2.2.2.2.2.1,())),((y.2.2.2.2.2.2.2.2.2.2.2.2.2.2.2.2.2.2.2.2.2.2.2.2.2.2.2.2.2.2.2.2.1,(y.2.2.2.2.2.2.2.2.2.2.2.2.2.2.2.2.2.2.2.2.2.2.2.2.2.2.2.2.2.2.2.2.2.1,())),())),())),(y.2.2.2.2.2.2.2.2.2.2.2.2.2.2.2.2.2.2.2.2.2.2.2.2.2.2.2.2.2.2.2.2.2.2.1,())))))),y.2.2.2.2.2.2.2.2.2.2.2.2.2.2.2.2.2.2.2.2.2.2.2.2.2.2.2.2.2.2.2.2.2.2.2))))
structure SpecK (r:Rules) (cr:CRule) (m:MS) (now:Int) (x:MS×Int) (y:Option (qjd×Int)):Prop where
  val:y=some (tupM r cr x.1,x.2)
  err:x.2≠0→x.1=m
  mid:x.2=0→x.1.res=0→MID r cr x.1 now
  g:RG r x.1.g
  pm:pmErr x.1.pm=0
  kept:x.1.last=m.last∧x.1.j=m.j
theorem SpecK.same {r:Rules} {cr:CRule} {m:MS} {now:Int} (h:MID r cr m now) {k:Int} (hk:k≠0) {y:Option (qjd×Int)} (hy:y=some (tupM r cr m,k)):SpecK r cr m now (m,k) y :=
  ⟨hy,fun _=>rfl,fun c=>absurd c hk,h.g,h.pm,⟨rfl,rfl⟩⟩
theorem SpecK.done {r:Rules} {cr:CRule} {m m':MS} {now:Int} (h:MID r cr m' now) (h1:m'.last=m.last) (h2:m'.j=m.j) {y:Option (qjd×Int)} (hy:y=some (tupM r cr m',0)):SpecK r cr m now (m',0) y :=
  ⟨hy,fun c=>absurd rfl c,fun _ _=>h,h.g,h.pm,⟨h1,h2⟩⟩
theorem qs5 {r:Rules} {cr:CRule} {now:Int}:∀(k:Nat) (m:MS),(annM r cr now k m).last=m.last∧(annM r cr now k m).j=m.j
  | 0,m=>⟨rfl,rfl⟩
  | k+1,m=>by
    unfold annM;split
    · split
      · exact qs5 k _
      · exact⟨rfl,rfl⟩
    · exact⟨rfl,rfl⟩
theorem bneI (a b:Int):(a !=b)=decide (a≠b):=by
  by_cases h:a=b
  · rw[bne_f h,decide_eq_false (fun q=>q h)]
  · rw[bne_t h,decide_eq_true h]
theorem dm_eq (x:qjd) (e:Ev):qaP x e=Option.bind (qn x.2.2.1) fun p=>bif (p.2.2.1 !=e.2.1) then some (x,12) else Option.bind (qhy x.1 p) fun l=>Option.bind (qw l e.2.2.2.2.1) fun b=>bif (!b) then some (x,13) else
    Option.bind (qv x.2.2.1) fun q=>bif (((q.length:Nat):Int)==(400:Int)) then some (x,2) else Option.bind (qay x e.2.2.2.2.1 e.2.2.2.1) fun w=>Option.bind (iterW (qaJ e) ((),(flatT w.1,()))) fun y=>some (unflat y.2.1,0):=by
  unfold qaP;simp only[qao,agree_self]
  cases qn x.2.2.1 with
  | none=>rfl
  | some p=>rfl
theorem qwt {r:Rules} {cr:CRule} {m:MS} {e:Ev} (h:MID r cr m e.2.2.2.1) (h0:qae r m.g.1=0):SpecK r cr m e.2.2.2.1 (qp9 r cr m e) (qaP (tupM r cr m) e):=by
  have ht:=RG.turn m.g.2.length h.g rfl;have hv:=h.g.ok.last;rw[dm_eq,show(tupM r cr m).2.2.1=(r,(m.g.1,(m.g.2,()))) from rfl,show(tupM r cr m).1=r from rfl,qaa h.g.ok,qc0 h.g.ok];simp only[Option.bind_some];rw[show(lastP m.g.1).2.2.1=(lastP m.g.1).turn from rfl,ht,qsk hv];simp only[Option.bind_some];rw[qoq _ _ (by have:=qt9 hv;omega)];simp only[Option.bind_some];unfold qp9;by_cases c1:par m.g.2.length=e.2.1
  rotate_left
  · rw[if_pos c1,bne_t c1,cond_true];exact SpecK.same h (by decide) rfl
  rw[if_neg (fun q=>q c1),bne_f c1,cond_false];by_cases c2:e.2.2.2.2.1∈openM r (lastP m.g.1)
  rotate_left
  · rw[if_pos c2,decide_eq_false c2,Bool.not_false,cond_true];exact SpecK.same h (by decide) rfl
  rw[if_neg (fun q=>q c2),decide_eq_true c2,Bool.not_true,cond_false];by_cases c3:m.g.2.length=400
  · rw[if_pos c3,c3];exact SpecK.same h (by decide) rfl
  rw[if_neg c3,beq_f (show ¬((m.g.2.length:Nat):Int)=400 by omega),cond_false];have hst:stepG r m.g e.2.2.2.2.1=0:=quX h0 c2 (by have:=h.g.ok.most;omega);rw[qsw h hst,Option.bind_some];obtain⟨l1,l2⟩:=qxg e rfl (m.pm.length+1) _ (qxO h hst) (by show m.pm.length<m.pm.length+1;omega);rw[l1,Option.bind_some];obtain⟨k1,k2⟩:=qs5 (r:=r) (cr:=cr) (now:=e.2.2.2.1) (m.pm.length+1) (moveM r cr m e.2.2.2.2.1 e.2.2.2.1);exact SpecK.done (m:=m) l2 k1 k2 rfl
theorem qun {r:Rules} {cr:CRule} {m:MS} {e:Ev} (h:MID r cr m e.2.2.2.1):SpecK r cr m e.2.2.2.1 (qpB m e) (qaA (tupM r cr m) e):=by
  have hy:qaA (tupM r cr m) e=Option.bind (bif (e.1==(3:Int)) then qaS m.o e.2.2.1 e.2.1 ((m.g.2.length:Nat):Int) else qdy m.o e.2.2.1 e.2.1 ((m.g.2.length:Nat):Int)) fun x=>bif (x.2.1==(0:Int)) then some (tupM r cr { m with o:=x.1 },x.2.1) else some (tupM r cr m,x.2.1):=by
    unfold qaA;simp only[qq,qp,qj,qk,qao,agree_self,show(tupM r cr m).2.2.1.1=r from rfl,show(tupM r cr m).2.2.1.2.1=m.g.1 from rfl,show(tupM r cr m).2.2.1.2.2.1=m.g.2 from rfl,qc0 h.g.ok,Option.bind_some];rw[show(tupM r cr m).2.2.2.1.2.2.2.2.1=m.o from rfl];simp only[qq9,qp3,Option.bind_some,qao,agree_self];cases (e.1==(3:Int))
    · simp only[cond_false,Option.bind_some]
      cases ((qsC m.o e.2.2.1 e.2.1 ((m.g.2.length:Nat):Int)).2==(0:Int))<;>rfl
    · simp only[cond_true,Option.bind_some]
      cases ((qsj m.o e.2.2.1 e.2.1 ((m.g.2.length:Nat):Int)).2==(0:Int))<;>rfl
  rw[hy];unfold qpB;by_cases c:e.1=3
  · rw[beq_t c,cond_true,if_pos c,qq9,Option.bind_some];simp only;by_cases c1:(qsj m.o e.2.2.1 e.2.1 ((m.g.2.length:Nat):Int)).2=0
    · rw[if_pos c1,beq_t c1,cond_true,c1];refine SpecK.done (m:=m) ?_ (by rfl) (by rfl) (by rfl);exact⟨h.rng,h.len,h.g,h.clk,h.turn,h.pm,h.few⟩
    · rw[if_neg c1,beq_f c1,cond_false];exact SpecK.same h c1 rfl
  · rw[beq_f c,cond_false,if_neg c,qp3,Option.bind_some];simp only;by_cases c1:(qsC m.o e.2.2.1 e.2.1 ((m.g.2.length:Nat):Int)).2=0
    · rw[if_pos c1,beq_t c1,cond_true,c1];refine SpecK.done (m:=m) ?_ (by rfl) (by rfl) (by rfl);exact⟨h.rng,h.len,h.g,h.clk,h.turn,h.pm,h.few⟩
    · rw[if_neg c1,beq_f c1,cond_false];exact SpecK.same h c1 rfl
theorem da_L1 (z:(Int×Int×Unit)×Unit) (i:Int) (g:Game):qcb z ((i,()),(flG g,()))=bif decide (i<z.1.1) then Option.bind (qdt g) fun w=>some (.inl ((w64 (i+1),()),(flG w.1,()))) else some (.inr ((),(flG g,()))):=rfl
theorem qvs {r:Rules} (z:(Int×Int×Unit)×Unit) (n:Nat) (hz:z.1.1=(n:Int)) (hn:n≤1000000):∀(k i:Nat) (s:List Place×List Mv),i+k=n→RG r s→k≤s.2.length →
    iterW (qcb z) (((i:Int),()),(flG (gm r s),()))=some ((),(flG (gm r (backN k s)),()))∧RG r (backN k s)
  | 0,i,s,hi,h,hk=>by
    refine⟨qm ?_,h⟩;rw[da_L1,hz,decide_eq_false (by omega),cond_false];rfl
  | k+1,i,s,hi,h,hk=>by
    have ih:=qvs z n hz hn k (i+1) (backG s) (by omega) (h.back (by omega)) (by rw[qpL];omega);have hL:=da_L1 z (i:Int) (gm r s);rw[hz,decide_eq_true (by omega),cond_true,show gm r s=(r,(s.1,(s.2,()))) from rfl,back_spec h.ok,if_neg (by omega),Option.bind_some,qf (by omega) (by omega)] at hL;rw[show gm r s=(r,(s.1,(s.2,()))) from rfl,qo hL];exact ih
theorem plies_rng (pl:Int) (n:Nat):0≤qiK pl (n:Int)∧qiK pl (n:Int)≤2∧(qiK pl (n:Int)).toNat≤n:=by
  unfold qiK;generalize (if (0:Int)>(n:Int) then(0:Int) else(n:Int)).tmod 2=t;by_cases c:(if t=pl then(2:Int) else 1)>(n:Int)∨pl≠0∧pl≠1
  · rw[if_pos c];simp
  · rw[if_neg c];have:¬(if t=pl then(2:Int) else 1)>(n:Int):=fun q=>c (.inl q)
    split at this<;>rename_i q
    · rw[if_pos q];omega
    · rw[if_neg q];omega
theorem qvf:∀(k:Nat) (s:List Place×List Mv),(backN k s).2.length=s.2.length-k
  | 0,s=>rfl
  | k+1,s=>by
    show(backN k (backG s)).2.length=_;rw[qvf k,qpL];omega
theorem qr4 {r:Rules}:∀(k:Nat) {s:List Place×List Mv},RG r s→k≤s.2.length→qae r s.1=0→qae r (backN k s).1=0
  | 0,s,h,hk,h0=>h0
  | k+1,s,h,hk,h0=>qr4 k (h.back (by omega)) (by rw[qpL];omega) (h.back_open (by omega))
theorem qsQ {r:Rules} {cr:CRule} {m:MS} {e:Ev} (h:MID r cr m e.2.2.2.1) (h0:qae r m.g.1=0):SpecK r cr m e.2.2.2.1 (qmf m e) (qaR (tupM r cr m) e):=by
  obtain⟨a1,a2⟩:=qx7 m.o e.2.2.1 e.2.1 ((m.g.2.length:Nat):Int);unfold qaR;simp only[qao,agree_self,show(tupM r cr m).2.2.1.1=r from rfl,show(tupM r cr m).2.2.1.2.1=m.g.1 from rfl,show(tupM r cr m).2.2.1.2.2.1=m.g.2 from rfl,qc0 h.g.ok,Option.bind_some];rw[show(tupM r cr m).2.2.2.1.2.2.2.2.1=m.o from rfl];simp only[a1,qsh,Option.bind_some,qao,agree_self];unfold qmf;simp only;by_cases c1:(ofAcc m.o e.2.2.1 e.2.1 ((m.g.2.length:Nat):Int)).2=0
  rotate_left
  · rw[if_pos c1,bne_t c1,cond_true];exact SpecK.same h c1 rfl
  rw[if_neg (fun q=>q c1),bne_f c1,cond_false];by_cases c2:e.2.2.1=0
  · rw[if_pos c2,beq_t c2,cond_true];exact⟨rfl,fun q=>absurd rfl q,fun _ q=>(by cases q),h.g,h.pm,⟨rfl,rfl⟩⟩
  rw[if_neg c2,beq_f c2,cond_false];have hpl:w64 (1-e.2.1)=1-e.2.1:=qf (by have:=(a2 c1).2.1;omega) (by have:=(a2 c1).2.1;omega);rw[hpl];obtain⟨p0,p1,p2⟩:=plies_rng (1-e.2.1) m.g.2.length;obtain⟨l1,l2⟩:=qvs (r:=r) ((qiK (1-e.2.1) ((m.g.2.length:Nat):Int),((0:Int),())),()) (qiK (1-e.2.1) ((m.g.2.length:Nat):Int)).toNat (by simp only;omega) (by omega) _ 0 m.g (Nat.zero_add _) h.g p2;have hbl:=qvf (qiK (1-e.2.1) ((m.g.2.length:Nat):Int)).toNat m.g;have hbo:=qr4 (qiK (1-e.2.1) ((m.g.2.length:Nat):Int)).toNat h.g p2 h0;generalize (backN (qiK (1-e.2.1) ((m.g.2.length:Nat):Int)).toNat m.g)=G at *;have ht:=RG.turn G.2.length l2 rfl;obtain⟨f,hf⟩:=qwB (ofAcc m.o e.2.2.1 e.2.1 ((m.g.2.length:Nat):Int)).1 ((G.2.length:Nat):Int)
  have hc:GoodC cr (m.c.1,(m.c.2.1,(m.c.2.2.1,(par G.2.length,(e.2.2.2.1,m.c.2.2.2.2.2))))) e.2.2.2.1:=by
    have hk:=h.clk;have hv:=hk.v;have hs:=hv.since;have:=hk.now0;have hp:=par_rng G.2.length;have hd:=(qlF hk.ok).del;have hv':VC cr (m.c.1,(m.c.2.1,(m.c.2.2.1,(par G.2.length,(e.2.2.2.1,m.c.2.2.2.2.2))))):=⟨hp,hv.fallen,⟨by show 0≤e.2.2.2.1;omega,hk.now1⟩,hv.p0,hv.p1,hv.m0,hv.m1,hv.l0,hv.l1⟩;refine⟨hk.ok,hv',Int.le_refl _,hk.now1,hk.up,hk.run,?_⟩;have hn:=left_nn hv';show max 0 (e.2.2.2.1-e.2.2.2.1-cr.2.2.1)≤_;omega
  refine SpecK.done (m:=m) (m':={ m with g:=G,o:=qxd (ofAcc m.o e.2.2.1 e.2.1 ((m.g.2.length:Nat):Int)).1 ((G.2.length:Nat):Int),c:=(m.c.1,(m.c.2.1,(m.c.2.2.1,(par G.2.length,(e.2.2.2.1,m.c.2.2.2.2.2))))),pm:=[] }) ⟨h.rng,h.len,l2,hc,rfl,rfl,Nat.zero_le _⟩ rfl rfl ?_;refine(congrArg (fun z=>Option.bind z _) l1).trans ?_;rw[Option.bind_some];simp only[flG,gm];rw[qc0 l2.ok,Option.bind_some,hf];simp only[Option.bind_some];rw[qaa l2.ok,Option.bind_some];simp only[Option.bind_some];rw[show(lastP G.1).2.2.1=(lastP G.1).turn from rfl,ht];rfl
theorem look_rng {cr:CRule} {c:Clk} {last now:Int} (hl:cr.1.length≤9223372036854775807) (h:GoodC cr c last):(lookC cr c now).2.2.2.2.2.2.1≤1:=by
  obtain⟨e,he⟩:=qoc cr c now hl;have hv:=h.v;have hu:=h.up;have h2:=he;unfold qbd at he;rw[qib cr c hl,Option.bind_some,if_pos h.ok,if_pos ((qtm cr c).2 hv)] at he;simp only[show((0:Int)!=0)=false from rfl,cond_false] at he;by_cases c1:qh now c.2.2.2.2.1 100000000=true
  · rw[c1,Bool.not_true,cond_false,hu] at he;simp only[show decide ((-1:Int)<0)=true from rfl,Bool.true_and,imp,cond_true] at he;rw[inb_iff.2 (by have:=hv.turn;omega),qb] at he;cases q:decide (qz cr c now>getD' [c.1.1,c.1.2.1] c.2.2.2.1.toNat 0)
    · rw[q] at he;simp only[cond_false,Option.bind_some,Option.some.injEq,Prod.mk.injEq] at he;rw[←he.1];show c.2.2.2.2.2.2.1≤1;omega
    · rw[q] at he;simp only[cond_true,Option.bind_some,qb,Option.some.injEq,Prod.mk.injEq] at he;rw[←he.1];exact hv.turn.2
  · rw[show qh now c.2.2.2.2.1 100000000=false by simpa using c1,Bool.not_false,cond_true] at he;simp only[Option.some.injEq,Prod.mk.injEq] at he;rw[←he.1];show(0:Int)≤1;omega
theorem fall_spec {r:Rules} {p:Place} (hr:Rng qbL r) (c:qad r=0) (hv:Valid r p) {pl:Int} (hpl:pl=0∨pl=1):qhT r p pl=some (fallR r p pl,(0,())):=by
  have hn:p.1.length≤9223372036854775807:=by have:=qcS hv;omega
  have w1:w64 ((1:Int)-pl)=1-pl:=qf (by omega) (by omega);have w2:w64 ((2:Int)-pl)=2-pl:=qf (by omega) (by omega)
  have cp':1-pl=0∨1-pl=1:=by omega
  unfold qhT fallR;rw[w1,w2,qrO r p pl hr hn,qrO r p _ hr hn,qxe c hv];simp only[if_true,if_pos hpl,if_pos cp',Option.bind_some,bne_self_eq_false,cond_false]
  cases ableR r p (1-pl)<;>rfl
theorem qui {r:Rules} {cr:CRule} {m:MS} {e:Ev} {last:Int} (hr:Rng qbL r) (hl:cr.1.length≤9223372036854775807) (hg:RG r m.g) (hk:GoodC cr m.c last) (hpm:pmErr m.pm=0)
    (hm:¬(e.2.2.1=2)→MID r cr m e.2.2.2.1):SpecK r cr m e.2.2.2.1 (qpz r cr m e) (qbf (tupM r cr m) e):=by
  have ht:=RG.turn m.g.2.length hg rfl;obtain⟨le,hle⟩:=qoc cr m.c e.2.2.2.1 hl;unfold qbf qpz;by_cases c1:e.2.2.1=2
  · rw[if_pos c1,beq_t c1,cond_true];simp only[show(tupM r cr m).2.1=cr from rfl,show(tupM r cr m).2.2.2.1.2.2.2.1=m.c from rfl];rw[hle,Option.bind_some];simp only;by_cases c2:(lookC cr m.c e.2.2.2.1).2.2.2.2.2.2.1<0
    · rw[if_pos c2,decide_eq_true c2,cond_true];exact⟨rfl,fun _=>rfl,fun q=>(by cases q),hg,hpm,⟨rfl,rfl⟩⟩
    · rw[if_neg c2,decide_eq_false c2,cond_false];have hf:=look_rng (now:=e.2.2.2.1) hl hk;simp only[show(tupM r cr m).2.2.1.1=r from rfl,show(tupM r cr m).2.2.1.2.1=m.g.1 from rfl,show(tupM r cr m).2.2.1.2.2.1=m.g.2 from rfl,show(tupM r cr m).1=r from rfl];rw[qaa hg.ok,Option.bind_some];have hfs:=fall_spec (pl:=(lookC cr m.c e.2.2.2.1).2.2.2.2.2.2.1) hr hg.ok.ok hg.ok.last (by omega);rw[qu4,hfs,Option.bind_some];refine⟨rfl,fun q=>absurd rfl q,fun _ q=>?_,hg,hpm,⟨rfl,rfl⟩⟩;exfalso;have q':fallR r (lastP m.g.1) (lookC cr m.c e.2.2.2.1).2.2.2.2.2.2.1=0:=q;unfold fallR at q'
      split at q'<;>omega
  · have h:=hm c1;rw[if_neg c1,beq_f c1,cond_false];simp only[qao,agree_self,show(tupM r cr m).2.2.1.1=r from rfl,show(tupM r cr m).2.2.1.2.1=m.g.1 from rfl,show(tupM r cr m).2.2.1.2.2.1=m.g.2 from rfl,qqI hg.ok,qaa hg.ok,Option.bind_some];rw[show(lastP m.g.1).2.2.1=(lastP m.g.1).turn from rfl,ht];have fin:∀b:Bool,(b=true↔(e.2.2.1=0∧3≤qeT m.g.1∨e.2.2.1=1∧20≤(lastP m.g.1).quiet))→(e.2.2.1=0∨e.2.2.1=1)→SpecK r cr m e.2.2.2.1
        (if e.2.2.1≠0∧e.2.2.1≠1 then(m,1) else if par m.g.2.length≠e.2.1 then(m,12) else if e.2.2.1=0∧3≤qeT m.g.1∨e.2.2.1=1∧20≤(lastP m.g.1).quiet then({ m with res:=3,rea:=5 },0) else(m,10))
        (bif (par m.g.2.length !=e.2.1) then some (tupM r cr m,(12:Int)) else bif (!b) then some (tupM r cr m,10) else some (tupM r cr { m with res:=3,rea:=5 },0)):=by
      intro b hb hn;rw[if_neg (by omega)];by_cases c2:par m.g.2.length=e.2.1
      rotate_left
      · rw[if_pos c2,bne_t c2,cond_true];exact SpecK.same h (by decide) rfl
      rw[if_neg (fun q=>q c2),bne_f c2,cond_false];cases b
      · rw[if_neg (fun q=>by cases hb.2 q)];exact SpecK.same h (by decide) rfl
      · rw[if_pos (hb.1 rfl)];exact⟨rfl,fun q=>absurd rfl q,fun _ q=>(by cases q),h.g,h.pm,⟨rfl,rfl⟩⟩
    by_cases d0:e.2.2.1=0
    · have:=fin (decide (3≤qeT m.g.1)) (by rw[decide_eq_true_eq];omega) (.inl d0);simp only[d0,beq_self_eq_true,gopt,cond_true,Option.bind_some,Bool.true_and];simp only[d0] at this;rw[show decide (((qeT m.g.1:Nat):Int)≥3)=decide (3≤qeT m.g.1) from by congr 1;apply propext;omega];cases hb:decide (3≤qeT m.g.1)
      · rw[hb] at this;exact this
      · rw[hb] at this;exact this
    by_cases d1:e.2.2.1=1
    · have:=fin (decide (20≤(lastP m.g.1).quiet)) (by rw[decide_eq_true_eq];omega) (.inr d1);simp only[d1] at this;simp only[d1,show((1:Int)==0)=false from rfl,gopt,cond_false,Option.bind_some,Bool.false_and,beq_self_eq_true,cond_true];exact this
    · rw[if_pos ⟨d0,d1⟩];simp only[beq_f d0,beq_f d1,gopt,cond_false,Option.bind_some,Bool.false_and,bne_t d0,bne_t d1,Bool.and_self,cond_true];exact SpecK.same h (by decide) rfl
theorem pm_add {l:List PM} (h:pmErr l=0) {pl:Int} (hpl:pl=0∨pl=1) (h4:(ofL l pl).length≠4) (x:Mv):pmErr (l++[(pl,(x,()))])=0:=by
  obtain⟨a,b,c⟩:=(qvJ l).1 h;rw[qmD] at h4;rw[qvJ];simp only[List.countP_append,List.countP_singleton];rcases hpl with rfl | rfl
  · exact⟨by show _+1≤4;omega,by show _+0≤4;omega,by show _+0=0;omega⟩
  · exact⟨by show _+0≤4;omega,by show _+1≤4;omega,by show _+0=0;omega⟩
theorem qrf {r:Rules} {cr:CRule} {m:MS} {e:Ev} (h:MID r cr m e.2.2.2.1) (hp:e.2.1=0∨e.2.1=1):SpecK r cr m e.2.2.2.1 (qks m e) (qaI (tupM r cr m) e):=by
  have ht:=RG.turn m.g.2.length h.g rfl;unfold qaI qks;simp only[qao,agree_self,show(tupM r cr m).2.2.1.1=r from rfl,show(tupM r cr m).2.2.1.2.1=m.g.1 from rfl,show(tupM r cr m).2.2.1.2.2.1=m.g.2 from rfl,qaa h.g.ok,Option.bind_some];rw[show(lastP m.g.1).2.2.1=(lastP m.g.1).turn from rfl,ht];by_cases c1:par m.g.2.length=e.2.1
  · rw[if_pos c1,beq_t c1,cond_true];exact SpecK.same h (by decide) rfl
  rw[if_neg c1,beq_f c1,cond_false,show(tupM r cr m).2.2.2.1.2.2.2.2.2.1=m.pm from rfl,addP_spec m.pm (by have:=h.few;omega),if_neg (show ¬(pmErr m.pm≠0) from fun q=>q h.pm),if_neg (show ¬(e.2.1≠0∧e.2.1≠1) by omega),Option.bind_some];by_cases c2:(ofL m.pm e.2.1).length=4
  · rw[if_pos c2,if_pos c2];exact SpecK.same h (by decide) rfl
  · rw[if_neg c2,if_neg c2];have hq:=pm_add h.pm hp c2 e.2.2.2.2.1;refine SpecK.done (m:=m) ?_ (by rfl) (by rfl) (by rfl);exact⟨h.rng,h.len,h.g,h.clk,h.turn,hq,pm_len hq⟩
theorem kind_spec {r:Rules} {cr:CRule} {m:MS} {e:Ev} {last:Int} (hr:Rng qbL r) (hl:cr.1.length≤9223372036854775807) (hg:RG r m.g) (hk:GoodC cr m.c last) (hpm:pmErr m.pm=0) (hp:e.2.1=0∨e.2.1=1) (h0:qae r m.g.1=0)
    (h6:0≤e.1∧e.1≤6) (hm:¬(e.1=4∨e.1=5∧e.2.2.1=2)→MID r cr m e.2.2.2.1):SpecK r cr m e.2.2.2.1 (kindM r cr m e) (qcE (tupM r cr m) e):=by
  have hy:qcE (tupM r cr m) e=if e.1=0 then qaP (tupM r cr m) e else if e.1=1∨e.1=3 then qaA (tupM r cr m) e else if e.1=2 then qaR (tupM r cr m) e else if e.1=5 then qbf (tupM r cr m) e
      else if e.1=6 then qaI (tupM r cr m) e else some (tupM r cr { m with res:=2-e.2.1,rea:=3 },0):=by
    have w:w64 (2-e.2.1)=2-e.2.1:=qf (by omega) (by omega)
    have et:∀y:Option (qjd×Int),(Option.bind y fun r6=>some ((r6.1.1,(r6.1.2.1,((r6.1.2.2.1.1,(r6.1.2.2.1.2.1,(r6.1.2.2.1.2.2.1,()))),r6.1.2.2.2))),r6.2))=y:=fun y=>by cases y<;>rfl
    unfold qcE;by_cases c0:e.1=0
    · rw[if_pos c0,beq_t c0,cond_true];exact et _
    rw[if_neg c0,beq_f c0,cond_false];by_cases c1:e.1=1
    · rw[if_pos (.inl c1),beq_t c1];exact et _
    rw[beq_f c1,cond_false];by_cases c3:e.1=3
    · rw[if_pos (.inr c3),beq_t c3];exact et _
    rw[if_neg (by omega),beq_f c3,Option.bind_some];simp only[cond_false];by_cases c2:e.1=2
    · rw[if_pos c2,beq_t c2,cond_true];exact et _
    rw[if_neg c2,beq_f c2,cond_false];by_cases c5:e.1=5
    · rw[if_pos c5,beq_t c5,cond_true];exact et _
    rw[if_neg c5,beq_f c5,cond_false];by_cases c6:e.1=6
    · rw[if_pos c6,beq_t c6,cond_true];exact et _
    rw[if_neg c6,beq_f c6,cond_false,w];rfl
  rw[hy];unfold kindM;by_cases c0:e.1=0
  · rw[if_pos c0,if_pos c0];exact qwt (hm (by omega)) h0
  rw[if_neg c0,if_neg c0];by_cases c1:e.1=1∨e.1=3
  · rw[if_pos c1,if_pos c1];exact qun (hm (by omega))
  rw[if_neg c1,if_neg c1];by_cases c2:e.1=2
  · rw[if_pos c2,if_pos c2];exact qsQ (hm (by omega)) h0
  rw[if_neg c2,if_neg c2];by_cases c5:e.1=5
  · rw[if_pos c5,if_pos c5];exact qui hr hl hg hk hpm (fun q=>hm (by omega))
  rw[if_neg c5,if_neg c5];by_cases c6:e.1=6
  · rw[if_pos c6,if_pos c6];exact qrf (hm (by omega)) hp
  rw[if_neg c6,if_neg c6];exact⟨rfl,fun q=>absurd rfl q,fun _ q=>absurd q (by show ¬(2-e.2.1=0);omega),hg,hpm,⟨rfl,rfl⟩⟩
theorem qvv {r:Rules} {cr:CRule} {m:MS} (hg:RG r m.g):qan (tupM r cr m)=some (tupM r cr (overM r m),()):=by
  unfold qan overM;simp only[show(tupM r cr m).2.2.1.1=r from rfl,show(tupM r cr m).2.2.1.2.1=m.g.1 from rfl,show(tupM r cr m).2.2.1.2.2.1=m.g.2 from rfl,qgw hg.ok,Option.bind_some,show(tupM r cr m).2.2.2.1.2.1=m.res from rfl];by_cases c:m.res=0
  · by_cases d:qae r m.g.1=0
    · rw[if_neg (fun q=>q.2 d),beq_t c,bne_f d];rfl
    · rw[if_pos ⟨c,d⟩,beq_t c,bne_t d];rfl
  · rw[if_neg (fun q=>c q.1),beq_f c];rfl
theorem qne (r:Rules) (m:MS):(overM r m).g=m.g∧(overM r m).pm=m.pm∧(overM r m).j=m.j∧(overM r m).last=m.last:=by
  unfold overM
  split<;>exact⟨rfl,rfl,rfl,rfl⟩
theorem qqo {r:Rules} {cr:CRule} {m:MS} (h:MOK r cr m) {e:Ev} (he:EvR e):qbj (tupM r cr m) e=some (tupM r cr (doM r cr m e).1,(doM r cr m e).2)∧MOK r cr (doM r cr m e).1:=by
  have et:(tupM r cr m)=((tupM r cr m).1,((tupM r cr m).2.1,(((tupM r cr m).2.2.1.1,((tupM r cr m).2.2.1.2.1,((tupM r cr m).2.2.1.2.2.1,()))),(tupM r cr m).2.2.2))):=rfl;obtain⟨le,hle⟩:=qoc cr m.c e.2.2.2.1 h.len;unfold qbj doM;rw[←et];simp only[show(tupM r cr m).2.1=cr from rfl,show(tupM r cr m).2.2.2.1.2.1=m.res from rfl,show(tupM r cr m).2.2.2.1.2.2.2.1=m.c from rfl,show(tupM r cr m).2.2.2.2.1=m.last from rfl,show(tupM r cr m).2.2.2.2.2.1=m.j from rfl];by_cases c1:(e.1<0∨6<e.1)∨(e.2.1≠0∧e.2.1≠1)
  · rw[if_pos c1,show(((decide (e.1<(0:Int)))||(decide (e.1>(6:Int))))||((e.2.1 !=(0:Int))&&(e.2.1 !=(1:Int))))=true by
      simp only[bneI,Bool.or_eq_true,Bool.and_eq_true,decide_eq_true_eq];omega,cond_true]
    exact⟨rfl,h⟩
  rw[if_neg c1,show(((decide (e.1<(0:Int)))||(decide (e.1>(6:Int))))||((e.2.1 !=(0:Int))&&(e.2.1 !=(1:Int))))=false by
      rw[Bool.eq_false_iff];intro q;simp only[bneI,Bool.or_eq_true,Bool.and_eq_true,decide_eq_true_eq] at q;omega,cond_false]
  by_cases c2:e.2.2.2.1<m.last∨100000000<e.2.2.2.1
  · rw[if_pos c2,show((decide (e.2.2.2.1<m.last))||(decide (e.2.2.2.1>(100000000:Int))))=true by simp only[Bool.or_eq_true,decide_eq_true_eq];omega,cond_true];exact⟨rfl,h⟩
  rw[if_neg c2,show((decide (e.2.2.2.1<m.last))||(decide (e.2.2.2.1>(100000000:Int))))=false by rw[Bool.eq_false_iff];intro q;simp only[Bool.or_eq_true,decide_eq_true_eq] at q;omega,cond_false];by_cases c3:m.res=0
  rotate_left
  · rw[if_pos c3,bne_t c3,cond_true];exact⟨rfl,h⟩
  rw[if_neg (fun q=>q c3),bne_f c3,cond_false];by_cases c4:m.j.length=1000
  · rw[if_pos c4,c4];exact⟨rfl,h⟩
  rw[if_neg c4,beq_f (show ¬((m.j.length:Nat):Int)=1000 by omega),cond_false,hle,Option.bind_some];simp only;have hk:=h.clk c3;by_cases c5:(0≤(lookC cr m.c e.2.2.2.1).2.2.2.2.2.2.1∧e.1≠4)∧¬(e.1=5∧e.2.2.1=2)
  · rw[if_pos c5,show(((decide ((lookC cr m.c e.2.2.2.1).2.2.2.2.2.2.1≥(0:Int)))&&(e.1 !=(4:Int)))&&(!((e.1==(5:Int))&&(e.2.2.1==(2:Int)))))=true by
      simp only[bneI,Bool.and_eq_true,decide_eq_true_eq,Bool.not_eq_true',←Bool.not_eq_true,beq_iff_eq];exact c5,cond_true]
    exact⟨rfl,h⟩
  rw[if_neg c5,show(((decide ((lookC cr m.c e.2.2.2.1).2.2.2.2.2.2.1≥(0:Int)))&&(e.1 !=(4:Int)))&&(!((e.1==(5:Int))&&(e.2.2.1==(2:Int)))))=false by
      rw[Bool.eq_false_iff];intro q;simp only[bneI,Bool.and_eq_true,decide_eq_true_eq,Bool.not_eq_true',←Bool.not_eq_true,beq_iff_eq] at q;exact c5 q,cond_false]
  have hs:=kind_spec (e:=e) h.rng h.len h.g hk h.pm (by omega) (h.opn c3) (by omega) (fun q=>by
    have hf:(lookC cr m.c e.2.2.2.1).2.2.2.2.2.2.1<0:=by
      by_cases q1:e.1=4
      · exact absurd (.inl q1) q
      · by_cases q2:e.1=5∧e.2.2.1=2
        · exact absurd (.inr q2) q
        · have:=fun a=>c5 ⟨⟨a,q1⟩,q2⟩;omega
    exact⟨h.rng,h.len,h.g,good_of h.len hle hf hk.run,h.turn c3,h.pm,h.few⟩)
  obtain⟨s1,s2,s3,s4,s5,s6⟩:=hs;rw[s1,Option.bind_some];by_cases c6:(kindM r cr m e).2=0
  rotate_left
  · rw[if_pos c6,bne_t c6,cond_true,s2 c6];exact⟨rfl,h⟩
  rw[if_neg (fun q=>q c6),bne_f c6,cond_false];simp only[show(tupM r cr (kindM r cr m e).1).2.2.2.2.2.1=(kindM r cr m e).1.j from rfl]
  have hj:JOK (kindM r cr m e).1.j:=by rw[s6.2];exact h.j
  obtain⟨j1,j2⟩:=qsB hj (by rw[s6.2];have:=h.j.1;omega) (entry_ok e he);rw[qys e he,Option.bind_some,j1,Option.bind_some];have ho:=qvv (r:=r) (cr:=cr) (m:={ (kindM r cr m e).1 with last:=e.2.2.2.1,j:=nextJ (kindM r cr m e).1.j (qb2 e) }) s4;rw[show((tupM r cr (kindM r cr m e).1).1,((tupM r cr (kindM r cr m e).1).2.1,(((tupM r cr (kindM r cr m e).1).2.2.1.1,((tupM r cr (kindM r cr m e).1).2.2.1.2.1,((tupM r cr (kindM r cr m e).1).2.2.1.2.2.1,()))),((tupM r cr (kindM r cr m e).1).2.2.2.1,(e.2.2.2.1,(nextJ (kindM r cr m e).1.j (qb2 e),()))))))=tupM r cr { (kindM r cr m e).1 with last:=e.2.2.2.1,j:=nextJ (kindM r cr m e).1.j (qb2 e) } from rfl,ho,Option.bind_some];refine⟨rfl,?_⟩;show MOK r cr (doneM r (kindM r cr m e).1 e);unfold doneM
  have hg':∀x:MS,(overM r x).g=x.g∧(overM r x).c=x.c∧(overM r x).pm=x.pm∧(overM r x).j=x.j∧(overM r x).last=x.last∧((overM r x).res=0→x.res=0∧qae r x.g.1=0):=fun x=>by
    unfold overM;split
    · rename_i q;exact⟨rfl,rfl,rfl,rfl,rfl,fun z=>absurd z q.2⟩
    · rename_i q
      exact⟨rfl,rfl,rfl,rfl,rfl,fun z=>⟨z,by
        by_cases w:qae r x.g.1=0
        · exact w
        · exact absurd ⟨z,w⟩ q⟩⟩
  obtain⟨g1,g2,g3,g4,g5,g6⟩:=hg' { (kindM r cr m e).1 with last:=e.2.2.2.1,j:=nextJ (kindM r cr m e).1.j (qb2 e) };refine⟨h.rng,h.len,by rw[g1];exact s4,h.cok,fun q=>?_,fun q=>?_,fun q=>?_,by rw[g3];exact s5,by rw[g3];exact pm_len s5,by rw[g4];exact j2⟩
  · rw[g2,g5];exact(s3 c6 (g6 q).1).clk
  · rw[g1,g2];exact(s3 c6 (g6 q).1).turn
  · rw[g1];exact(g6 q).2

theorem qb6 {n:Int} (h:I64 n):qd9 (numS n)=some (n,(true,())):=by
  unfold qd9;rw[atoi_num h,Option.bind_some];simp only[gopt,Bool.not_false,cond_true];rw[qmj h,Option.bind_some];simp
theorem quj {e:Ev} (h:EvR e):qbH (qb2 e)=some (e,(0,())):=by
  have hs:qse (qb2 e) (ByteArray.mk #[32])=some ((evL e).map numS):=by
    refine qwj 32 _ (by simp[evL]) (by have:=qot e h;unfold qb2 at this;omega) (fun x hx=>?_);obtain⟨n,hn,rfl⟩:=List.mem_map.1 hx;intro q;have:=qwf n _ q;rw[show(32:UInt8).toNat=32 from rfl] at this;omega
  have hloop:iterW (qs ((evL e).map numS)) (((0:Int),()),(((0:Int),((0:Int),((0:Int),((0:Int),((0:Int),((0:Int),((0:Int),()))))))),(((0:Int),((0:Int),((0:Int),((0:Int),((0:Int),((0:Int),((0:Int),()))))))),())))=some (.inl ((),(((0:Int),((0:Int),((0:Int),((0:Int),((0:Int),((0:Int),((0:Int),()))))))),((e.1,(e.2.1,(e.2.2.1,(e.2.2.2.1,(e.2.2.2.2.1.1,(e.2.2.2.2.1.2.1,(e.2.2.2.2.1.2.2.1,()))))))),())))):=by
    have s0:qs ((evL e).map numS) (((0:Int),()),(((0:Int),((0:Int),((0:Int),((0:Int),((0:Int),((0:Int),((0:Int),()))))))),(((0:Int),((0:Int),((0:Int),((0:Int),((0:Int),((0:Int),((0:Int),()))))))),())))=some (.inl (((1:Int),()),(((0:Int),((0:Int),((0:Int),((0:Int),((0:Int),((0:Int),((0:Int),()))))))),((e.1,((0:Int),((0:Int),((0:Int),((0:Int),((0:Int),((0:Int),()))))))),())))):=by
      unfold qs;simp only[show decide ((0:Int)<((((evL e).map numS).length:Nat):Int))=true from rfl,cond_true,show at? ((evL e).map numS) (0:Int)=some (numS e.1) from rfl,Option.bind_some,qb6 h.kind,show inb (0:Int) 7=true from rfl,qb,Bool.not_true,cond_false];rfl
    have s1:qs ((evL e).map numS) (((1:Int),()),(((0:Int),((0:Int),((0:Int),((0:Int),((0:Int),((0:Int),((0:Int),()))))))),((e.1,((0:Int),((0:Int),((0:Int),((0:Int),((0:Int),((0:Int),()))))))),())))=some (.inl (((2:Int),()),(((0:Int),((0:Int),((0:Int),((0:Int),((0:Int),((0:Int),((0:Int),()))))))),((e.1,(e.2.1,((0:Int),((0:Int),((0:Int),((0:Int),((0:Int),()))))))),())))):=by
      unfold qs;simp only[show decide ((1:Int)<((((evL e).map numS).length:Nat):Int))=true from rfl,cond_true,show at? ((evL e).map numS) (1:Int)=some (numS e.2.1) from rfl,Option.bind_some,qb6 h.player,show inb (1:Int) 7=true from rfl,qb,Bool.not_true,cond_false];rfl
    have s2:qs ((evL e).map numS) (((2:Int),()),(((0:Int),((0:Int),((0:Int),((0:Int),((0:Int),((0:Int),((0:Int),()))))))),((e.1,(e.2.1,((0:Int),((0:Int),((0:Int),((0:Int),((0:Int),()))))))),())))=some (.inl (((3:Int),()),(((0:Int),((0:Int),((0:Int),((0:Int),((0:Int),((0:Int),((0:Int),()))))))),((e.1,(e.2.1,(e.2.2.1,((0:Int),((0:Int),((0:Int),((0:Int),()))))))),())))):=by
      unfold qs;simp only[show decide ((2:Int)<((((evL e).map numS).length:Nat):Int))=true from rfl,cond_true,show at? ((evL e).map numS) (2:Int)=some (numS e.2.2.1) from rfl,Option.bind_some,qb6 h.n,show inb (2:Int) 7=true from rfl,qb,Bool.not_true,cond_false];rfl
    have s3:qs ((evL e).map numS) (((3:Int),()),(((0:Int),((0:Int),((0:Int),((0:Int),((0:Int),((0:Int),((0:Int),()))))))),((e.1,(e.2.1,(e.2.2.1,((0:Int),((0:Int),((0:Int),((0:Int),()))))))),())))=some (.inl (((4:Int),()),(((0:Int),((0:Int),((0:Int),((0:Int),((0:Int),((0:Int),((0:Int),()))))))),((e.1,(e.2.1,(e.2.2.1,(e.2.2.2.1,((0:Int),((0:Int),((0:Int),()))))))),())))):=by
      unfold qs;simp only[show decide ((3:Int)<((((evL e).map numS).length:Nat):Int))=true from rfl,cond_true,show at? ((evL e).map numS) (3:Int)=some (numS e.2.2.2.1) from rfl,Option.bind_some,qb6 h.now,show inb (3:Int) 7=true from rfl,qb,Bool.not_true,cond_false];rfl
    have s4:qs ((evL e).map numS) (((4:Int),()),(((0:Int),((0:Int),((0:Int),((0:Int),((0:Int),((0:Int),((0:Int),()))))))),((e.1,(e.2.1,(e.2.2.1,(e.2.2.2.1,((0:Int),((0:Int),((0:Int),()))))))),())))=some (.inl (((5:Int),()),(((0:Int),((0:Int),((0:Int),((0:Int),((0:Int),((0:Int),((0:Int),()))))))),((e.1,(e.2.1,(e.2.2.1,(e.2.2.2.1,(e.2.2.2.2.1.1,((0:Int),((0:Int),()))))))),())))):=by
      unfold qs;simp only[show decide ((4:Int)<((((evL e).map numS).length:Nat):Int))=true from rfl,cond_true,show at? ((evL e).map numS) (4:Int)=some (numS e.2.2.2.2.1.1) from rfl,Option.bind_some,qb6 h.a,show inb (4:Int) 7=true from rfl,qb,Bool.not_true,cond_false];rfl
    have s5:qs ((evL e).map numS) (((5:Int),()),(((0:Int),((0:Int),((0:Int),((0:Int),((0:Int),((0:Int),((0:Int),()))))))),((e.1,(e.2.1,(e.2.2.1,(e.2.2.2.1,(e.2.2.2.2.1.1,((0:Int),((0:Int),()))))))),())))=some (.inl (((6:Int),()),(((0:Int),((0:Int),((0:Int),((0:Int),((0:Int),((0:Int),((0:Int),()))))))),((e.1,(e.2.1,(e.2.2.1,(e.2.2.2.1,(e.2.2.2.2.1.1,(e.2.2.2.2.1.2.1,((0:Int),()))))))),())))):=by
      unfold qs;simp only[show decide ((5:Int)<((((evL e).map numS).length:Nat):Int))=true from rfl,cond_true,show at? ((evL e).map numS) (5:Int)=some (numS e.2.2.2.2.1.2.1) from rfl,Option.bind_some,qb6 h.b,show inb (5:Int) 7=true from rfl,qb,Bool.not_true,cond_false];rfl
    have s6:qs ((evL e).map numS) (((6:Int),()),(((0:Int),((0:Int),((0:Int),((0:Int),((0:Int),((0:Int),((0:Int),()))))))),((e.1,(e.2.1,(e.2.2.1,(e.2.2.2.1,(e.2.2.2.2.1.1,(e.2.2.2.2.1.2.1,((0:Int),()))))))),())))=some (.inl (((7:Int),()),(((0:Int),((0:Int),((0:Int),((0:Int),((0:Int),((0:Int),((0:Int),()))))))),((e.1,(e.2.1,(e.2.2.1,(e.2.2.2.1,(e.2.2.2.2.1.1,(e.2.2.2.2.1.2.1,(e.2.2.2.2.1.2.2.1,()))))))),())))):=by
      unfold qs;simp only[show decide ((6:Int)<((((evL e).map numS).length:Nat):Int))=true from rfl,cond_true,show at? ((evL e).map numS) (6:Int)=some (numS e.2.2.2.2.1.2.2.1) from rfl,Option.bind_some,qb6 h.c,show inb (6:Int) 7=true from rfl,qb,Bool.not_true,cond_false];rfl
    have s7:qs ((evL e).map numS) (((7:Int),()),(((0:Int),((0:Int),((0:Int),((0:Int),((0:Int),((0:Int),((0:Int),()))))))),((e.1,(e.2.1,(e.2.2.1,(e.2.2.2.1,(e.2.2.2.2.1.1,(e.2.2.2.2.1.2.1,(e.2.2.2.2.1.2.2.1,()))))))),())))=some (.inr (.inl ((),(((0:Int),((0:Int),((0:Int),((0:Int),((0:Int),((0:Int),((0:Int),()))))))),((e.1,(e.2.1,(e.2.2.1,(e.2.2.2.1,(e.2.2.2.2.1.1,(e.2.2.2.2.1.2.1,(e.2.2.2.2.1.2.2.1,()))))))),()))))):=rfl;rw[qo s0,qo s1,qo s2,qo s3,qo s4,qo s5,qo s6,qm s7]
  unfold qbH;rw[hs,Option.bind_some,show(((((evL e).map numS).length:Nat):Int)!=7)=false from rfl,cond_false,hloop];rfl
noncomputable def startC (cr:CRule) (now:Int):Clk:=(((perAt cr 0).2.1,((perAt cr 0).2.1,())),((0,(0,())),((0,(0,())),(0,(now,(false,(-1,())))))))
theorem qnX (cr:CRule) (now:Int) (hl:cr.1.length≤9223372036854775807):qba cr now=some (if chkC cr=0 then if 0≤now∧now≤100000000 then(startC cr now,(0,())) else(dClk,(11,())) else(dClk,(chkC cr,()))):=by
  unfold qba;rw[qp5 cr hl,Option.bind_some];by_cases c:chkC cr=0
  · rw[if_pos c,bne_f c,cond_false];have hcr:=qlF c;have hw:qh now 0 100000000=decide (0≤now∧now≤100000000):=by
      rw[Bool.eq_iff_iff,qd0,decide_eq_true_eq]
    rw[hw];by_cases d:0≤now∧now≤100000000
    · rw[if_pos d,decide_eq_true d,Bool.not_true,cond_false,(qll hcr (k:=0) (by omega) (by have:=hcr.len;omega)).1,Option.bind_some];rfl
    · rw[if_neg d,decide_eq_false d];rfl
  · rw[if_neg c,bne_t c,cond_true];rfl
theorem qsi {cr:CRule} (h:chkC cr=0):qcf cr=some cr:=by
  have hcr:=(qlF h).len;unfold qcf;have:qau cr.1=some cr.1:=by
    unfold qau;have hr:room (([]:List (Int×Int×Unit)).length+cr.1.length) 16=true:=qS (by simp only[List.length_nil];omega);rw[hr]
    cases cr.1 with
    | nil=>simp[qb,agree_self]
    | cons a l=>simp[qb]
  rw[this,Option.bind_some]
theorem qsa {cr:CRule} {now:Int} (c:chkC cr=0) (h:0≤now∧now≤100000000):GoodC cr (startC cr now) now:=by
  have hcr:=qlF c;have hlen:=hcr.len;have hd:=hcr.del;obtain⟨_,_,h2,_⟩:=qll hcr (k:=0) (by omega) (by omega)
  have hv:VC cr (startC cr now):=⟨⟨Int.le_refl _,by show(0:Int)≤1;omega⟩,⟨Int.le_refl _,by show(-1:Int)≤1;omega⟩,h,⟨Int.le_refl _,by show(0:Int)≤_;omega⟩,⟨Int.le_refl _,by show(0:Int)≤_;omega⟩,
    ⟨Int.le_refl _,by show(0:Int)≤400;omega⟩,⟨Int.le_refl _,by show(0:Int)≤400;omega⟩,⟨by show 0≤(perAt cr 0).2.1;omega,by show(perAt cr 0).2.1≤_;omega⟩,⟨by show 0≤(perAt cr 0).2.1;omega,by show(perAt cr 0).2.1≤_;omega⟩⟩
  refine⟨c,hv,Int.le_refl _,h.2,rfl,rfl,?_⟩;have hn:=left_nn hv;show max 0 (now-now-cr.2.2.1)≤_;omega
def startB:ByteArray:=ByteArray.mk #[115,116,97,114,116,32]
def qa6 (now:Int):ByteArray:=startB++numS now
theorem qkp {n:Int} (h:I64 n):(qa6 n).size≤27∧qG startB (numS n)=true:=by
  have h1:=qsR h;have h2:startB.size=6:=rfl;refine⟨by unfold qa6;rw[ByteArray.size_append];omega,?_⟩;unfold qG;rw[Nat.ble_eq];omega
theorem start_okt {n:Int} (h:I64 n):OKT (qa6 n):=by
  refine⟨by have:=(qkp h).1;omega,fun c hc=>?_⟩;unfold qa6 at hc;rw[qg3] at hc;rcases List.mem_append.1 hc with hc | hc
  · have:c∈[115,116,97,114,116,32]:=hc;simp only[List.mem_cons,List.not_mem_nil,or_false] at this
    rcases this with rfl | rfl | rfl | rfl | rfl | rfl<;>decide
  · have:=qwf n c hc;omega
theorem jok_nil:JOK []:=⟨Nat.zero_le _,fun i hi=>absurd hi (Nat.not_lt_zero _)⟩
theorem qgH {n:Int} (h:I64 n):qM [] (qa6 n)=some (nextJ [] (qa6 n),(0,()))∧JOK (nextJ [] (qa6 n)):=qsB jok_nil (Nat.zero_lt_succ _) (start_okt h)
def off0:Offs:=((-1,(-1,())),(((-1,(-1,())),((-1,(-1,())),())),()))
noncomputable def rawM (r:Rules) (cr:CRule) (now:Int):MS:={ g:=([qaH r],[]),res:=0,rea:=0,c:=startC cr now,o:=off0,pm:=[],last:=now,j:=nextJ [] (qa6 now) }
noncomputable def newM (r:Rules) (cr:CRule) (now:Int):MS:=overM r (rawM r cr now)
theorem qs0 {r:Rules} {cr:CRule} {now:Int} (c:qad r=0):qan (tupM r cr (rawM r cr now))=some (tupM r cr (newM r cr now),()):=qvv (RG.begin c)
theorem over_ok {r:Rules} {m:MS}:(overM r m).c=m.c∧(overM r m).o=m.o∧((overM r m).res=0→m.res=0∧qae r m.g.1=0):=by
  unfold overM;split
  · rename_i q;exact⟨rfl,rfl,fun z=>absurd z q.2⟩
  · rename_i q
    exact⟨rfl,rfl,fun z=>⟨z,by
      by_cases w:qae r m.g.1=0
      · exact w
      · exact absurd ⟨z,w⟩ q⟩⟩
theorem qwo {r:Rules} {cr:CRule} {now:Int} (hr:Rng qbL r) (hl:cr.1.length≤9223372036854775807) (c:qad r=0) (c1:chkC cr=0) (h:0≤now∧now≤100000000):MOK r cr (newM r cr now):=by
  obtain⟨g1,g2,g3,g4⟩:=qne r (rawM r cr now);obtain⟨g5,g6,g7⟩:=over_ok (r:=r) (m:=rawM r cr now);unfold newM;refine⟨hr,hl,by rw[g1];exact RG.begin c,c1,fun q=>?_,fun q=>?_,fun q=>?_,by rw[g2];rfl,by rw[g2];exact Nat.zero_le _,by rw[g3];exact(qgH ⟨by omega,by omega⟩).2⟩
  · rw[g5,g4];exact qsa c1 h
  · rw[g5,g1];rfl
  · rw[g1];exact(g7 q).2

theorem look_same {cr:CRule} {c:Clk} {now:Int} (hl:cr.1.length≤9223372036854775807) (h:GoodC cr c now):lookC cr c now=c:=by
  unfold lookC;rw[quf hl h];rfl
theorem ann_nil {r:Rules} {cr:CRule} {now:Int} {m:MS} (h:m.pm=[]):annM r cr now 1 m=m:=by
  unfold annM;have hn:∀p:Place,nextP r p []=((0,(0,(0,()))),(false,([],()))):=fun p=>rfl;rw[h,hn];split
  · rw[if_neg (by decide)];cases m;simp only at h;rw[h]
  · rfl
structure Moved (r:Rules) (cr:CRule) (m:MS) (x:Mv) (now:Int) (y:MS×Int):Prop where
  ok:y.2=0
  g:y.1.g=nextG r m.g x
  c:y.1.c=qg5 cr m.c now
  pm:y.1.pm=[]
  last:y.1.last=now
  j:y.1.j.length=m.j.length+1
  res:y.1.res=qae r (nextG r m.g x).1
theorem do_moved {r:Rules} {cr:CRule} {m:MS} (h:MOK r cr m) {e:Ev} (h0:m.res=0) (h1:e.1=0) (h2:e.2.1=par m.g.2.length) (h3:m.last≤e.2.2.2.1) (hj:m.j.length<1000) (hg:GoodC cr m.c e.2.2.2.1)
    (hx:qI r (lastP m.g.1) e.2.2.2.2.1=true) (hl:m.g.2.length<400) (hpm:m.pm=[]):Moved r cr m e.2.2.2.2.1 e.2.2.2.1 (doM r cr m e):=by
  have hp:=par_rng m.g.2.length;have hn:=hg.now1;have ho:=h.opn h0
  have hmem:e.2.2.2.2.1∈openM r (lastP m.g.1):=openM_mem.2 ⟨by
    unfold qae at ho;by_cases w:((qdN r (lastP m.g.1)==0)&&(r.repeats !=0))&&decide (((qeT m.g.1:Nat):Int)≥r.repeats)
    · rw[w,cond_true] at ho;cases ho
    · rw[show(((qdN r (lastP m.g.1)==0)&&(r.repeats !=0))&&decide (((qeT m.g.1:Nat):Int)≥r.repeats))=false by simpa using w,cond_false] at ho
      exact ho,hx⟩
  have hk:kindM r cr m e=(moveM r cr m e.2.2.2.2.1 e.2.2.2.1,0):=by
    unfold kindM qp9;rw[if_pos h1,if_neg (fun q=>q h2.symm),if_neg (fun q=>q hmem),if_neg (by omega),hpm];rw[show([]:List PM).length+1=1 from rfl,ann_nil (by exact hpm)]
  have hd:doM r cr m e=(doneM r (moveM r cr m e.2.2.2.2.1 e.2.2.2.1) e,0):=by
    unfold doM;rw[if_neg (by omega),if_neg (by omega),if_neg (fun q=>q h0),if_neg (by omega),look_same h.len hg,if_neg (by have:=hg.up;omega),hk,if_neg (fun q=>q rfl)]
  rw[hd];unfold doneM;obtain⟨g1,g2,g3,g4⟩:=qne r { moveM r cr m e.2.2.2.2.1 e.2.2.2.1 with last:=e.2.2.2.1,j:=nextJ (moveM r cr m e.2.2.2.2.1 e.2.2.2.1).j (qb2 e) };refine⟨rfl,g1,over_ok.1,by rw[g2];exact hpm,g4,by rw[g3];unfold nextJ;simp;rfl,?_⟩;unfold overM;split
  · rfl
  · rename_i q;by_cases w:qae r (nextG r m.g e.2.2.2.2.1).1=0
    · rw[w];exact h0
    · exact absurd ⟨h0,w⟩ q

theorem qpO {r:Rules} {cr:CRule} {m:MS} (h:MOK r cr m):qv (r,(m.g.1,(m.g.2,())))=some m.g.2∧qx m.pm=some m.pm:=⟨qc0 h.g.ok,qwc m.pm (by have:=h.few;omega)⟩
def demoX:Rec:=([],(ByteArray.mk #[],([(-1,((-1,(4,(0,()))),(ByteArray.mk #[],())))],(0,()))))
theorem demoX_rng:Rng tyRec demoX:=qlO _ _ (by decide +kernel)
theorem demoX_ok:recErr gamehalltopH10Tic demoX=0:=by decide +kernel
theorem qhB:Rng qbL gamehalltopH10Tic:=qlO _ _ (by decide +kernel)
theorem qeO:qad gamehalltopH10Tic=0:=by decide +kernel
theorem qsg:VR0 gamehalltopH10Tic:=qbx qeO
abbrev demoM:Mv:=(-1,(4,(0,())))
abbrev demoT:ByteArray:=ByteArray.mk #[83,64,98,50]
theorem quW:qI gamehalltopH10Tic (qaH gamehalltopH10Tic) demoM=true:=by decide +kernel
theorem demo_of (p:Place) (l:List Mv):qkc gamehalltopH10Tic p l demoM=some demoT:=by
  unfold qkc;rw[show decide ((demoM.1:Int)<0)=true from rfl,cond_true];decide +kernel
theorem demo_one:qa9 (gamehalltopH10Tic,(demoX,())) (qaH gamehalltopH10Tic) 0=some ((gamehalltopH10Tic,(demoX,())),[demoT]):=by
  have hv:=qlN qsg;unfold qa9;have ha:at? demoX.2.2.1 0=some (-1,(demoM,(ByteArray.mk #[],()))):=rfl;simp only[qtZ,qu4,qm2 hv,Option.bind_some,ha,demo_of,qao,agree_self];rw[show(!((ByteArray.mk #[]).toList==(ByteArray.mk #[]).toList))=false by decide +kernel,cond_false,Option.bind_some]
theorem demo_kids:qft demoX (-1)=some [0]:=by
  rw[qu8 demoX (-1) (by decide)];rfl
theorem qyg:qft demoX 0=some []:=by
  rw[qu8 demoX 0 (by decide)];rfl
theorem qyp:qeb (gamehalltopH10Tic,(demoX,())) (qaH gamehalltopH10Tic) (-1)=some ((gamehalltopH10Tic,(demoX,())),[demoT]):=by
  have hv:=qlN qsg;refine fixW_ind qiO (fun x=>x=((gamehalltopH10Tic,(demoX,())),qaH gamehalltopH10Tic,(-1:Int),())∨x=((gamehalltopH10Tic,(demoX,())),qlE gamehalltopH10Tic (qaH gamehalltopH10Tic) demoM,(0:Int),())) (fun x=>bif x.2.2.1==0 then 0 else 1) (fun x=>((gamehalltopH10Tic,(demoX,())),bif x.2.2.1==0 then [] else [demoT])) ?_ _ (.inl rfl)
  rintro φ x (rfl | rfl) hI
  · have hs:=hI _ (.inr rfl) (by decide);show qal φ (gamehalltopH10Tic,(demoX,())) (qaH gamehalltopH10Tic) (-1)=_;unfold qal;have ha:at? demoX.2.2.1 0=some (-1,(demoM,(ByteArray.mk #[],()))):=rfl;simp only[qtZ,demo_kids,Option.bind_some];rw[show((((([0]:List Int).length:Nat):Int))==0)=false from rfl,cond_false];rw[show inb 0 ([0]:List Int).length=true from rfl,qb,show getD' ([0]:List Int) 0 0=0 from rfl,demo_one,Option.bind_some];rw[show qe 1 (((([0]:List Int).length:Nat):Int)) ([0]:List Int).length=true from rfl,qb]
    rw[qm (r:=(([demoT],()),((gamehalltopH10Tic.1,(gamehalltopH10Tic.2.1,(gamehalltopH10Tic.2.2.1,(gamehalltopH10Tic.2.2.2.1,(gamehalltopH10Tic.2.2.2.2.1,(gamehalltopH10Tic.2.2.2.2.2.1,(gamehalltopH10Tic.2.2.2.2.2.2.1,(gamehalltopH10Tic.2.2.2.2.2.2.2.1,(gamehalltopH10Tic.2.2.2.2.2.2.2.2.1,(gamehalltopH10Tic.2.2.2.2.2.2.2.2.2.1,(gamehalltopH10Tic.2.2.2.2.2.2.2.2.2.2.1,demoX))))))))))),()))) rfl,Option.bind_some];simp only[qb,qtZ,qu4,ha,Option.bind_some,quB hv quW,hs,qao,agree_self];rfl
  · show qal φ (gamehalltopH10Tic,(demoX,())) (qlE gamehalltopH10Tic (qaH gamehalltopH10Tic) demoM) 0=_;unfold qal;simp only[qtZ,qyg,Option.bind_some];rfl
theorem demo_text:qhm gamehalltopH10Tic demoX=some (ByteArray.mk #[83,64,98,50,32,42,10],(0,())):=by
  unfold qhm;rw[qwI qhB demoX demoX_rng (by decide),demoX_ok,Option.bind_some];rw[show((0:Int)!=0)=false from rfl,cond_false];rw[qm (r:=((),(([]:List Int),()))) rfl,Option.bind_some];rw[show(!(demoX.2.1.toList==(ByteArray.mk #[]).toList))=false by decide +kernel,cond_false,Option.bind_some];rw[qkj _ qhB,if_pos qeO,Option.bind_some];simp only[qu4,qyp,Option.bind_some,qao,agree_self];decide +kernel
theorem qyf (l:Jn) (s:ByteArray):(nextJ l s).length=l.length+1:=by unfold nextJ;simp
def evP:Ev:=(0,(0,(0,(10,((-1,(4,(0,()))),())))))
theorem qjp:chkC gamehalltopH10Minute=0:=by decide +kernel
theorem plays_M:(doM gamehalltopH10Tic gamehalltopH10Minute (newM gamehalltopH10Tic gamehalltopH10Minute 0) evP).2=0∧(doM gamehalltopH10Tic gamehalltopH10Minute (newM gamehalltopH10Tic gamehalltopH10Minute 0) evP).1.g.2.length=1∧(doM gamehalltopH10Tic gamehalltopH10Minute (newM gamehalltopH10Tic gamehalltopH10Minute 0) evP).1.c.1.1=60990:=by
  have hm:=qwo (cr:=gamehalltopH10Minute) (now:=0) qhB (by decide) qeO qjp ⟨by decide,by decide⟩
  have h0:qae gamehalltopH10Tic [qaH gamehalltopH10Tic]=0:=by decide +kernel
  have hn:newM gamehalltopH10Tic gamehalltopH10Minute 0=rawM gamehalltopH10Tic gamehalltopH10Minute 0:=by
    unfold newM overM;rw[if_neg (fun q=>q.2 h0)]
  rw[hn] at hm ⊢;have hg:GoodC gamehalltopH10Minute (rawM gamehalltopH10Tic gamehalltopH10Minute 0).c 10:=by
    have:=qsa (cr:=gamehalltopH10Minute) (now:=0) qjp ⟨by decide,by decide⟩;refine⟨this.ok,this.v,?_,by decide,this.up,this.run,?_⟩
    · show(0:Int)≤10;decide
    · show max 0 ((10:Int)-0-gamehalltopH10Minute.2.2.1)≤leftT (startC gamehalltopH10Minute 0);decide +kernel
  have:=do_moved hm (e:=evP) rfl rfl rfl (by show(0:Int)≤10;decide) (by show(nextJ [] (qa6 0)).length<1000;rw[qyf];decide) hg (by decide +kernel) (by decide) rfl;refine⟨this.ok,?_,?_⟩
  · rw[this.g];rfl
  · rw[this.c];show(qg5 gamehalltopH10Minute (startC gamehalltopH10Minute 0) 10).1.1=60990;decide +kernel
theorem qyn:qbs=some true:=by
  have hm:=qwo (cr:=gamehalltopH10Minute) (now:=0) qhB (by decide) qeO qjp ⟨by decide,by decide⟩;have z64:I64 0:=⟨by decide,by decide⟩;have he:EvR evP:=⟨z64,z64,z64,⟨by decide,by decide⟩,⟨by decide,by decide⟩,⟨by decide,by decide⟩,⟨by decide,by decide⟩⟩;obtain⟨d1,d2⟩:=qqo hm he;obtain⟨e1,e2⟩:=qpO d2;obtain⟨p1,p2,p3⟩:=plays_M;unfold qbs;simp only[qao,agree_self];refine(congrArg (fun z=>Option.bind z _) (qkj gamehalltopH10Tic qhB)).trans ?_;rw[if_pos qeO,Option.bind_some];simp only[bne_self_eq_false,cond_false];refine(congrArg (fun z=>Option.bind (Option.bind z _) _) (qkq (qbx qeO))).trans ?_;rw[Option.bind_some,Option.bind_some];simp only[bne_self_eq_false,cond_false]
  refine(congrArg (fun z=>Option.bind z _) (qnX gamehalltopH10Minute 0 (by decide))).trans ?_;rw[if_pos qjp,if_pos ⟨by decide,by decide⟩,Option.bind_some];simp only[bne_self_eq_false,cond_false];refine(congrArg (fun z=>Option.bind z _) (qkq (qbx qeO))).trans ?_;rw[Option.bind_some];refine(congrArg (fun z=>Option.bind z _) (qsi qjp)).trans ?_;rw[Option.bind_some];refine(congrArg (fun z=>Option.bind z _) (qmj z64)).trans ?_;rw[Option.bind_some];rw[show qG (ByteArray.mk #[115,116,97,114,116,32]) (numS 0)=true from(qkp z64).2,qb];refine(congrArg (fun z=>Option.bind z _) (qgH z64).1).trans ?_;rw[Option.bind_some];refine(congrArg (fun z=>Option.bind z _) (qs0 (r:=gamehalltopH10Tic) (cr:=gamehalltopH10Minute) (now:=0) qeO)).trans ?_
  rw[Option.bind_some];refine(congrArg (fun z=>Option.bind z _) d1).trans ?_;rw[Option.bind_some];refine(congrArg (fun z=>Option.bind (Option.bind z _) _) demo_text).trans ?_;rw[Option.bind_some,Option.bind_some];simp only[p1,beq_self_eq_true,cond_true];refine(congrArg (fun z=>Option.bind (Option.bind z _) _) e1).trans ?_;rw[Option.bind_some];refine(congrArg (fun z=>Option.bind (Option.bind z _) _) e2).trans ?_;rw[Option.bind_some,Option.bind_some,p2];decide +kernel

noncomputable def runE (r:Rules) (cr:CRule):MS→List Ev→MS
  | m,[]=>m
  | m,e::es=>runE r cr (doM r cr m e).1 es
def okE (r:Rules) (cr:CRule):MS→List Ev→Prop
  | _,[]=>True
  | m,e::es=>EvR e∧(doM r cr m e).2=0∧okE r cr (doM r cr m e).1 es
theorem qsS {r:Rules} {cr:CRule}:∀(es:List Ev) (m:MS),MOK r cr m→okE r cr m es→MOK r cr (runE r cr m es)
  | [],m,h,_=>h
  | e::es,m,h,ho=>qsS es _ (qqo h ho.1).2 ho.2.2
theorem qux {r:Rules} {cr:CRule} (e:Ev):∀(es:List Ev) (m:MS),runE r cr m (es++[e])=(doM r cr (runE r cr m es) e).1
  | [],m=>rfl
  | x::es,m=>qux e es _
theorem qxH {r:Rules} {cr:CRule} {e:Ev}:∀(es:List Ev) (m:MS),okE r cr m es→EvR e→(doM r cr (runE r cr m es) e).2=0→okE r cr m (es++[e])
  | [],m,_,he,h=>⟨he,h,trivial⟩
  | x::es,m,ho,he,h=>⟨ho.1,ho.2.1,qxH es _ ho.2.2 he h⟩
theorem qyH (r:Rules) (cr:CRule) (m:MS) (e:Ev):(kindM r cr m e).1.j=m.j∧(kindM r cr m e).1.last=m.last:=by
  unfold kindM;split
  · unfold qp9
    repeat' split
    all_goals first | exact⟨rfl,rfl⟩ | skip
    obtain⟨a,b⟩:=qs5 (r:=r) (cr:=cr) (now:=e.2.2.2.1) (m.pm.length+1) (moveM r cr m e.2.2.2.2.1 e.2.2.2.1);exact⟨b,a⟩
  · split
    · unfold qpB;simp only
      repeat' split
      all_goals exact⟨rfl,rfl⟩
    · split
      · unfold qmf;simp only
        repeat' split
        all_goals exact⟨rfl,rfl⟩
      · split
        · unfold qpz
          repeat' split
          all_goals exact⟨rfl,rfl⟩
        · split
          · unfold qks
            repeat' split
            all_goals exact⟨rfl,rfl⟩
          · exact⟨rfl,rfl⟩
theorem do_jR (r:Rules) (cr:CRule) (m:MS) (e:Ev):((doM r cr m e).2=0→(doM r cr m e).1.j=nextJ m.j (qb2 e)∧m.res=0)∧((doM r cr m e).2≠0→(doM r cr m e).1=m):=by
  unfold doM
  repeat' split
  all_goals first | (rename_i c;exact⟨fun h=>absurd h c,fun _=>rfl⟩) | exact⟨fun h=>(by simp at h),fun _=>rfl⟩ | skip
  rename_i h3 _ _ _;refine⟨fun _=>⟨?_,by omega⟩,fun h=>absurd rfl h⟩;show(doneM r (kindM r cr m e).1 e).j=_;unfold doneM;rw[(qne r _).2.2.1];show nextJ (kindM r cr m e).1.j (qb2 e)=_;rw[(qyH r cr m e).1]
theorem run_j {r:Rules} {cr:CRule}:∀(es:List Ev) (m:MS),okE r cr m es→∃t:Jn,(runE r cr m es).j=m.j++t∧t.map (·.1)=es.map qb2
  | [],m,_=>⟨[],(List.append_nil _).symm,rfl⟩
  | e::es,m,ho=>by
    obtain⟨t,h1,h2⟩:=run_j es _ ho.2.2;have hj:=((do_jR r cr m e).1 ho.2.1).1;refine⟨(qb2 e,(sumJ (lastJ m.j) (qb2 e),()))::t,?_,by rw[List.map_cons,List.map_cons,h2]⟩;show(runE r cr (doM r cr m e).1 es).j=_;rw[h1,hj];unfold nextJ;rw[List.append_assoc];rfl
theorem qw6 {r:Rules} {cr:CRule}:∀(es es':List Ev) (m:MS),okE r cr m (es++es')↔okE r cr m es∧okE r cr (runE r cr m es) es'
  | [],es',m=>⟨fun h=>⟨trivial,h⟩,fun h=>h.2⟩
  | e::es,es',m=>by
    have:=qw6 (r:=r) (cr:=cr) es es' (doM r cr m e).1;constructor
    · intro h;exact⟨⟨h.1,h.2.1,(this.1 h.2.2).1⟩,(this.1 h.2.2).2⟩
    · intro h;exact⟨h.1.1,h.1.2.1,this.2 ⟨h.1.2.2,h.2⟩⟩
theorem cut_start (n:Int):qbE (qa6 n) startB=some (numS n,(true,())):=by
  have hs:(qa6 n).size=6+(numS n).size:=by unfold qa6;rw[ByteArray.size_append];rfl
  have hb:startB.size=6:=rfl
  have hl:(qa6 n).data.toList=startB.data.toList++(numS n).data.toList:=by unfold qa6;rw[qg3]
  have hbl:startB.data.toList.length=6:=rfl
  have e1:(qa6 n).extract 0 6=startB:=qi9 (by
    rw[qm8,hl,List.drop_zero,List.take_append_of_le_length (by omega),List.take_of_length_le (by omega)])
  have e2:(qa6 n).extract 6 (qa6 n).size=numS n:=qi9 (by
    rw[qm8,hl,hs,qaO (numS n),List.take_of_length_le (by rw[List.length_append];omega),List.drop_append_of_le_length (by omega),List.drop_of_length_le (by omega),List.nil_append])
  unfold qbE qav qaw;rw[hb]
  have b1:qe 0 ((6:Nat):Int) (qa6 n).size=true:=by simp only[qe,Bool.and_eq_true,decide_eq_true_eq];omega
  have b2:qe ((6:Nat):Int) (((qa6 n).size:Nat):Int) (qa6 n).size=true:=by simp only[qe,Bool.and_eq_true,decide_eq_true_eq];omega
  have b3:decide ((((qa6 n).size:Nat):Int)≥((6:Nat):Int))=true:=by rw[decide_eq_true_eq];omega
  simp only[b1,b2,b3,imp,Bool.cond_self,qb,Int.toNat_natCast,e1,e2,Option.bind_some,beq_self_eq_true,Bool.and_self,Bool.not_true,cond_false]
theorem qxf {A:Type} (l:List A):(l.take ((l.length:Nat):Int).toNat).drop 1=l.drop 1:=by rw[Int.toNat_natCast,List.take_length]

theorem new_j (r:Rules) (cr:CRule) (now:Int):(newM r cr now).j=[(qa6 now,(sumJ 0 (qa6 now),()))]:=by
  unfold newM;rw[(qne r _).2.2.1];rfl

def one (b:Nat):ByteArray:=ByteArray.mk #[UInt8.ofNat b]

theorem qx5 (ns:List Int):(strOf ns).data.toList=ns.map fun n=>UInt8.ofNat n.toNat:=by
  have key:∀(l:List Int) (r:ByteArray),(l.foldl (fun r n=>r.push (UInt8.ofNat n.toNat)) r).data.toList=r.data.toList++l.map fun n=>UInt8.ofNat n.toNat:=fun l=>by
    induction l with
    | nil=>intro r;simp
    | cons x l ih=>intro r;rw[List.foldl_cons,ih];simp[ByteArray.data_push]
  unfold strOf;rw[key];rfl

def dgs:Nat→Nat→List UInt8
  | 0,_=>[]
  | f+1,n=>qdo (n % 16)::dgs f (n / 16)
theorem dgs_len:∀f n,(dgs f n).length=f
  | 0,_=>rfl
  | f+1,n=>by rw[dgs,List.length_cons,dgs_len f]
theorem qwS:∀f,dgs f 0=List.replicate f 48
  | 0=>rfl
  | f+1=>by rw[dgs,show(0:Nat) / 16=0 from rfl,qwS f];rfl
theorem qtv:∀f n,n<16 ^ (f+1)→1≤(hexR (f+1) n).length∧(hexR (f+1) n).length≤f+1∧hexR (f+1) n++List.replicate (f+1-(hexR (f+1) n).length) 48=dgs (f+1) n
  | 0,n,h=>by
    have h:n<16:=by simpa using h
    have e:hexR 1 n=[qdo (n % 16)]:=by
      unfold hexR;rw[if_pos h]
    rw[e];exact⟨Nat.le_refl _,Nat.le_refl _,rfl⟩
  | f+1,n,h=>by
    by_cases c:n<16
    · have e:hexR (f+2) n=[qdo (n % 16)]:=by
        unfold hexR;rw[if_pos c]
      rw[e];refine⟨Nat.le_refl _,by simp,?_⟩;show qdo (n % 16)::List.replicate (f+1) 48=qdo (n % 16)::dgs (f+1) (n / 16);rw[show n / 16=0 by omega,qwS]
    · have hd:n / 16<16 ^ (f+1):=by
        rw[Nat.pow_succ] at h;omega
      obtain⟨h1,h2,h3⟩:=qtv f (n / 16) hd;have e:hexR (f+2) n=qdo (n % 16)::hexR (f+1) (n / 16):=by
        conv=>lhs;unfold hexR
        rw[if_neg c]
      rw[e];refine⟨by simp,by simp;omega,?_⟩;rw[List.length_cons,List.cons_append,show f+1+1-((hexR (f+1) (n / 16)).length+1)=f+1-(hexR (f+1) (n / 16)).length by omega,h3];rfl
def hex16 (n:Nat):List UInt8:=(dgs 16 n).reverse
theorem qfZ (n:Nat):(hex16 n).length=16:=by unfold hex16;rw[List.length_reverse,dgs_len]
def qeI (c:UInt8):Nat:=if c.toNat<58 then c.toNat-48 else c.toNat-87
def isHex (c:UInt8):Bool:=(decide (48≤c.toNat)&&decide (c.toNat≤57))||(decide (97≤c.toNat)&&decide (c.toNat≤102))
theorem dig_all:∀k,k<16→qeI (qdo k)=k∧isHex (qdo k)=true:=by decide
theorem dgs_hex:∀f n,∀c∈dgs f n,isHex c=true
  | 0,_,c,h=>by cases h
  | f+1,n,c,h=>by
    rcases List.mem_cons.1 h with rfl | h
    · exact(dig_all _ (Nat.mod_lt _ (by decide))).2
    · exact dgs_hex f _ c h
theorem qvu (n:Nat):∀c∈hex16 n,isHex c=true:=fun c h=>dgs_hex 16 n c (List.mem_reverse.1 h)
def valH (l:List UInt8):Nat:=l.foldl (fun n c=>n*16+qeI c) 0
theorem val_dgs:∀f n,(dgs f n).foldr (fun c n=>n*16+qeI c) 0=n % 16 ^ f
  | 0,n=>by simp[dgs,Nat.mod_one]
  | f+1,n=>by
    rw[dgs,List.foldr_cons,val_dgs f,(dig_all _ (Nat.mod_lt _ (by decide))).1,Nat.pow_succ,Nat.mul_comm (16 ^ f) 16,Nat.mod_mul];omega
theorem val_hex16 {n:Nat} (h:n<16 ^ 16):valH (hex16 n)=n:=by
  unfold valH hex16;rw[List.foldl_reverse,val_dgs,Nat.mod_eq_of_lt h]
theorem qxL (l:List UInt8) (c:UInt8):valH (l++[c])=valH l*16+qeI c:=by unfold valH;rw[List.foldl_append];rfl
theorem quw {c:UInt8} (h:isHex c=true):qeI c<16:=by
  unfold isHex at h;unfold qeI;simp only[Bool.or_eq_true,Bool.and_eq_true,decide_eq_true_eq] at h
  split<;>omega
theorem val_lt:∀(k:Nat) (l:List UInt8),l.length=k→(∀c∈l,isHex c=true)→valH l<16 ^ k
  | 0,l,h,_=>by
    rw[List.length_eq_zero_iff.1 h];decide
  | k+1,l,h,hl=>by
    obtain⟨m,c,rfl⟩:∃m c,l=m++[c]:=⟨l.dropLast,l.getLast (by intro e;subst e;cases h),(List.dropLast_concat_getLast _).symm⟩;rw[qxL,Nat.pow_succ];have h1:=val_lt k m (by simpa using h) (fun c hc=>hl c (List.mem_append_left _ hc));have h2:=quw (hl c (List.mem_append_right _ List.mem_cons_self));omega
theorem fmt_hex {n:Int} (h0:0≤n) (h1:n≤18446744073709551615):∃s,qsH n 16=some s∧1≤s.size∧s.size≤16∧s.data.toList=(hexR 16 n.toNat).reverse:=by
  obtain⟨l1,l2,l3⟩:=qtv 15 n.toNat (by omega);refine⟨⟨(hexR 16 n.toNat).reverse.toArray⟩,?_,?_,?_,rfl⟩
  · unfold qsH;rw[decide_eq_true h0,decide_eq_true h1];rfl
  · show 1≤(hexR 16 n.toNat).reverse.toArray.size;simpa using l1
  · show(hexR 16 n.toNat).reverse.toArray.size≤16;simpa using l2
theorem rep_zero (k:Nat) (hk:k≤16):∃s,qof (ByteArray.mk #[48]) ((k:Nat):Int)=some s∧s.data.toList=List.replicate k 48∧s.size=k:=by
  refine⟨⟨(Go.Lib.repeatL (ByteArray.mk #[48]).data.toList k).toArray⟩,?_,?_,?_⟩
  · unfold qof
    rw[Int.toNat_natCast,decide_eq_true (show(0:Int)≤(k:Int) by omega),decide_eq_true (show(k:Int)≤9223372036854775807 by omega),show Nat.ble ((ByteArray.mk #[48]).size*k) 140737488355328=true from Nat.ble_eq_true_of_le (by
      have:(ByteArray.mk #[48]).size=1:=rfl
      rw[this];omega)]
    rfl
  · have:∀k,Go.Lib.repeatL [48] k=List.replicate k (48:UInt8):=fun k=>by
      induction k with
      | zero=>rfl
      | succ k ih=>show [48]++Go.Lib.repeatL [48] k=_;rw[ih];rfl
    exact this k
  · show((Go.Lib.repeatL [48] k).toArray).size=k;rw[List.size_toArray,Go.Lib.repeatL_length];simp
def lineJ (x:ByteArray×Int×Unit):List UInt8:=hex16 x.2.1.toNat++32::x.1.data.toList
theorem pad_hex {n:Int} (h0:0≤n) (h1:n≤18446744073709551615):∃s z,qsH n 16=some s∧s.size≤16∧1≤s.size∧qof (ByteArray.mk #[48]) (w64 (16-((s.size:Nat):Int)))=some z∧z.size+s.size=16∧(z++s).data.toList=hex16 n.toNat:=by
  obtain⟨s,e1,e2,e3,e4⟩:=fmt_hex h0 h1;obtain⟨z,f1,f2,f3⟩:=rep_zero (16-s.size) (by omega);refine⟨s,z,e1,e3,e2,?_,by omega,?_⟩
  · rw[qf (by omega) (by omega),show(16:Int)-((s.size:Nat):Int)=((16-s.size:Nat):Int) by omega];exact f1
  · obtain⟨l1,l2,l3⟩:=qtv 15 n.toNat (by omega)
    have hs:s.size=(hexR 16 n.toNat).length:=by rw[qaO,e4,List.length_reverse]
    rw[qg3,f2,e4];unfold hex16;rw[←l3,List.reverse_append,List.reverse_replicate,hs]
theorem bo_of (s:ByteArray):strOf (qE s)=s:=qi9 (by
  rw[qx5];unfold qE;rw[List.map_map];have:((fun n:Int=>UInt8.ofNat n.toNat)∘fun c:UInt8=>(c.toNat:Int))=id:=by
    funext c;simp
  rw[this,List.map_id])
theorem qjy (s:ByteArray):(qE s).length=s.size:=by unfold qE;rw[List.length_map,qaO]
def textB (l:Jn):List UInt8:=l.flatMap fun x=>lineJ x++[10]
def SumR (l:Jn):Prop:=∀x∈l,0≤x.2.1∧x.2.1≤18446744073709551615
theorem qqw (x:ByteArray×Int×Unit):(lineJ x).length=17+x.1.size:=by
  unfold lineJ;rw[List.length_append,qfZ,List.length_cons,qaO];omega
theorem qm4 {l:Jn} (h:∀x∈l,x.1.size≤200):(textB l).length≤218*l.length:=by
  unfold textB
  induction l with
  | nil=>simp
  | cons x l ih =>
    rw[List.flatMap_cons,List.length_append,List.length_append,qqw];have h1:=h x List.mem_cons_self;have h2:=ih fun y hy=>h y (List.mem_cons_of_mem _ hy);simp only[List.length_cons,List.length_nil];omega
theorem qrT (l:Jn) (hl:l.length≤1000) (hs:SumR l) (ht:∀x∈l,x.1.size≤200):∀(k i:Nat) (b:List Int),i+k=l.length→b=(textB (l.take i)).map (fun c=>(c.toNat:Int)) →
    iterW (qcj l) (((i:Int),()),(b,()))=some ((),((textB l).map (fun c=>(c.toNat:Int)),()))
  | 0,i,b,hi,hb=>by
    have:i=l.length:=by omega
    subst this;rw[List.take_length] at hb;subst hb;refine qm ?_;unfold qcj;simp only[nltd,cond_false]
  | k+1,i,b,hi,hb=>by
    have hil:i<l.length:=by omega
    have hm:=List.getElem_mem hil;obtain⟨s0,s1⟩:=hs _ hm;obtain⟨s,z,e1,e2,e3,e4,e5,e6⟩:=pad_hex s0 s1;have h200:=ht _ hm;have hbl:b.length≤218*i:=by
      rw[hb,List.length_map];have:=qm4 (l:=l.take i) (fun x hx=>ht x (List.mem_of_mem_take hx));rw[List.length_take] at this;omega
    have z1:(ByteArray.mk #[32]).size=1:=rfl;have z2:(ByteArray.mk #[10]).size=1:=rfl;have r1:qG z s=true:=Nat.ble_eq_true_of_le (by omega);have r2:qG (z++s) (ByteArray.mk #[32])=true:=Nat.ble_eq_true_of_le (by rw[ByteArray.size_append];omega);have r3:qG ((z++s)++ByteArray.mk #[32]) l[i].1=true:=Nat.ble_eq_true_of_le (by rw[ByteArray.size_append,ByteArray.size_append];omega);have r4:qG (((z++s)++ByteArray.mk #[32])++l[i].1) (ByteArray.mk #[10])=true:=Nat.ble_eq_true_of_le (by rw[ByteArray.size_append,ByteArray.size_append,ByteArray.size_append];omega);have r5:room (b.length+((((z++s)++ByteArray.mk #[32])++l[i].1)++ByteArray.mk #[10]).size) 1=true:=qS (by rw[ByteArray.size_append,ByteArray.size_append,ByteArray.size_append,ByteArray.size_append];omega)
    have r6:Nat.blt 0 (b++qE ((((z++s)++ByteArray.mk #[32])++l[i].1)++ByteArray.mk #[10])).length=true:=by
      rw[List.length_append,qjy,ByteArray.size_append,z2];exact Nat.ble_eq_true_of_le (by omega)
    have hst:qcj l (((i:Int),()),(b,()))=some (.inl ((((i+1:Nat):Int),()),(b++qE ((((z++s)++ByteArray.mk #[32])++l[i].1)++ByteArray.mk #[10]),()))):=by
      unfold qcj;simp only[ltd l i hil,cond_true];rw[qqp l i hil,Option.bind_some];refine(congrArg (fun q=>Option.bind q _) e1).trans ?_;rw[Option.bind_some];refine(congrArg (fun q=>Option.bind q _) e4).trans ?_;rw[Option.bind_some,r1,qb,r2,qb,r3,qb,r4,qb,r5,qb,r6,qb,qf (by omega) (by omega)];rfl
    rw[qo hst];refine qrT l hl hs ht k (i+1) _ (by omega) ?_;rw[hb,List.take_succ_eq_append_getElem hil];unfold textB;rw[List.flatMap_append,List.map_append];congr 1;rw[List.flatMap_cons,List.flatMap_nil,List.append_nil];unfold qE;rw[qg3,qg3,qg3,e6];unfold lineJ;simp
theorem qyr {l:Jn} (h:JOK l) (hs:SumR l):qgQ l=some (⟨(textB l).toArray⟩,(0,())):=by
  have hl:=h.1;have ht:∀x∈l,x.1.size≤200:=fun x hx=>by
    obtain⟨i,hi,rfl⟩:=List.mem_iff_getElem.1 hx;exact(h.2 i hi).1.1
  unfold qgQ;rw[qmT h,Option.bind_some];simp only[bne_self_eq_false,cond_false];refine(congrArg (fun q=>Option.bind q _) (qrT l hl hs ht l.length 0 [] (Nat.zero_add _) rfl)).trans ?_;rw[Option.bind_some];have e:=bo_of ⟨(textB l).toArray⟩;unfold qE at e;have e':strOf ((textB l).map fun c=>(c.toNat:Int))=⟨(textB l).toArray⟩:=e;show some (strOf ((textB l).map fun c=>(c.toNat:Int)),((0:Int),()))=_;rw[e']

theorem lower_hex:∀n,n<256→97≤n→n≤102→qi ((n:Nat):Int)=((n:Nat):Int):=by decide +kernel
theorem qx6 (s:ByteArray) (hs:s.size=16) (hx:∀c∈s.data.toList,isHex c=true) (i:Nat) (hi:i<16) :
    qK ((s,((16:Int),())),()) 16 (((1152921504606846976:Int),()),()) (((64:Int),()),()) ((false,(((valH (s.data.toList.take i):Nat):Int),((i:Int),()))),()) =
      some (.inl ((false,(((valH (s.data.toList.take (i+1)):Nat):Int),(((i+1:Nat):Int),()))),())):=by
  have hl:s.data.toList.length=16:=by rw[←qaO];exact hs
  have hil:i<s.data.toList.length:=by omega
  have hc:=hx _ (List.getElem_mem hil);have hval:=val_lt i (s.data.toList.take i) (by rw[List.length_take];omega) (fun c h=>hx c (List.mem_of_mem_take h));have hp:16 ^ i≤16 ^ 15:=Nat.pow_le_pow_right (by decide) (by omega)
  have hp15:16 ^ 15=1152921504606846976:=by decide
  have hbl:(qE s).length=16:=by rw[qjy];exact hs
  have hget:getD' (qE s) ((i:Int).toNat) (0:Int)=((s.data.toList[i].toNat:Nat):Int):=by
    rw[Int.toNat_natCast];unfold getD' qE;rw[List.getD_eq_getElem?_getD,List.getElem?_map,List.getElem?_eq_getElem hil];rfl
  have hsn:valH (s.data.toList.take (i+1))=valH (s.data.toList.take i)*16+qeI s.data.toList[i]:=by
    rw[List.take_succ_eq_append_getElem hil,qxL]
  have hv16:=quw hc;rw[hsn];generalize valH (s.data.toList.take i)=n at hval ⊢
  have hn15:n<1152921504606846976:=by omega
  have hcn:s.data.toList[i].toNat<256:=s.data.toList[i].toNat_lt;generalize hce:s.data.toList[i]=c at *;unfold qK;simp only[hget,hbl];rw[show decide ((i:Int)<((16:Nat):Int))=true by rw[decide_eq_true_eq];omega,cond_true,show inb (i:Int) 16=true from inb_iff.2 ⟨by omega,by omega⟩,qb,show(((16:Int)==0))=false from rfl,Bool.and_false,cond_false]
  have hd:(bif ((decide ((48:Int)≤((c.toNat:Nat):Int)))&&(decide (((c.toNat:Nat):Int)≤(57:Int)))) then(some (Sum.inl (((wu8 (((c.toNat:Nat):Int)-(48:Int))),()),())):Option (((Int×Unit)×(Unit)) ⊕ (((Bool×Int×Unit)×(Unit)) ⊕ (((Bool×Int×Int×Unit)×(Unit)) ⊕ (((Bool×Int×Unit)×(Unit)) ⊕ (Int×Bool×Unit))))))
      else bif ((decide ((97:Int)≤(qi ((c.toNat:Nat):Int))))&&(decide ((qi ((c.toNat:Nat):Int))≤(122:Int)))) then some (Sum.inl (((wu8 ((wu8 ((qi ((c.toNat:Nat):Int))-(97:Int)))+(10:Int))),()),())) else none)=some (Sum.inl ((((qeI c:Nat):Int),()),())):=by
    have hc':=hc;unfold isHex at hc';simp only[Bool.or_eq_true,Bool.and_eq_true,decide_eq_true_eq] at hc';rcases hc' with ⟨a,b⟩ | ⟨a,b⟩
    · rw[decide_eq_true (show(48:Int)≤((c.toNat:Nat):Int) by omega),decide_eq_true (show((c.toNat:Nat):Int)≤57 by omega)];simp only[Bool.and_self,cond_true];unfold qeI;rw[if_pos (by omega),show wu8 (((c.toNat:Nat):Int)-48)=((c.toNat-48:Nat):Int) by unfold wu8;rw[IntKind.wrap_u8];omega]
    · rw[decide_eq_false (show ¬((c.toNat:Nat):Int)≤57 by omega),Bool.and_false,cond_false,lower_hex c.toNat hcn a b,decide_eq_true (show(97:Int)≤((c.toNat:Nat):Int) by omega),decide_eq_true (show((c.toNat:Nat):Int)≤122 by omega)];simp only[Bool.and_self,cond_true];unfold qeI;rw[if_neg (by omega),show wu8 (wu8 (((c.toNat:Nat):Int)-97)+10)=((c.toNat-87:Nat):Int) by unfold wu8;rw[IntKind.wrap_u8,IntKind.wrap_u8];omega]
  refine(congrArg (fun z=>Option.bind (Option.bind z _) _) hd).trans ?_;rw[Option.bind_some,Sum.elim_inl]
  have e16:wu8 (16:Int)=16:=by decide
  have e16':wu64 (16:Int)=16:=by decide
  have eM:wu64 (shK .shl .u64 (1:Int) (wu64 (64:Int))-1)=18446744073709551615:=by decide
  have en:wu64 ((n:Int)*16)=(n:Int)*16:=by unfold wu64;rw[IntKind.wrap_u64];omega
  have ed:wu64 ((qeI c:Nat):Int)=((qeI c:Nat):Int):=by unfold wu64;rw[IntKind.wrap_u64];omega
  have es:wu64 ((n:Int)*16+((qeI c:Nat):Int))=(n:Int)*16+((qeI c:Nat):Int):=by unfold wu64;rw[IntKind.wrap_u64];omega
  simp only[e16,e16',eM,en,ed,es];rw[decide_eq_false (show ¬((qeI c:Nat):Int)≥16 by omega),cond_false,decide_eq_false (show ¬(n:Int)≥1152921504606846976 by omega),cond_false,decide_eq_false (show ¬(n:Int)*16+((qeI c:Nat):Int)<(n:Int)*16 by omega),decide_eq_false (show ¬(n:Int)*16+((qeI c:Nat):Int)>18446744073709551615 by omega)];simp only[Bool.or_self,cond_false,Option.bind_some,Sum.elim_inl];rw[qf (by omega) (by omega)];congr 5
theorem parse16 (s:ByteArray) (hs:s.size=16) (hx:∀c∈s.data.toList,isHex c=true):qcT s 16 64=some (((valH s.data.toList:Nat):Int),(false,())):=by
  have hl:s.data.toList.length=16:=by rw[←qaO];exact hs
  have hbl:(qE s).length=16:=by rw[qjy];exact hs
  have hloop:∀k i,i+k=16→iterW (qK ((s,((16:Int),())),()) 16 (((1152921504606846976:Int),()),()) (((64:Int),()),())) ((false,(((valH (s.data.toList.take i):Nat):Int),((i:Int),()))),())=some (.inl ((false,(((valH s.data.toList:Nat):Int),())),())):=by
    intro k
    induction k with
    | zero =>
      intro i hi
      have:i=16:=by omega
      subst this;rw[List.take_of_length_le (by omega)];refine qm ?_;unfold qK;simp only[hbl];rfl
    | succ k ih =>
      intro i hi;rw[qo (qx6 s hs hx i (by omega))];exact ih (i+1) (by omega)
  have h0:=hloop 16 0 rfl;have hne:(s.toList==(ByteArray.mk #[]).toList)=false:=by
    rw[beq_eq_false_iff_ne];intro e;rw[ByteArray.toList_eq,ByteArray.toList_eq] at e;have:=congrArg List.length e;rw[hl] at this;cases this
  have hin:qaq s 16 64=some (((valH s.data.toList:Nat):Int),(false,())):=by
    unfold qaq;rw[hne,cond_false];simp only[show(decide ((2:Int)≤16)&&decide ((16:Int)≤36))=true from rfl,cond_true,Option.bind_some,Sum.elim_inl,show((64:Int)==0)=false from rfl,cond_false,show(decide ((64:Int)<0)||decide ((64:Int)>64))=false from rfl,show((16:Int)==10)=false from rfl,show((16:Int)==16)=true from rfl];rw[show decide ((0:Int)≤wu64 64)=true from by decide,qb,show Nat.ble s.size 140737488355328=true from Nat.ble_eq_true_of_le (by omega),qb];refine(congrArg (fun z=>Option.bind z _) h0).trans ?_;rfl
  unfold qcT;rw[hin,Option.bind_some];rfl
abbrev hexSet:ByteArray:=ByteArray.mk #[48,49,50,51,52,53,54,55,56,57,97,98,99,100,101,102]
theorem set_hexN:∀n,n<256→(hexSet.data.toList.contains (UInt8.ofNat n))=isHex (UInt8.ofNat n):=by decide +kernel
theorem set_hex (c:UInt8):hexSet.data.toList.contains c=isHex c:=by
  have:=set_hexN c.toNat c.toNat_lt
  rwa [UInt8.ofNat_toNat] at this
theorem qpK {A:Type} (p:A→Bool):∀l:List A,l.dropWhile p=[]↔∀x∈l,p x=true
  | []=>by simp
  | x::l=>by
    rw[List.dropWhile_cons];split
    · rename_i h;rw[qpK p l];simp[h]
    · rename_i h;simp[h]
theorem trim_nil (l:List UInt8):((l.reverse.dropWhile fun b=>hexSet.data.toList.contains b).reverse).dropWhile (fun b=>hexSet.data.toList.contains b)=[]↔∀c∈l,isHex c=true:=by
  constructor
  · intro h;have h1:=(qpK _ _).1 h;by_cases e:l.reverse.dropWhile (fun b=>hexSet.data.toList.contains b)=[]
    · intro c hc;have:=(qpK _ _).1 e c (List.mem_reverse.2 hc)
      rwa [set_hex] at this
    · exfalso
      cases hq:l.reverse.dropWhile (fun b=>hexSet.data.toList.contains b) with
      | nil=>exact e hq
      | cons c r =>
        have h2:=h1 c (by rw[hq];simp);have h3:=List.head_dropWhile_not (p:=fun b=>hexSet.data.toList.contains b) (l:=l.reverse) (by rw[hq];simp);simp only[hq,List.head_cons] at h3;rw[h2] at h3;cases h3
  · intro h;have:l.reverse.dropWhile (fun b=>hexSet.data.toList.contains b)=[]:=(qpK _ _).2 fun c hc=>by
      rw[set_hex];exact h c (List.mem_reverse.1 hc)
    rw[this];rfl
theorem trim_hex (s:ByteArray) (hs:s.size≤16):∃t,trimS s hexSet=some t∧(t.toList==(ByteArray.mk #[]).toList)=s.data.toList.all isHex:=by
  refine⟨⟨(((s.data.toList.reverse.dropWhile fun b=>hexSet.data.toList.contains b).reverse).dropWhile fun b=>hexSet.data.toList.contains b).toArray⟩,?_,?_⟩
  · unfold trimS;rw[show Nat.ble s.size 9223372036854775807=true from Nat.ble_eq_true_of_le (by omega),show(Nat.ble hexSet.size 4294967280&&(hexSet.data.toList.all fun b=>decide (b.toNat<128)))=true by decide];rfl
  · rw[Bool.eq_iff_iff,beq_iff_eq,List.all_eq_true,←trim_nil];generalize ((s.data.toList.reverse.dropWhile fun b=>hexSet.data.toList.contains b).reverse).dropWhile (fun b=>hexSet.data.toList.contains b)=l;constructor
    · intro h;rw[ByteArray.toList_eq,ByteArray.toList_eq] at h;simpa using h
    · intro h;rw[h]
def fineL (s:ByteArray):Bool:=decide (17≤s.size)&&(decide (s.data.toList.getD 16 0=32)&&(s.data.toList.take 16).all isHex)
theorem qxY (s:ByteArray) (hs:s.size≤281474976710656):qfV s=some (if fineL s=true then((s.extract 17 s.size,(((valH (s.data.toList.take 16):Nat):Int),())),(true,())) else((ByteArray.mk #[],((0:Int),())),(false,()))):=by
  unfold qfV;by_cases h17:s.size<17
  · have:fineL s=false:=by
      unfold fineL;rw[decide_eq_false (by omega)];rfl
    rw[this,decide_eq_true (show((s.size:Nat):Int)<17 by omega)];rfl
  · have hl:s.data.toList.length=s.size:=(qaO s).symm;have hst:strAt s 16=some (s.data.toList.getD 16 0):=by
      unfold strAt;rw[show decide ((0:Int)≤16)=true from rfl,cond_true];show s[16]?=_;rw[List.getD_eq_getElem?_getD,List.getElem?_eq_getElem (by omega)]
      have:s[16]?=some s[16]:=by simp
      rw[this];rfl
    rw[decide_eq_false (show ¬((s.size:Nat):Int)<17 by omega)];simp only[Bool.not_false,gopt,cond_true,Bool.false_or];rw[hst,Option.bind_some]
    have hb16:qe 0 16 s.size=true:=by simp only[qe,Bool.and_eq_true,decide_eq_true_eq];omega
    have hb17:qe 17 ((s.size:Nat):Int) s.size=true:=by simp only[qe,Bool.and_eq_true,decide_eq_true_eq];omega
    rw[hb16];generalize hc:s.data.toList.getD 16 0=c;by_cases h32:c=32
    · subst h32;have hne:((((32:UInt8).toNat:Nat):Int)!=32)=false:=rfl;simp only[hne,Bool.not_false,imp,cond_true,qb,Bool.false_or]
      have hx16:(s.extract 0 16).data.toList=s.data.toList.take 16:=by rw[qm8,List.drop_zero]
      have hz16:(s.extract 0 16).size=16:=by rw[qaO,hx16,List.length_take];omega
      obtain⟨t,ht,hte⟩:=trim_hex (s.extract 0 16) (by omega);refine(congrArg (fun z=>Option.bind z _) ht).trans ?_;rw[Option.bind_some,hte,hx16];have hf:fineL s=(s.data.toList.take 16).all isHex:=by
        unfold fineL;rw[hc,decide_eq_true (show 17≤s.size by omega)];rfl
      rw[hf]
      cases ha:(s.data.toList.take 16).all isHex with
      | false=>rfl
      | true =>
        have hall:∀x∈(s.extract 0 16).data.toList,isHex x=true:=by
          rw[hx16];exact List.all_eq_true.1 ha
        simp only[Bool.not_true,cond_false,if_true];rw[parse16 (s.extract 0 16) hz16 hall,Option.bind_some,hb17,qb,hx16];have hcl:qgr (s.extract 17 (((s.size:Nat):Int)).toNat)=some (s.extract 17 s.size):=by
          unfold qgr qxq;rw[Int.toNat_natCast,show Nat.ble (s.extract 17 s.size).size 281474976710656=true from Nat.ble_eq_true_of_le (by simp[ByteArray.size_extract];omega)];rfl
        refine(congrArg (fun z=>Option.bind z _) hcl).trans ?_;rfl
    · have hne:(((c.toNat:Nat):Int)!=32)=true:=bne_t (fun e=>h32 (UInt8.toNat_inj.1 (by show c.toNat=32;omega)));have hf:fineL s=false:=by
        unfold fineL;rw[hc,decide_eq_false h32];simp
      rw[hf,hne];rfl
theorem cut_none (s:ByteArray) (h:(10:UInt8)∉s.data.toList):qfz s (ByteArray.mk #[10])=some (s,(ByteArray.mk #[],(false,()))):=by
  unfold qfz qaM;have:idx1S s (ByteArray.mk #[10])=some (-1):=by
    show some (Go.Lib.indexByte s.data.toList 10)=_;rw[qvO 10 _ h]
  rw[this,Option.bind_some];rfl
theorem cut_first (s:ByteArray) (a b:List UInt8) (hs:s.data.toList=a++10::b) (ha:(10:UInt8)∉a) (hz:s.size≤9223372036854775807):qfz s (ByteArray.mk #[10])=some (⟨a.toArray⟩,(⟨b.toArray⟩,(true,()))):=by
  unfold qfz qaM
  have hl:s.size=a.length+1+b.length:=by rw[qaO,hs];simp;omega
  have:idx1S s (ByteArray.mk #[10])=some ((a.length:Nat):Int):=by
    show some (Go.Lib.indexByte s.data.toList 10)=_;rw[hs,qtb 10 b a ha]
  have z1:(ByteArray.mk #[10]).size=1:=rfl;rw[this,Option.bind_some,decide_eq_true (show((a.length:Nat):Int)≥0 by omega),cond_true,z1];rw[show qe 0 ((a.length:Nat):Int) s.size=true by simp only[qe,Bool.and_eq_true,decide_eq_true_eq];omega,qb];rw[qf (by omega) (by omega)];rw[show qe (((a.length:Nat):Int)+((1:Nat):Int)) ((s.size:Nat):Int) s.size=true by simp only[qe,Bool.and_eq_true,decide_eq_true_eq];omega,qb];have e1:s.extract 0 (((a.length:Nat):Int)).toNat=⟨a.toArray⟩:=qi9 (by rw[qm8,hs];simp)
  have e2:s.extract ((((a.length:Nat):Int)+((1:Nat):Int)).toNat) (((s.size:Nat):Int)).toNat=⟨b.toArray⟩:=qi9 (by
    rw[qm8,Int.toNat_natCast,List.take_of_length_le (by rw[←qaO];exact Nat.le_refl _),hs,show(((a.length:Nat):Int)+((1:Nat):Int)).toNat=a.length+1 by omega,List.drop_append,List.drop_of_length_le (by omega),show a.length+1-a.length=1 by omega]
    simp)
  rw[e1,e2];rfl

theorem hex_no10 {c:UInt8} (h:isHex c=true):c≠10:=fun e=>by subst e;cases h
theorem qrM {x:ByteArray×Int×Unit} (h:OKT x.1):(10:UInt8)∉lineJ x:=by
  unfold lineJ;intro hc;rcases List.mem_append.1 hc with hc | hc
  · exact hex_no10 (qvu _ _ hc) rfl
  · rcases List.mem_cons.1 hc with hc | hc
    · cases hc
    · have:=h.2 _ hc;exact absurd this.1 (by decide)
theorem own_line {x:ByteArray×Int×Unit} (h0:0≤x.2.1) (h1:x.2.1≤18446744073709551615) (ht:x.1.size≤200):qfV ⟨(lineJ x).toArray⟩=some ((x.1,(x.2.1,())),(true,())):=by
  have hd:(⟨(lineJ x).toArray⟩:ByteArray).data.toList=lineJ x:=rfl
  have hz:(⟨(lineJ x).toArray⟩:ByteArray).size=17+x.1.size:=by rw[qaO,hd,qqw]
  have hx:(lineJ x).take 16=hex16 x.2.1.toNat:=by
    unfold lineJ;rw[List.take_append_of_le_length (by rw[qfZ];exact Nat.le_refl _),List.take_of_length_le (by rw[qfZ];exact Nat.le_refl _)]
  rw[qxY _ (by omega)];have hf:fineL ⟨(lineJ x).toArray⟩=true:=by
    unfold fineL
    rw[hz,hd,hx,decide_eq_true (show 17≤17+x.1.size by omega),show(lineJ x).getD 16 0=32 by
      unfold lineJ;rw[List.getD_eq_getElem?_getD,List.getElem?_append_right (by rw[qfZ];exact Nat.le_refl _),qfZ]
      rfl,List.all_eq_true.2 (qvu _)]
    rfl
  rw[if_pos hf,hd,hx,val_hex16 (by omega)]
  have e1:(⟨(lineJ x).toArray⟩:ByteArray).extract 17 (⟨(lineJ x).toArray⟩:ByteArray).size=x.1:=qi9 (by
    rw[qm8,hd,hz,List.take_of_length_le (by rw[qqw];exact Nat.le_refl _)];unfold lineJ;rw[List.drop_append,List.drop_of_length_le (by rw[qfZ];omega),qfZ]
    rfl)
  rw[e1,Int.toNat_of_nonneg h0]
theorem rec_step {l:Jn} (h:JOK l) (hs:SumR l) (i:Nat) (hi:i<l.length) (rest:List UInt8) (s:ByteArray) (hd:s.data.toList=lineJ l[i]++10::rest) (hz:s.size≤9223372036854775807) :
    qaj ((s,(l.take i,())),())=some (.inl ((⟨rest.toArray⟩,(l.take (i+1),())),())):=by
  obtain⟨h1,h2⟩:=h.2 i hi;have hl:=h.1;obtain⟨s0,s1⟩:=hs _ (List.getElem_mem hi)
  have hlen:(l.take i).length=i:=by rw[List.length_take];omega
  unfold qaj;simp only[hlen];rw[decide_eq_true (show((i:Nat):Int)<1000 by omega),cond_true];refine(congrArg (fun q=>Option.bind q _) (cut_first s (lineJ l[i]) rest hd (qrM h1) hz)).trans ?_;rw[Option.bind_some];simp only[Bool.not_true,cond_false];refine(congrArg (fun q=>Option.bind q _) (own_line s0 s1 h1.1)).trans ?_;rw[Option.bind_some];simp only[Bool.not_true,Bool.not_false,gopt,cond_true,Bool.false_or];rw[qn2 _ (by omega),Option.bind_some];have hw:qbl (lastJ (l.take i)) (l[i].1,(l[i].2.1,()))=some 0:=by
    unfold qbl;simp only[qtF h1];rw[show((0:Int)!=0)=false from rfl,cond_false,qpC _ _ (by have:=h1.1;omega),Option.bind_some,h2,bne_f rfl,cond_false]
  rw[hw,Option.bind_some,bne_self_eq_false,cond_false];rw[qS (by rw[List.length_singleton];omega),qb,List.take_succ_eq_append_getElem hi]
theorem quC {l:Jn} (h:JOK l) (hs:SumR l) (p:List UInt8) (hp:p.length≤4611686018427387904):∀(k i:Nat),i+k≤l.length→iterW qaj ((⟨(textB ((l.drop i).take k)++p).toArray⟩,(l.take i,())),())=iterW qaj ((⟨p.toArray⟩,(l.take (i+k),())),())
  | 0,i,hi=>by
    rw[List.take_zero];rfl
  | k+1,i,hi=>by
    have hil:i<l.length:=by omega
    have hl:=h.1;have ht:∀x∈l,x.1.size≤200:=fun x hx=>by
      obtain⟨j,hj,rfl⟩:=List.mem_iff_getElem.1 hx;exact(h.2 j hj).1.1
    have e:(l.drop i).take (k+1)=l[i]::(l.drop (i+1)).take k:=by
      rw[List.drop_eq_getElem_cons hil,List.take_succ_cons]
    have e2:textB ((l.drop i).take (k+1))++p=lineJ l[i]++10::(textB ((l.drop (i+1)).take k)++p):=by
      rw[e];unfold textB;rw[List.flatMap_cons];simp
    have hb:=qm4 (l:=(l.drop i).take (k+1)) (fun x hx=>ht x (List.mem_of_mem_drop (List.mem_of_mem_take hx)))
    have hk:((l.drop i).take (k+1)).length≤1000:=by rw[List.length_take,List.length_drop];omega
    rw[qo (rec_step h hs i hil (textB ((l.drop (i+1)).take k)++p) ⟨(textB ((l.drop i).take (k+1))++p).toArray⟩ e2 (by
      rw[qaO];show(textB ((l.drop i).take (k+1))++p).length≤_;rw[List.length_append]
      omega))]
    have:=quC h hs p hp k (i+1) (by omega);rw[this,show i+1+k=i+(k+1) by omega]
theorem rec_end {l:Jn} (p:List UInt8) (hp:(10:UInt8)∉p):iterW qaj ((⟨p.toArray⟩,(l,())),())=some ((⟨p.toArray⟩,(l,())),()):=by
  refine qm ?_;unfold qaj;by_cases c:l.length<1000
  · rw[decide_eq_true (show((l.length:Nat):Int)<1000 by omega),cond_true];refine(congrArg (fun q=>Option.bind q _) (cut_none ⟨p.toArray⟩ hp)).trans ?_;rfl
  · rw[decide_eq_false (show ¬((l.length:Nat):Int)<1000 by omega),cond_false]
theorem qur:∀(l:Jn),(∀x∈l,OKT x.1)→∀n,∃k p,k≤l.length∧(textB l).take n=textB (l.take k)++p∧(10:UInt8)∉p∧p.length≤n
  | [],_,n=>⟨0,[],Nat.le_refl _,by simp[textB],by simp,by simp⟩
  | x::l,h,n=>by
    have hx:=h x List.mem_cons_self;have e:textB (x::l)=lineJ x++10::textB l:=by
      unfold textB;rw[List.flatMap_cons];simp
    by_cases c:n≤(lineJ x).length
    · refine⟨0,(lineJ x).take n,Nat.zero_le _,?_,fun hc=>qrM hx (List.mem_of_mem_take hc),by rw[List.length_take];omega⟩;rw[e,List.take_append_of_le_length c];simp[textB]
    · obtain⟨k,p,h1,h2,h3,h4⟩:=qur l (fun y hy=>h y (List.mem_cons_of_mem _ hy)) (n-(lineJ x).length-1);refine⟨k+1,p,by simp;omega,?_,h3,by omega⟩;rw[e,List.take_append,List.take_of_length_le (by omega),show n-(lineJ x).length=(n-(lineJ x).length-1)+1 by omega,List.take_succ_cons,h2,List.take_succ_cons];have e':textB (x::l.take k)=lineJ x++10::textB (l.take k):=by
        unfold textB;rw[List.flatMap_cons];simp
      rw[e'];simp
theorem qvx {l:Jn} (h:JOK l) (hs:SumR l) (n:Nat):∃k rest,k≤l.length∧qem ⟨((textB l).take n).toArray⟩=some (l.take k,(rest,())):=by
  have hk:∀x∈l,OKT x.1:=fun x hx=>by
    obtain⟨j,hj,rfl⟩:=List.mem_iff_getElem.1 hx;exact(h.2 j hj).1
  have hb:=qm4 (l:=l) (fun x hx=>(hk x hx).1);obtain⟨k,p,h1,h2,h3,h4⟩:=qur l hk n;have hp:p.length≤4611686018427387904:=by
    have:=congrArg List.length h2;rw[List.length_append,List.length_take] at this;have:=h.1;omega
  refine⟨k,⟨p.toArray⟩,h1,?_⟩;unfold qem;have:=quC h hs p hp k 0 (by omega);rw[List.drop_zero,Nat.zero_add,rec_end p h3,←h2] at this;refine(congrArg (fun q=>Option.bind q _) this).trans ?_;rfl

abbrev tyCRule:Ty := .st (.sl (.st (.int .i64) (.st (.int .i64) .nil))) (.st (.int .i64) (.st (.int .i64) .nil))
abbrev tyEvent:Ty := .st (.int .i64) (.st (.int .i64) (.st (.int .i64) (.st (.int .i64) (.st (.st (.int .i64) (.st (.int .i64) (.st (.int .i64) .nil))) .nil))))
theorem evR_of {e:Ev} (h:Rng tyEvent e):EvR e:=⟨h.1,h.2.1,h.2.2.1,h.2.2.2.1,h.2.2.2.2.1.1,h.2.2.2.2.1.2.1,h.2.2.2.2.1.2.2.1⟩
theorem take20 {A:Type} (l:List A):(l.take (if (20:Int)<((l.length:Nat):Int) then(20:Int) else((l.length:Nat):Int)).toNat).drop 0=l.take 20:=by
  rw[List.drop_zero];split
  · rfl
  · rw[Int.toNat_natCast,List.take_length,List.take_of_length_le (by omega)]
theorem same_T (a:List Mv) (ha:a.length≤1000000000):qbW a a=some true:=by
  unfold qbW;rw[bne_self_eq_false,cond_false]
  have h1:=qY a (fun _=>false) (qaU a a) (.inr false) (.inl ((),())) (fun i hi=>by
    unfold qaU;simp only[show decide ((i:Int)<((a.length:Nat):Int))=true by simp;omega,cond_true];rw[qim a i hi,Option.bind_some,Option.bind_some,qf (n:=(i:Int)+1) (by omega) (by omega)]
    simp) (by
    unfold qaU
    simp)
  rw[h1,List.any_eq_false.2 (fun _ _=>by simp),cond_false];rfl
theorem qx1 (s:StT) (h1:s.1.length≤1000000) (h2:s.2.2.2.2.2.1.length≤1000000):qbA s s=some true:=by
  unfold qbA;rw[bne_self_eq_false,cond_false]
  have hL:=qY s.2.2.2.2.2.1 (fun _=>false) (qaN s s) (.inr false) (.inl ((),())) (fun i hi=>by
    unfold qaN;simp only[show decide ((i:Int)<((s.2.2.2.2.2.1.length:Nat):Int))=true by simp;omega,cond_true];rw[qim s.2.2.2.2.2.1 i hi,Option.bind_some,Option.bind_some,qf (n:=(i:Int)+1) (by omega) (by omega)]
    simp) (by
    unfold qaN
    simp)
  rw[hL,List.any_eq_false.2 (fun _ _=>by simp),cond_false,Option.bind_some];simp only[Sum.elim_inl];rw[same_T _ (by omega),Option.bind_some];simp
theorem run_jlenT {r:Rules} {cr:CRule} (es:List Ev) (m:MS) (h:okE r cr m es):(runE r cr m es).j.length=m.j.length+es.length:=by
  obtain⟨t,h1,h2⟩:=run_j es m h;have:=congrArg List.length h2;simp only[List.length_map] at this;rw[h1,List.length_append,this]
theorem qxA {r:Rules} {cr:CRule}:∀(a b:List Ev) (m:MS),runE r cr m (a++b)=runE r cr (runE r cr m a) b
  | [],b,m=>rfl
  | e::a,b,m=>qxA a b _
theorem qwJ {r:Rules} {cr:CRule} {M:MS} (l:List Ev) (hev:∀e∈l,EvR e) (hM:MOK r cr M):∀(k i:Nat) (es:List Ev),i+k=(l.take 20).length→okE r cr M es→es.length≤i →
    ∃es',okE r cr M es'∧es'.length≤(l.take 20).length∧iterW (qZ l) (((i:Int),()),(flatT (tupM r cr (runE r cr M es)),()))=some ((),(flatT (tupM r cr (runE r cr M es')),()))
  | 0,i,es,hi,ho,hl=>by
    refine⟨es,ho,by omega,qm ?_⟩;unfold qZ;simp only[take20];rw[show decide ((i:Int)<(((l.take 20).length:Nat):Int))=false by simp only[decide_eq_false_iff_not];omega,cond_false]
  | k+1,i,es,hi,ho,hl=>by
    have h20:(l.take 20).length≤20:=by rw[List.length_take];omega
    have hil:i<(l.take 20).length:=by omega
    have he:EvR (l.take 20)[i]:=hev _ (List.mem_of_mem_take (List.getElem_mem hil));have hm:=qsS es _ hM ho;obtain⟨d1,d2⟩:=qqo hm he;have hs:qZ l (((i:Int),()),(flatT (tupM r cr (runE r cr M es)),()))=some (.inl ((((i+1:Nat):Int),()),(flatT (tupM r cr (doM r cr (runE r cr M es) (l.take 20)[i]).1),()))):=by
      unfold qZ;simp only[take20];rw[show decide ((i:Int)<(((l.take 20).length:Nat):Int))=true by simp only[decide_eq_true_eq];omega,cond_true,qim _ i hil,Option.bind_some];refine(congrArg (fun z=>Option.bind z _) d1).trans ?_;rw[Option.bind_some,qf (by omega) (by omega)];rfl
    rw[qo hs];by_cases c:(doM r cr (runE r cr M es) (l.take 20)[i]).2=0
    · have:=qwJ l hev hM k (i+1) (es++[(l.take 20)[i]]) (by omega) (qxH es M ho he c) (by simp;omega);rw[qux] at this;exact this
    · rw[(do_jR _ _ _ _).2 c];exact qwJ l hev hM k (i+1) es (by omega) ho (by omega)
theorem tj_load {r:Rules} {cr:CRule} {W:MS} (q:Jn×ByteArray×Unit) (es:List Ev) (ht:(q.1.drop 1).map (·.1)=es.map qb2) (hl:es.length≤1000):∀(k i:Nat) (m:MS),i+k=es.length→MOK r cr m→okE r cr m (es.drop i) →
    iterW (qW q ((),(flatT (tupM r cr W),()))) (((i:Int),()),(flatT (tupM r cr m),()))=some (.inl ((),(flatT (tupM r cr (runE r cr m (es.drop i))),())))
  | 0,i,m,hi,h,ho=>by
    have hlen:(q.1.drop 1).length=es.length:=by have:=congrArg List.length ht;simpa using this
    rw[List.drop_of_length_le (by omega)];refine qm ?_;unfold qW;simp only[qxf];rw[show decide ((i:Int)<(((q.1.drop 1).length:Nat):Int))=false by simp only[decide_eq_false_iff_not];omega,cond_false];rfl
  | k+1,i,m,hi,h,ho=>by
    have hlen:(q.1.drop 1).length=es.length:=by have:=congrArg List.length ht;simpa using this
    have hie:i<es.length:=by omega
    have hil:i<(q.1.drop 1).length:=by omega
    have htx:(q.1.drop 1)[i].1=qb2 es[i]:=by
      have:=congrArg (fun x=>x[i]?) ht;simp only[List.getElem?_map,List.getElem?_eq_getElem hil,List.getElem?_eq_getElem hie,Option.map_some,Option.some.injEq] at this;exact this
    rw[List.drop_eq_getElem_cons hie] at ho ⊢;obtain⟨he,h0,ho'⟩:=ho;obtain⟨d1,d2⟩:=qqo h he;have hs:qW q ((),(flatT (tupM r cr W),())) (((i:Int),()),(flatT (tupM r cr m),()))=some (.inl ((((i+1:Nat):Int),()),(flatT (tupM r cr (doM r cr m es[i]).1),()))):=by
      unfold qW;simp only[qxf,qao,agree_self];rw[show decide ((i:Int)<(((q.1.drop 1).length:Nat):Int))=true by simp only[decide_eq_true_eq];omega,cond_true,qim _ i hil,Option.bind_some,htx,quj he,Option.bind_some];simp only[bne_self_eq_false,cond_false];refine(congrArg (fun z=>Option.bind z _) d1).trans ?_;rw[Option.bind_some,h0];simp only[bne_self_eq_false,cond_false];rw[qf (by omega) (by omega)];rfl
    rw[qo hs];exact tj_load q es ht hl k (i+1) _ (by omega) d2 ho'
theorem tail_at {A:Type} (l:List A) (n:Nat):(l.take ((l.length:Nat):Int).toNat).drop ((n:Nat):Int).toNat=l.drop n:=by rw[Int.toNat_natCast,Int.toNat_natCast,List.take_length]
theorem tj_rest {r:Rules} {cr:CRule} (j:Jn) (q:Jn×ByteArray×Unit) (es:List Ev) (ht:(j.drop q.1.length).map (·.1)=es.map qb2) (hl:es.length≤1000):∀(k i:Nat) (m:MS),i+k=es.length→MOK r cr m→okE r cr m (es.drop i) →
    iterW (qX j q) (((i:Int),()),(flatT (tupM r cr m),()))=some (.inl ((),(flatT (tupM r cr (runE r cr m (es.drop i))),())))
  | 0,i,m,hi,h,ho=>by
    have hlen:(j.drop q.1.length).length=es.length:=by have:=congrArg List.length ht;simpa using this
    rw[List.drop_of_length_le (by omega)];refine qm ?_;unfold qX;simp only[tail_at];rw[show decide ((i:Int)<(((j.drop q.1.length).length:Nat):Int))=false by simp only[decide_eq_false_iff_not];omega,cond_false];rfl
  | k+1,i,m,hi,h,ho=>by
    have hlen:(j.drop q.1.length).length=es.length:=by have:=congrArg List.length ht;simpa using this
    have hie:i<es.length:=by omega
    have hil:i<(j.drop q.1.length).length:=by omega
    have htx:(j.drop q.1.length)[i].1=qb2 es[i]:=by
      have:=congrArg (fun x=>x[i]?) ht;simp only[List.getElem?_map,List.getElem?_eq_getElem hil,List.getElem?_eq_getElem hie,Option.map_some,Option.some.injEq] at this;exact this
    rw[List.drop_eq_getElem_cons hie] at ho ⊢;obtain⟨he,h0,ho'⟩:=ho;obtain⟨d1,d2⟩:=qqo h he;have hs:qX j q (((i:Int),()),(flatT (tupM r cr m),()))=some (.inl ((((i+1:Nat):Int),()),(flatT (tupM r cr (doM r cr m es[i]).1),()))):=by
      unfold qX;simp only[tail_at,qao,agree_self];rw[show decide ((i:Int)<(((j.drop q.1.length).length:Nat):Int))=true by simp only[decide_eq_true_eq];omega,cond_true,qim _ i hil,Option.bind_some,htx,quj he,Option.bind_some];simp only[bne_self_eq_false,cond_false];refine(congrArg (fun z=>Option.bind (Option.bind z _) _) d1).trans ?_;rw[Option.bind_some,Option.bind_some,h0];simp only[bne_self_eq_false,cond_false];rw[qf (by omega) (by omega)];rfl
    rw[qo hs];exact tj_rest j q es ht hl k (i+1) _ (by omega) d2 ho'
theorem sum_rng (b:Int) (s:ByteArray) (hs:s.size≤1000000):0≤sumJ b s∧sumJ b s≤18446744073709551615:=by
  have h:=qpC b s hs;unfold qc1 at h;obtain⟨x,h1,h2⟩:=Option.bind_eq_some_iff.1 h;have h2:=Option.some.inj h2;rw[←h2];unfold wu64;rw[IntKind.wrap_u64];omega
theorem JOK.sums {l:Jn} (h:JOK l):SumR l:=fun x hx=>by
  obtain⟨i,hi,rfl⟩:=List.mem_iff_getElem.1 hx;obtain⟨h1,h2⟩:=h.2 i hi;rw[h2];exact sum_rng _ _ (by have:=h1.1;omega)
theorem JOK.take {l:Jn} (h:JOK l) (k:Nat):JOK (l.take k):=by
  have hl:=h.1;refine⟨by rw[List.length_take];omega,fun i hi=>?_⟩;rw[List.length_take] at hi;rw[List.getElem_take,List.take_take,Nat.min_eq_left (by omega)];exact h.2 i (by omega)
theorem idx_ok (a:Int) (ha : -9223372036854775808≤a∧a≤9223372036854775807) (z:Nat) (hz:z≤1000000):∃n:Nat,n≤z∧(w64 ((w64 ((a.tmod (w64 (((z:Nat):Int)+1)))+((z:Nat):Int)))+1)).tmod (w64 (((z:Nat):Int)+1))=(n:Int):=by
  have h1:=Int.tmod_lt_of_pos a (show(0:Int)<((z:Nat):Int)+1 by omega);have h2:=Int.lt_tmod_of_pos a (show(0:Int)<((z:Nat):Int)+1 by omega);rw[qf (n:=((z:Nat):Int)+1) (by omega) (by omega)];generalize a.tmod (((z:Nat):Int)+1)=b at h1 h2;rw[qf (n:=b+((z:Nat):Int)) (by omega) (by omega),qf (by omega) (by omega)];have h3:=Int.tmod_lt_of_pos (b+((z:Nat):Int)+1) (show(0:Int)<((z:Nat):Int)+1 by omega);have h4:=Int.tmod_nonneg (((z:Nat):Int)+1) (show(0:Int)≤b+((z:Nat):Int)+1 by omega);exact⟨((b+((z:Nat):Int)+1).tmod (((z:Nat):Int)+1)).toNat,by omega,by omega⟩
theorem gamehalltopTopJournal_true (r:Rules) (cr:CRule) (l:List Ev) (at':Int) (hr:Rng qbL r) (hcr:Rng tyCRule cr) (hl:Rng (.sl tyEvent) l) (hat:Rng (.int .i64) at'):qci r cr l at'=some true:=by
  have hlen:l.length≤9223372036854775807:=hl.1;have hev:∀e∈l,EvR e:=fun e he=>evR_of (hl.2 e he);have hcl:cr.1.length≤9223372036854775807:=hcr.1.1;have z64:I64 0:=⟨by decide,by decide⟩;have hz:(0:Int)≤0∧(0:Int)≤100000000:=⟨by decide,by decide⟩
  have hb:qe 0 (if (20:Int)<((l.length:Nat):Int) then(20:Int) else((l.length:Nat):Int)) l.length=true:=by simp only[qe,Bool.and_eq_true,decide_eq_true_eq];split<;>omega
  unfold qci;simp only[qao,agree_self];rw[qyn,Option.bind_some];simp only[Bool.not_true,cond_false]
  cases decide ((((r.2.2.2.2.1.length:Nat):Int))>20) with
  | true=>rfl
  | false =>
    rw[cond_false,qkj r hr];by_cases c:qad r=0
    rotate_left
    · rw[if_neg c,Option.bind_some];simp only[bne_t c,cond_true]
    rw[if_pos c,Option.bind_some];simp only[bne_self_eq_false,cond_false];rw[qkq (qbx c),Option.bind_some,Option.bind_some];simp only[bne_self_eq_false,cond_false];rw[qnX cr 0 hcl];by_cases c1:chkC cr=0
    rotate_left
    · rw[if_neg c1,Option.bind_some];simp only[bne_t c1,cond_true]
    rw[if_pos c1,if_pos hz,Option.bind_some];simp only[bne_self_eq_false,cond_false];have hm:=qwo (r:=r) (cr:=cr) (now:=0) hr hcl c c1 hz;have hnj:=new_j r cr 0;rw[Option.bind_some,qsi c1,Option.bind_some];refine(congrArg (fun z=>Option.bind z _) (qmj z64)).trans ?_;rw[Option.bind_some];rw[show qG (ByteArray.mk #[115,116,97,114,116,32]) (numS 0)=true from(qkp z64).2,qb];refine(congrArg (fun z=>Option.bind z _) (qgH z64).1).trans ?_;rw[Option.bind_some];refine(congrArg (fun z=>Option.bind z _) (qs0 (r:=r) (cr:=cr) (now:=0) c)).trans ?_;rw[Option.bind_some,hb,qb];have hno:=qs0 (r:=r) (cr:=cr) (now:=0) c;generalize newM r cr 0=M0 at *;obtain⟨es,ho,hes,hloop⟩:=qwJ l hev hm (l.take 20).length 0 [] (Nat.zero_add _) trivial (Nat.le_refl _)
    have h20:(l.take 20).length≤20:=by rw[List.length_take];omega
    refine(congrArg (fun z=>Option.bind z _) hloop).trans ?_;rw[Option.bind_some];clear hloop;have hW:=qsS es _ hm ho;have hjW:=run_jlenT es M0 ho;obtain⟨tj,ht1,ht2⟩:=run_j es _ ho
    have hM0j:M0.j.length=1:=by rw[hnj];rfl
    refine(congrArg (fun z=>Option.bind z _) (cloneJ (runE r cr M0 es).j (by omega))).trans ?_;rw[Option.bind_some,qyr hW.j hW.j.sums,Option.bind_some];have hwr:∀x∈(runE r cr M0 es).j,x.1.size≤200:=fun x hx=>by
      obtain⟨i,hi,rfl⟩:=List.mem_iff_getElem.1 hx;exact(hW.j.2 i hi).1.1
    have hbl:=qm4 hwr;obtain⟨T,hT⟩:∃T:ByteArray,T=⟨(textB (runE r cr M0 es).j).toArray⟩:=⟨_,rfl⟩
    have hTd:T.data.toList=textB (runE r cr M0 es).j:=by rw[hT]
    have hTz:T.size=(textB (runE r cr M0 es).j).length:=by rw[qaO,hTd]
    have hpos:1≤T.size:=by
      rw[hTz]
      cases hq:(runE r cr M0 es).j with
      | nil=>rw[hq] at hjW;simp at hjW;omega
      | cons x q =>
        unfold textB;rw[List.flatMap_cons,List.length_append,List.length_append];simp only[List.length_cons,List.length_nil];omega
    rw[←hT];have hne:(((0:Int)!=0)||(T.toList==(ByteArray.mk #[]).toList))=false:=by
      rw[bne_self_eq_false,Bool.false_or,beq_eq_false_iff_ne];intro e;rw[ByteArray.toList_eq,ByteArray.toList_eq] at e;have:=congrArg List.length e;rw[←qaO] at this;have:T.size=0:=this;omega
    rw[hne,cond_false];obtain⟨n,hn,hidx⟩:=idx_ok at' hat T.size (by omega);simp only[hidx];rw[bne_t (show ¬w64 (((T.size:Nat):Int)+1)=0 by rw[qf (by omega) (by omega)];omega),qb,qb,show qe 0 (n:Int) T.size=true by simp only[qe,Bool.and_eq_true,decide_eq_true_eq];omega,qb];obtain⟨k,rest,hk,hrec⟩:=qvx hW.j hW.j.sums n;have hex:T.extract 0 (((n:Nat):Int)).toNat=⟨((textB (runE r cr M0 es).j).take n).toArray⟩:=qi9 (by rw[qm8,hTd,List.drop_zero,Int.toNat_natCast]);rw[hex,hrec,Option.bind_some]
    have hlk:((runE r cr M0 es).j.take k).length=k:=by rw[List.length_take];omega
    by_cases c0:k=0
    · subst c0;simp only[List.take_zero,List.length_nil];rw[show(((0:Nat):Int)==0)=true from rfl,cond_true,qmT (l:=[]) ⟨by simp,by simp⟩];rfl
    simp only[hlk];rw[beq_f (show ¬((k:Nat):Int)=0 by omega),cond_false,qmT (hW.j.take k),Option.bind_some];simp only[bne_self_eq_false,cond_false];rw[show inb 0 k=true from inb_iff.2 ⟨by omega,by omega⟩,qb]
    have hj:(runE r cr M0 es).j=(qa6 0,(sumJ 0 (qa6 0),()))::tj:=by rw[ht1,hnj];rfl
    have htl:tj.length=es.length:=by have:=congrArg List.length ht2;simpa using this
    have hget:∀d,getD' ((runE r cr M0 es).j.take k) 0 d=(qa6 0,(sumJ 0 (qa6 0),())):=fun d=>by
      rw[hj,show k=(k-1)+1 by omega,List.take_succ_cons];rfl
    rw[hget];refine(congrArg (fun z=>Option.bind z _) (cut_start 0)).trans ?_;rw[Option.bind_some];simp only;rw[qb6 z64,Option.bind_some];simp only[Bool.not_true,Bool.or_self,cond_false];rw[Option.bind_some];simp only[bne_self_eq_false,cond_false];rw[Option.bind_some,Option.bind_some];simp only[bne_self_eq_false,cond_false];rw[qnX cr 0 hcl,if_pos c1,if_pos hz,Option.bind_some];simp only[bne_self_eq_false,cond_false];rw[Option.bind_some,Option.bind_some];refine(congrArg (fun z=>Option.bind z _) (qmj z64)).trans ?_;rw[Option.bind_some,show qG (ByteArray.mk #[115,116,97,114,116,32]) (numS 0)=true from(qkp z64).2,qb];refine(congrArg (fun z=>Option.bind z _) (qgH z64).1).trans ?_;rw[Option.bind_some];refine(congrArg (fun z=>Option.bind z _) hno).trans ?_
    rw[Option.bind_some,show qe 1 ((k:Nat):Int) k=true by simp only[qe,Bool.and_eq_true,decide_eq_true_eq];omega,qb];obtain⟨o1,o2⟩:=(qw6 (r:=r) (cr:=cr) (es.take (k-1)) (es.drop (k-1)) M0).1 (by rw[List.take_append_drop];exact ho)
    have hload:=tj_load (r:=r) (cr:=cr) (W:=runE r cr M0 es) ((runE r cr M0 es).j.take k,(rest,())) (es.take (k-1)) (by
      show(((runE r cr M0 es).j.take k).drop 1).map (·.1)=_;rw[hj,show k=(k-1)+1 by omega,List.take_succ_cons];show(tj.take (k-1)).map (·.1)=(es.take (k-1+1-1)).map qb2
      rw[show k-1+1-1=k-1 by omega,List.map_take,ht2,List.map_take]) (by rw[List.length_take];omega) (es.take (k-1)).length 0 M0 (Nat.zero_add _) hm o1
    rw[List.drop_zero] at hload;refine(congrArg (fun z=>Option.bind z _) hload).trans ?_;rw[Option.bind_some,Sum.elim_inl];have hcl2:=cloneJ (runE r cr M0 es).j (by omega);refine(congrArg (fun z=>Option.bind z _) hcl2).trans ?_;rw[Option.bind_some,decide_eq_false (show ¬((k:Nat):Int)>(((runE r cr M0 es).j.length:Nat):Int) by omega),cond_false];refine(congrArg (fun z=>Option.bind z _) hcl2).trans ?_;rw[Option.bind_some,show qe ((k:Nat):Int) (((runE r cr M0 es).j.length:Nat):Int) (runE r cr M0 es).j.length=true by simp only[qe,Bool.and_eq_true,decide_eq_true_eq];omega,qb]
    have hrest:=tj_rest (r:=r) (cr:=cr) (runE r cr M0 es).j ((runE r cr M0 es).j.take k,(rest,())) (es.drop (k-1)) (by
      show((runE r cr M0 es).j.drop ((runE r cr M0 es).j.take k).length).map (·.1)=_
      rw[hlk,hj,show k=(k-1)+1 by omega,List.drop_succ_cons,List.map_drop,ht2,show k-1+1-1=k-1 by omega,List.map_drop]) (by rw[List.length_drop];omega) (es.drop (k-1)).length 0 (runE r cr M0 (es.take (k-1))) (Nat.zero_add _) (qsS _ _ hm o1) o2
    rw[List.drop_zero,←qxA,List.take_append_drop] at hrest;refine(congrArg (fun z=>Option.bind z _) hrest).trans ?_;rw[Option.bind_some,Sum.elim_inl];generalize runE r cr M0 es=W at *;obtain⟨g1,g2⟩:=qpO hW;refine(congrArg (fun z=>Option.bind (Option.bind z _) _) g1).trans ?_;rw[Option.bind_some];refine(congrArg (fun z=>Option.bind (Option.bind z _) _) g2).trans ?_;rw[Option.bind_some];refine(congrArg (fun z=>Option.bind (Option.bind z _) _) g1).trans ?_;rw[Option.bind_some];refine(congrArg (fun z=>Option.bind (Option.bind z _) _) g2).trans ?_;rw[Option.bind_some];refine(congrArg (fun z=>Option.bind (Option.bind z _) _) (qx1 (W.g.2,(W.res,(W.rea,(W.c,(W.o,(W.pm,())))))) (show W.g.2.length≤1000000 by have:=hW.g.ok.most;omega) (show W.pm.length≤1000000 by have:=hW.few;omega))).trans ?_
    rw[Option.bind_some,cond_true];refine(congrArg (fun z=>Option.bind (Option.bind z _) _) (qaa hW.g.ok)).trans ?_;rw[Option.bind_some];refine(congrArg (fun z=>Option.bind (Option.bind z _) _) (qaa hW.g.ok)).trans ?_;rw[Option.bind_some];refine(congrArg (fun z=>Option.bind (Option.bind z _) _) (qus (p:=lastP W.g.1) (q:=lastP W.g.1) hW.g.ok.last)).trans ?_;unfold same0;simp
end Go.Proofs.YtlfpfiplndkofaaGreatDoor
