/- Several texts in one: CoreT, GameQ, RecA, AnnA, RecordM, RecB, RecC, AnnB, AnnC, RecD, AnnD, CutA, CutB, RecE, RecF, AnnotateCutsM, CutH, CutT, CutC, CutD. -/
import Derived.Test.YthidcmjpbokeeaaGreatMAE
import Derived.Test.YthidcmjpbokeeaaGreatMAA
namespace Go.Proofs.YthidcmjpbokeeaaGreat
open Go.Den
set_option linter.unusedVariables false
set_option linter.unusedSimpArgs false
set_option maxRecDepth 100000

theorem all_spec (r:Rules) (p:Place) (hr:Rng qR r) (hn:p.1.length≤9223372036854775807):qkL r p=some (if qar r p=0 then qe8 r p else [],qar r p,()):=by
  unfold qkL;rw[qmS r p hr hn,Option.bind_some];by_cases c:qar r p=0
  · rw[bne_f c,cond_false,if_pos c,qk9 (qkI c),c];rfl
  · rw[bne_t c,cond_true,if_neg c]
theorem qsn (r:Rules) (p:Place) (m:Mv) (hr:Rng qR r) (hn:p.1.length≤9223372036854775807):qgz r p m=some (if qar r p=0 then qv r p m else false,qar r p,()):=by
  unfold qgz;rw[all_spec r p hr hn,Option.bind_some];by_cases c:qar r p=0
  · have hv:=qkI c;simp only[if_pos c];rw[qjr _ _ (by have:=qlN hv;omega),Option.bind_some];have:decide (m∈qe8 r p)=qv r p m:=by
      rw[Bool.eq_iff_iff,decide_eq_true_eq,qhO]
    rw[this]
  · simp only[if_neg c];rw[qjr _ _ (by simp)];simp
def emptyP:Place:=([],([],[],()),0,0,())
theorem qsA (r:Rules) (p:Place) (m:Mv) (hr:Rng qR r) (hn:p.1.length≤9223372036854775807):qbG r p m=some (if qar r p=0 then if qv r p m=true then(qly r p m,0,()) else(emptyP,13,()) else(emptyP,qar r p,())):=by
  unfold qbG;rw[qsn r p m hr hn,Option.bind_some];by_cases c:qar r p=0
  · have hv:=qkI c;simp only[if_pos c];rw[c,show((0:Int)!=0)=false from rfl,cond_false]
    cases ha:qv r p m with
    | false=>rfl
    | true =>
      rw[Bool.not_true,cond_false,qov hv ha,Option.bind_some];rfl
  · simp only[if_neg c];rw[bne_t c,cond_true];rfl

theorem qqx (r:Rules) (p:Place) (hr:Rng qR r) (hn:p.1.length≤9223372036854775807):qrA r p=some (if qar r p=0 then qcx r p else 0,qar r p,()):=by
  unfold qrA;rw[qmS r p hr hn,Option.bind_some];by_cases c:qar r p=0
  · rw[bne_f c,cond_false,if_pos c,qk6 (qkI c),c];rfl
  · rw[bne_t c,cond_true,if_neg c]
def repRes (r:Rules) (l:List Mv):Int×Int×Unit:=if qu r=0 then(match qhk r l with
    | .inl s=>(((qhZ s.1:Nat):Int),(0,()))
    | .inr e=>(0,(e,()))) else(0,(qu r,()))
theorem tic_rng:Rng qR qS:=qh4 _ _ (by decide +kernel)
theorem qse (L:List Place) (h0:0<L.length) (h1:L.length≤1000000) (hv:∀r':Unit,True) (i:Nat) (c:Int):qdT L ((c,(i:Int),()),())=cntF L c (i:Int):=by
  have e:qdT L ((c,(i:Int),()),())=bif (decide ((i:Int)<((L.length:Nat):Int))) then(Option.bind (at? L (i:Int)) fun a=>Option.bind (at? L (w64 (((L.length:Nat):Int)-1))) fun b=>Option.bind (qbW a b) fun x=>Option.bind (bif x then some ((w64 (c+1),()),()) else some ((c,()),())) fun y:(Int×Unit)×Unit=>some (Sum.inl ((y.1.1,w64 ((i:Int)+1),()),()))) else some (Sum.inr ((c,()),())):=rfl;rw[e];unfold cntF;have hw:=qjS h0 (by omega);by_cases hi:i<L.length
  · rw[ltd L i hi,cond_true,cond_true,hw,inbN L i hi,inbN L _ (by omega),qb,qb];rw[at?_eq L _ (by omega) (by omega),at?_eq L ((L.length-1:Nat):Int) (by omega) (by omega),Option.bind_some,Option.bind_some];simp only[Int.toNat_natCast];rw[gd_eq L i hi,gd_eq L _ (by omega)]
    cases qbW L[i] (L[L.length-1]'(by omega))<;>rfl
  · rw[decide_eq_false (by omega),cond_false,cond_false]
theorem qqH {r:Rules} {L:List Place} (hv:∀p∈L,Valid r p) (h0:0<L.length) (h1:L.length≤1000000):qie L=some ((qhZ L:Nat):Int):=by
  have hw:=qjS h0 (by omega);unfold qie
  have:=qju L (fun p=>same0 p (lastP L)) (qdT L) (fun c=>((c,()),())) (fun i hi c hc0 hc1=>by
    rw[qse L h0 h1 (fun _=>trivial)];unfold cntF;rw[ltd L i hi,cond_true,inbN L i hi,qb,hw,inbN L _ (by omega),qb,Int.toNat_natCast,Int.toNat_natCast,gd_eq L i hi,qoz (hv _ (List.getElem_mem hi)),Option.bind_some,Option.bind_some];show Option.bind (bif same0 L[i] (lastP L) then _ else _) _=_;rw[qg (n:=c+1) (by omega) (by omega),qg (n:=(i:Int)+1) (by omega) (by omega)];cases same0 L[i] (lastP L)<;>rfl) (fun c=>by
    rw[qse L h0 h1 (fun _=>trivial)];unfold cntF
    rw[nltd,cond_false])
  rw[this];rfl
theorem res3_spec {r:Rules} {L:List Place} (c:qu r=0) (hr:Rng qR r) (hv:∀p∈L,Valid r p) (h0:0<L.length) (h1:L.length≤1000000):qeN r L=some (qfp r L):=by
  have hw:=qjS h0 (by omega);have hl:=hv _ (qrm h0);have h64:=qbB hl;have hrep:=(qcl c).repeats;unfold qeN;rw[hw,at?_eq L _ (by omega) (by omega),Option.bind_some];simp only[Int.toNat_natCast]
  have hla:L[L.length-1]'(by omega)=lastP L:=by unfold lastP;rw[gd_eq L (L.length-1) (by omega)]
  rw[hla,qqx r _ hr (by omega),qrl c hl,Option.bind_some,qqH hv h0 h1];unfold qfp;simp only[if_true,beq_self_eq_true,Bool.true_and];have hq:decide (r.2.2.2.2.2.2.2.2.2.2.1>0)=(r.repeats !=0):=by
    rw[Bool.eq_iff_iff];simp only[decide_eq_true_eq,bne_iff_ne];show r.repeats>0↔r.repeats≠0;omega
  rw[hq];show Option.bind (gopt ((qcx r (lastP L)==0)&&(r.repeats !=0)) 0 (some ((qhZ L:Nat):Int))) (fun x=>bif ((qcx r (lastP L)==0)&&(r.repeats !=0))&&decide (x≥r.repeats) then some 3 else some (qcx r (lastP L)))=_
  cases ((qcx r (lastP L)==0)&&(r.repeats !=0)) with
  | false=>rfl
  | true =>
    simp only[gopt,cond_true,Option.bind_some,Bool.true_and]
    cases decide (((qhZ L:Nat):Int)≥r.repeats)<;>rfl
def qiP (r:Rules) (l:List Mv):List Place×Int×Unit:=if qu r=0 then(match qhk r l with
    | .inl s=>(s.1,(0,()))
    | .inr e=>([],(e,()))) else([],(qu r,()))
theorem qpF (l:List Mv) (r:Rules) (ps:List Place) (i:Int):qbY l r ((ps,i,()),())=bif (decide (i<((l.length:Nat):Int))) then(Option.bind (at? l i) fun m=>Option.bind (qeN r ps) fun x=>bif (x !=0) then some (Sum.inr (Sum.inr (([]:List Place),(14,()))))
    else req (inb (w64 (((ps.length:Nat):Int)-1)) ps.length) (Option.bind (qbG r (getD' ps (w64 (((ps.length:Nat):Int)-1)).toNat dP) m) fun z=>bif (z.2.1 !=0) then some (Sum.inr (Sum.inr (([]:List Place),(13,())))) else bif (decide (((ps.length:Nat):Int)>400)) then some (Sum.inr (Sum.inr (([]:List Place),(9,()))))
      else req (room (ps.length+1) 88) (some (Sum.inl ((ps++[z.1],w64 (i+1),()),())))))
    else some (Sum.inr (Sum.inl ((ps,()),()))):=by
  unfold qbY;simp only[agree_self]
  first
  | rfl
  | cases decide (i<((l.length:Nat):Int)) with
    | false=>rfl
    | true =>
      simp only[cond_true];congr 1;funext m;congr 1;funext x
      cases (x !=0) with
      | true=>rfl
      | false =>
        simp only[cond_false]
        cases inb (w64 (((ps.length:Nat):Int)-1)) ps.length with
        | false=>rfl
        | true =>
          simp only[qb];show Option.bind (Option.bind (qbG r (getD' ps (w64 (((ps.length:Nat):Int)-1)).toNat dP) m) _) _=_
          cases qbG r (getD' ps (w64 (((ps.length:Nat):Int)-1)).toNat dP) m<;>rfl
theorem qlp {r:Rules} (hr:Rng qR r) (l:List Mv) (hlen:l.length≤1000000000):∀(k:Nat) (i:Nat) (s:List Place×List Mv),i+k=l.length→OKG r s→iterW (qbY l r) ((s.1,(i:Int),()),())=some (match runG r (l.drop i) s with
      | .inl s' => .inl ((s'.1,()),())
      | .inr e => .inr (([]:List Place),(e,())))
  | 0,i,s,hi,h=>by
    have:i=l.length:=by omega
    subst this;refine qj ?_;rw[qpF,nltd,cond_false,List.drop_length];rfl
  | k+1,i,s,hi,h=>by
    have hil:i<l.length:=by omega
    have hl:=h.len;have hm:=h.most;have hv:=h.last;have h64:=qbB hv;have hw:=qjS (L:=s.1) (by omega) (by omega);have hL:=qpF l r s.1 (i:Int);rw[ltd l i hil,cond_true,at?_eq l _ (by omega) (by omega),Option.bind_some,res3_spec h.ok hr h.all (by omega) (by omega),Option.bind_some,hw,inbN s.1 _ (by omega),qb] at hL;simp only[Int.toNat_natCast] at hL;have hla:getD' s.1 (s.1.length-1) dP=lastP s.1:=rfl;rw[hla,qsA r _ _ hr (by omega),if_pos (qrl h.ok hv),Option.bind_some] at hL;rw[List.drop_eq_getElem_cons hil];unfold runG;by_cases c1:qfp r s.1=0
    · rw[bne_f c1,cond_false] at hL;by_cases c2:qv r (lastP s.1) l[i]=true
      · rw[if_pos c2] at hL;simp only[bne_self_eq_false,cond_false] at hL;by_cases c3:s.2.length=400
        · have e:stepG r s l[i]=9:=by unfold stepG;rw[if_pos c1,if_pos c2,if_pos c3]
          rw[decide_eq_true (by omega),cond_true] at hL;rw[qj hL,e,if_neg (by decide)]
        · have e:stepG r s l[i]=0:=by unfold stepG;rw[if_pos c1,if_pos c2,if_neg c3]
          rw[decide_eq_false (by omega),cond_false,qZ (n:=s.1.length+1) (by omega),qb,qg (by omega) (by omega)] at hL;rw[qo hL,if_pos e];exact qlp hr l hlen k (i+1) (nextG r s l[i]) (by omega) (qrd h e)
      · have e:stepG r s l[i]=13:=by unfold stepG;rw[if_pos c1,if_neg c2]
        rw[if_neg c2] at hL;simp only[bne_t (show ¬(13:Int)=0 by decide),cond_true] at hL;rw[qj hL,e,if_neg (by decide)]
    · have e:stepG r s l[i]=14:=by unfold stepG;rw[if_neg c1]
      rw[bne_t c1,cond_true] at hL;rw[qj hL,e,if_neg (by decide)]
theorem qe4 (r:Rules) (l:List Mv) (hr:Rng qR r) (hl:l.length≤1000000000):qeR r l=some (qiP r l):=by
  unfold qeR qiP;rw[qmR r hr,Option.bind_some];by_cases c:qu r=0
  · simp only[if_pos c];rw[show((0:Int)!=0)=false from rfl,cond_false];have hP:=qlp hr l hl l.length 0 ([qbp r],[]) (by omega) (qlZ c);rw[List.drop_zero] at hP;have hP':iterW (qbY l r) ((([((qbp r).1,(((qbp r).2.1.1,((qbp r).2.1.2.1,())),(qbp r).2.2))]),(0:Int),()),())=_:=hP;rw[hP',Option.bind_some];unfold qhk
    cases runG r l ([qbp r],[])<;>rfl
  · simp only[if_neg c];rw[bne_t c,cond_true]

abbrev RTag:=ByteArray×ByteArray×Unit
abbrev RNode:=Int×Mv×ByteArray×Unit
abbrev Rec:=List RTag×ByteArray×List RNode×Int×Unit
abbrev tyTag:Ty := .st .str (.st .str .nil)
abbrev tyMv:Ty := .st (.int .i64) (.st (.int .i64) (.st (.int .i64) .nil))
abbrev tyNode:Ty := .st (.int .i64) (.st tyMv (.st .str .nil))
abbrev tyRec:Ty := .st (.sl tyTag) (.st .str (.st (.sl tyNode) (.st (.int .i64) .nil)))
theorem qbM {A:Type} (xs:List A) (i:Nat) (h:i<xs.length):at? xs (i:Int)=some xs[i]:=by
  rw[at?_eq xs _ (Int.natCast_nonneg i) (Int.ofNat_lt.2 h)];simp only[Int.toNat_natCast]
def badC (w:List UInt8) (c:UInt8):Bool:=(decide (((c.toNat:Nat):Int)<32)||decide (((c.toNat:Nat):Int)>126))||w.any (· == c)
def fineT (s w:ByteArray):Bool:=!(s.data.toList.any (badC w.data.toList))
theorem qlb (s:ByteArray):s.data.toList.length=s.size:=by rw[Array.length_toList];rfl
theorem qsq (s:ByteArray) (i:Nat) (h:i<s.data.toList.length):strAt s (i:Int)=some s.data.toList[i]:=by
  have h':i<s.size:=by rw[←qlb];exact h
  have h0:decide ((0:Int)≤(i:Int))=true:=by simp
  unfold strAt;rw[h0,cond_true,Int.toNat_natCast,getElem?_pos s i h',ByteArray.getElem_eq_getElem_data,Array.getElem_toList]
theorem bo_get (s:ByteArray) (i:Nat) (h:i<s.data.toList.length):getD' (qq s) i 0=((s.data.toList[i].toNat:Nat):Int):=by
  unfold getD' qq;rw[List.getD_eq_getElem?_getD,List.getElem?_map,List.getElem?_eq_getElem h];rfl
theorem qlh (s:ByteArray):(qq s).length=s.data.toList.length:=by unfold qq;rw[List.length_map]
theorem idx_any (c:UInt8):∀l:List UInt8,decide (Go.Lib.indexByte l c≥0)=l.any (· == c)
  | []=>rfl
  | b::l=>by
    have ih:=idx_any c l;have hg:=Go.Lib.indexByte_ge l c;rw[List.any_cons,←ih,show Go.Lib.indexByte (b::l) c=if b==c then 0 else if Go.Lib.indexByte l c == -1 then -1 else Go.Lib.indexByte l c+1 from rfl];by_cases h:(b==c)=true
    · rw[if_pos h,h];rfl
    · rw[if_neg h,Bool.eq_false_iff.2 h,Bool.false_or];by_cases h2:(Go.Lib.indexByte l c == -1)=true
      · have:Go.Lib.indexByte l c = -1:=by simpa using h2
        rw[if_pos h2,this]
      · have:¬Go.Lib.indexByte l c = -1:=by simpa using h2
        rw[if_neg h2,Bool.eq_iff_iff];simp only[decide_eq_true_eq];omega
theorem qhn (s w:ByteArray) (hs:s.size≤9223372036854775807):qbe s w=some (fineT s w):=by
  have hl:=qlb s;unfold qbe fineT
  have hL:=qt s.data.toList (badC w.data.toList) (qa2 s w) (.inr false) (.inl ((),())) (fun i hi=>by
    unfold qa2
    have h3:(i:Int)<(s.size:Int):=by omega
    have hg:∀b (c:UInt8),gopt b 0 (some c)=some (bif b then c else 0):=fun b c=>by cases b<;>rfl
    simp only[h3,decide_true,cond_true,qsq s i hi,Option.bind_some,hg,qg (n:=(i:Int)+1) (by omega) (by omega)];generalize s.data.toList[i]=c;have hx:decide (qdj w ((c.toNat:Nat):Int)≥0)=w.data.toList.any (· == c):=by
      unfold qdj;rw[Int.toNat_natCast,←idx_any,show(c.toNat).toUInt8=c from UInt8.ofNat_toNat]
    unfold badC;cases h1:decide (((c.toNat:Nat):Int)<32)
    · simp only[Bool.not_false,cond_true,Bool.false_or];cases h2:decide (((c.toNat:Nat):Int)>126)
      · simp only[Bool.not_false,cond_true,Bool.false_or,hx];rfl
      · simp only[Bool.true_or,cond_true]
    · simp only[Bool.true_or,cond_true]) (by
    unfold qa2;rw[hl]
    simp)
  rw[hL]
  cases s.data.toList.any (badC w.data.toList)<;>rfl
theorem any_cast (w:List UInt8) (c:UInt8):(w.map fun b=>((b.toNat:Nat):Int)).any (fun b=>((c.toNat:Nat):Int)==b)=w.any (· == c):=by
  rw[List.any_map];congr 1;funext b;show(((c.toNat:Nat):Int)==((b.toNat:Nat):Int))=(b==c);rw[Bool.eq_iff_iff];simp only[beq_iff_eq];constructor
  · intro h;exact(UInt8.toNat_inj.1 (by omega)).symm
  · intro h;rw[h]
theorem qfZ (s w:ByteArray) (hs:s.size≤140737488355328) (hw:w.size≤140737488355328):qgC s w=some (fineT s w):=by
  have hl:=qlb s;have hl2:=qlb w;unfold qgC fineT;rw[Nat.ble_eq_true_of_le hs,qb]
  have hL:=qt s.data.toList (badC w.data.toList) (qe1 s w) (.inr false) (.inl ((),())) (fun i hi=>by
    unfold qe1
    have h3:(i:Int)<(((qq s).length:Nat):Int):=by rw[qlh];omega
    have hin:inb (i:Int) (qq s).length=true:=inb_iff.2 ⟨by omega,h3⟩;simp only[h3,decide_true,cond_true,hin,qb,Nat.ble_eq_true_of_le hw,Int.toNat_natCast,bo_get s i hi]
    have hL2:=qt (qq w) (fun b=>getD' (qq s) i 0==b) (qfl w s (((i:Int),()),())) (.inr (.inr (.inr (.inr false)))) (.inl ((),())) (fun j hj=>by
      unfold qfl
      have h4:(j:Int)<(((qq w).length:Nat):Int):=by omega
      have hj2:inb (j:Int) (qq w).length=true:=inb_iff.2 ⟨by omega,h4⟩
      have hjs:j<w.data.toList.length:=by rw[←qlh];exact hj
      simp only[h4,decide_true,cond_true,hj2,qb,Int.toNat_natCast,qg (n:=(j:Int)+1) (by rw[qlh] at hj;omega) (by rw[qlh] at hj;omega)];rw[show getD' (qq w) j 0=(qq w)[j] by simp[getD',hj]]
      rfl) (by unfold qfl;simp)
    rw[bo_get s i hi] at hL2;rw[hL2,Option.bind_some,qg (n:=(i:Int)+1) (by omega) (by omega)];generalize s.data.toList[i]=c;have ha:(qq w).any (fun b=>((c.toNat:Nat):Int)==b)=w.data.toList.any (· == c):=any_cast _ c;rw[ha];unfold badC;cases w.data.toList.any (· == c)
    · simp only[cond_false,Sum.elim_inl,Bool.or_false]
      cases (decide (((c.toNat:Nat):Int)<32)||decide (((c.toNat:Nat):Int)>126))<;>rfl
    · simp only[cond_true,Sum.elim_inr,Bool.or_true,Option.bind_some]) (by
    unfold qe1;rw[qlh]
    simp)
  rw[hL]
  cases s.data.toList.any (badC w.data.toList)<;>rfl
theorem bo_ch (s:ByteArray) (i:Nat) (h:i<s.size):getD' (qq s) i 0=((ch s i:Nat):Int):=by
  have h':i<s.data.toList.length:=by rw[qlb];exact h
  rw[bo_get s i h'];unfold ch;rw[getElem?_pos s i h,ByteArray.getElem_eq_getElem_data,Array.getElem_toList];rfl
theorem qsH (s:ByteArray) (hs:s.size≤9223372036854775807):qkM s=some (qeH s):=by
  unfold qkM;by_cases h0:s.size=0∨8<s.size
  · have e:((s.toList==(ByteArray.mk #[]).toList)||(decide (((s.size:Nat):Int)>8)))=true:=by
      rw[ql1];simp only[Bool.or_eq_true,decide_eq_true_eq];omega
    have hn:qeH s=false:=by
      unfold qeH;rw[show decide (1≤s.size∧s.size≤8)=false by simp only[decide_eq_false_iff_not];omega,Bool.and_false]
    rw[e,hn];rfl
  · have e:((s.toList==(ByteArray.mk #[]).toList)||(decide (((s.size:Nat):Int)>8)))=false:=by
      rw[ql1];simp only[Bool.or_eq_false_iff,decide_eq_false_iff_not];omega
    obtain⟨c,hc1,hc2⟩:=qrx s 0 (by omega);have hc1:strAt s 0=some c:=hc1
    have hg:∀b (c:UInt8),gopt b 0 (some c)=some (bif b then c else 0):=fun b c=>by cases b<;>rfl
    rw[e,hc1];simp only[hg,Bool.not_false,cond_true,Option.bind_some,Bool.false_or,hc2]
    have hd:decide (1≤s.size∧s.size≤8)=true:=by simp only[decide_eq_true_eq];omega
    by_cases h1:65≤ch s 0∧ch s 0≤90
    · have e1:decide (((ch s 0:Nat):Int)<65)=false:=by simp only[decide_eq_false_iff_not];omega
      have e2:decide (((ch s 0:Nat):Int)>90)=false:=by simp only[decide_eq_false_iff_not];omega
      simp only[e1,Bool.not_false,cond_true,hc2,e2,Bool.or_self,cond_false];rw[Nat.ble_eq_true_of_le (show s.size≤140737488355328 by omega),qb]
      have hL:=qt (List.range s.size) (qdx s) (qfd s) (.inr false) (.inl ((),())) (fun i hi=>by
        have hi':i<s.size:=by simpa using hi
        unfold qfd
        have h3:(i:Int)<(((qq s).length:Nat):Int):=by rw[qlh,qlb];omega
        have hin:inb (i:Int) (qq s).length=true:=inb_iff.2 ⟨by omega,h3⟩;simp only[h3,decide_true,cond_true,hin,qb,Int.toNat_natCast,bo_ch s i hi',List.getElem_range,qg (n:=(i:Int)+1) (by omega) (by omega)];have hb:((decide (((ch s i:Nat):Int)<65)||decide (((ch s i:Nat):Int)>90))&&(decide (((ch s i:Nat):Int)<48)||decide (((ch s i:Nat):Int)>57)))=qdx s i:=by
          unfold qdx;rw[Bool.eq_iff_iff];simp only[Bool.and_eq_true,Bool.or_eq_true,decide_eq_true_eq,Bool.not_eq_true',Bool.or_eq_false_iff,decide_eq_false_iff_not];by_cases hz:i=0
          · subst hz;omega
          · omega
        rw[hb]
        rfl) (by
        unfold qfd;rw[qlh,qlb,List.length_range]
        simp)
      rw[hL];unfold qeH;rw[hd,Bool.and_true]
      cases (List.range s.size).any (qdx s)<;>rfl
    · have hn:qeH s=false:=by
        unfold qeH;have:(List.range s.size).any (qdx s)=true:=by
          rw[List.any_eq_true];refine⟨0,List.mem_range.2 (by omega),?_⟩;unfold qdx;simp only[Bool.not_eq_true',Bool.or_eq_false_iff,decide_eq_false_iff_not];omega
        rw[this];rfl
      rw[hn];cases e1:decide (((ch s 0:Nat):Int)<65)
      · simp only[decide_eq_false_iff_not] at e1;simp only[Bool.not_false,cond_true,hc2,show decide (((ch s 0:Nat):Int)>90)=true by simp only[decide_eq_true_eq];omega,Bool.or_true]
      · simp only[Bool.true_or,cond_true]
def cErr (s:ByteArray):Int:=if 60<s.size then 2 else if fineT s (ByteArray.mk #[123,125])=false then 3 else 0
theorem qdV (s:ByteArray) (hs:s.size≤9223372036854775807):qbN s=some (cErr s):=by
  unfold qbN cErr;by_cases h:60<s.size
  · rw[if_pos h,show decide (((s.size:Nat):Int)>60)=true by simp only[decide_eq_true_eq];omega];rfl
  · rw[if_neg h,show decide (((s.size:Nat):Int)>60)=false by simp only[decide_eq_false_iff_not];omega,cond_false,qhn _ _ (by omega),Option.bind_some]
    cases fineT s (ByteArray.mk #[123,125])<;>rfl
def tErrD (pre:List RTag) (d:RTag):Int:=if qeH d.1=false then 6 else if 40<d.2.1.size then 2 else if fineT d.2.1 (ByteArray.mk #[34])=false then 3 else if pre.any (fun u=>u.1.toList==d.1.toList)=true then 7 else 0
def tErr (ts:List RTag) (i:Nat):Int:=match ts[i]? with
  | none=>0
  | some d=>tErrD (ts.take i) d
theorem qn9 (ts:List RTag) (i:Nat) (h:i<ts.length):tErr ts i=tErrD (ts.take i) ts[i]:=by
  unfold tErr;rw[List.getElem?_eq_getElem h]
theorem qpp (x:Rec) (hx:Rng tyRec x):qgI x=some (qr (tErr x.1) x.1.length):=by
  have hn:x.1.length≤9223372036854775807:=hx.1.1;unfold qgI
  have:=qoP x.1.length (qc4 x) (tErr x.1) ((),()) (some 0) (fun i hi=>by
    have hd1:(x.1[i]).1.size≤9223372036854775807:=(hx.1.2 _ (List.getElem_mem hi)).1;have hd2:(x.1[i]).2.1.size≤9223372036854775807:=(hx.1.2 _ (List.getElem_mem hi)).2.1;rw[qn9 _ _ hi];unfold qc4;simp only[show decide ((i:Int)<((x.1.length:Nat):Int))=true by simp;omega,cond_true];rw[qbM _ _ hi,Option.bind_some];generalize x.1[i]=d at hd1 hd2;unfold tErrD;rw[qpm _ (by omega),Option.bind_some];cases qeH d.1
    · rfl
    · simp only[Bool.not_true,cond_false,if_neg (show ¬(true=false) by decide)];by_cases h1:40<d.2.1.size
      · rw[if_pos h1,show decide (((d.2.1.size:Nat):Int)>40)=true by simp only[decide_eq_true_eq];omega];rfl
      · rw[if_neg h1,show decide (((d.2.1.size:Nat):Int)>40)=false by simp only[decide_eq_false_iff_not];omega,cond_false,qhn _ _ (by omega),Option.bind_some];cases fineT d.2.1 (ByteArray.mk #[34])
        · rfl
        · simp only[Bool.not_true,cond_false,if_neg (show ¬(true=false) by decide)];rw[show qm 0 (i:Int) x.1.length=true by simp only[qm,Bool.and_eq_true,decide_eq_true_eq];omega,qb]
          have hl:(x.1.take i).length=i:=by rw[List.length_take];omega
          have hL:=qt (x.1.take i) (fun u=>u.1.toList==d.1.toList) (qdf x (((i:Int),()),()) d) (.inr (.inr (.inr 7))) (.inl ((),())) (fun j hj=>by
            have hj':j<i:=by rw[List.length_take] at hj;omega
            unfold qdf;simp only[Int.toNat_natCast,List.drop_zero,hl];simp only[show decide ((j:Int)<((i:Nat):Int))=true by simp;omega,cond_true];rw[qbM _ _ hj,Option.bind_some];simp only[Int.toNat_natCast,show decide ((j:Int)≥0)=true by simp,cond_true,qg (n:=(j:Int)+1) (by omega) (by omega)]
            rfl) (by
            unfold qdf;simp only[Int.toNat_natCast,List.drop_zero,hl]
            simp)
          rw[hL,Option.bind_some,qg (n:=(i:Int)+1) (by omega) (by omega)]
          cases (x.1.take i).any (fun u=>u.1.toList==d.1.toList)<;>rfl) (by
    unfold qc4
    simp)
  rw[this];split
  · rename_i h;rw[h]
  · rfl
theorem qkf (x:Rec) (hx:Rng tyRec x) (z:Option Int):Option.bind (iterW (qaw x) ((0,()),())) (Sum.elim (fun _=>z) some)=if qr (tErr x.1) x.1.length=0 then z else some (qr (tErr x.1) x.1.length):=by
  have hn:x.1.length≤9223372036854775807:=hx.1.1;refine qoP x.1.length (qaw x) (tErr x.1) ((),()) z (fun i hi=>?_) (by unfold qaw;simp);have hd1:(x.1[i]).1.size≤9223372036854775807:=(hx.1.2 _ (List.getElem_mem hi)).1;have hd2:(x.1[i]).2.1.size≤9223372036854775807:=(hx.1.2 _ (List.getElem_mem hi)).2.1;rw[qn9 _ _ hi];unfold qaw;simp only[show decide ((i:Int)<((x.1.length:Nat):Int))=true by simp;omega,cond_true];rw[qbM _ _ hi,Option.bind_some];generalize x.1[i]=d at hd1 hd2;unfold tErrD;rw[qsH _ (by omega),Option.bind_some];cases qeH d.1
  · rfl
  · simp only[Bool.not_true,cond_false,if_neg (show ¬(true=false) by decide)];by_cases h1:40<d.2.1.size
    · rw[if_pos h1,show decide (((d.2.1.size:Nat):Int)>40)=true by simp only[decide_eq_true_eq];omega];rfl
    · rw[if_neg h1,show decide (((d.2.1.size:Nat):Int)>40)=false by simp only[decide_eq_false_iff_not];omega,cond_false,qfZ _ _ (by omega) (by decide),Option.bind_some];cases fineT d.2.1 (ByteArray.mk #[34])
      · rfl
      · simp only[Bool.not_true,cond_false,if_neg (show ¬(true=false) by decide)]
        have hL:=qt (x.1.take i) (fun u=>u.1.toList==d.1.toList) (qaZ (((i:Int),()),()) x d) (.inr (.inr (.inr (.inr 7)))) (.inl ((),())) (fun j hj=>by
          have hj':j<i:=by rw[List.length_take] at hj;omega
          unfold qaZ;simp only[show decide ((j:Int)<(i:Int))=true by simp;omega,cond_true];rw[qbM _ _ (show j<x.1.length by omega),Option.bind_some];simp only[Int.toNat_natCast,qg (n:=(j:Int)+1) (by omega) (by omega),List.getElem_take]
          rfl) (by
          unfold qaZ;simp only[List.length_take,Nat.min_eq_left (Nat.le_of_lt hi)]
          simp)
        rw[hL,Option.bind_some,qg (n:=(i:Int)+1) (by omega) (by omega)]
        cases (x.1.take i).any (fun u=>u.1.toList==d.1.toList)<;>rfl

inductive Fo where
  | nil
  | cons (m:Mv) (c:ByteArray) (k r:Fo)
def qad:Fo→List Mv
  | .nil=>[]
  | .cons m _ _ r=>m::qad r
def Dis:Fo→Prop
  | .nil=>True
  | .cons m _ k r=>m∉qad r∧Dis k∧Dis r
def insF (g:Fo→Fo) (m:Mv) (c:ByteArray) (k:Fo):Fo→Fo
  | .nil => .cons m c k .nil
  | .cons m' c' k' r=>if m'=m then .cons m' (if c'.toList=[] then c else c') (g k') r else .cons m' c' k' (insF g m c k r)
def mgF:Fo→Fo→Fo
  | .nil,o=>o
  | .cons m c k r,o=>mgF r (insF (mgF k) m c k o)
def wfF (p:List Mv):Fo→List (List Mv×ByteArray)
  | .nil=>[]
  | .cons m c k r=>(p++[m],c)::(wfF (p++[m]) k++wfF p r)
def kyF (p:List Mv) (f:Fo):List (List Mv):=(wfF p f).map (·.1)
theorem qaR (p:List Mv) (m:Mv) (c:ByteArray) (k r:Fo):kyF p (.cons m c k r)=(p++[m])::(kyF (p++[m]) k++kyF p r):=by simp[kyF,wfF]
theorem insF_sub {g:Fo→Fo} (hg:∀q k,(kyF q k).Sublist (kyF q (g k))) (m:Mv) (c:ByteArray) (k:Fo) (p:List Mv):∀o,(kyF p o).Sublist (kyF p (insF g m c k o))
  | .nil=>List.nil_sublist _
  | .cons m' c' k' r=>by
    unfold insF;split
    · rw[qaR,qaR];exact((hg _ k').append (List.Sublist.refl _)).cons_cons _
    · rw[qaR,qaR];exact((List.Sublist.refl _).append (insF_sub hg m c k p r)).cons_cons _
theorem insF_mem {g:Fo→Fo} {k:Fo} (hg:∀q k' w,w∈kyF q (g k')↔w∈kyF q k'∨w∈kyF q k) (m:Mv) (c:ByteArray) (p w:List Mv):∀o,w∈kyF p (insF g m c k o)↔w∈kyF p o∨w=p++[m]∨w∈kyF (p++[m]) k
  | .nil=>by
    rw[insF,qaR];simp[kyF,wfF]
  | .cons m' c' k' r=>by
    unfold insF;split
    · rename_i e;subst e;rw[qaR,qaR];simp only[List.mem_cons,List.mem_append,hg];constructor
      · rintro (h | (h | h) | h)
        · exact .inl (.inl h)
        · exact .inl (.inr (.inl h))
        · exact .inr (.inr h)
        · exact .inl (.inr (.inr h))
      · rintro ((h | h | h) | h | h)
        · exact .inl h
        · exact .inr (.inl (.inl h))
        · exact .inr (.inr h)
        · exact .inl h
        · exact .inr (.inl (.inr h))
    · rw[qaR,qaR];simp only[List.mem_cons,List.mem_append,insF_mem hg m c p w r];constructor
      · rintro (h | h | h | h | h)
        · exact .inl (.inl h)
        · exact .inl (.inr (.inl h))
        · exact .inl (.inr (.inr h))
        · exact .inr (.inl h)
        · exact .inr (.inr h)
      · rintro ((h | h | h) | h | h)
        · exact .inl h
        · exact .inr (.inl h)
        · exact .inr (.inr (.inl h))
        · exact .inr (.inr (.inr (.inl h)))
        · exact .inr (.inr (.inr (.inr h)))
def lookF:Fo→List Mv→Option ByteArray
  | .nil,_=>none
  | .cons m c k r,[]=>none
  | .cons m c k r,x::t=>if x=m then(match t with | []=>some c | _::_=>lookF k t) else lookF r (x::t)
theorem qlw:∀f,lookF f []=none
  | .nil=>rfl
  | .cons _ _ _ _=>rfl
theorem qgw:∀ {f:Fo} {x:Mv} {t:List Mv} {c:ByteArray},lookF f (x::t)=some c→x∈qad f
  | .nil,_,_,_,h=>by cases h
  | .cons m c k r,x,t,c',h=>by
    simp only[lookF] at h;split at h
    · rename_i e;simp[qad,e]
    · exact List.mem_cons_of_mem _ (qgw h)
def combF:Option ByteArray→Option ByteArray→Option ByteArray
  | none,y=>y
  | some a,none=>some a
  | some a,some b=>some (if a.toList=[] then b else a)
theorem qjC (x:Option ByteArray):combF x none=x:=by cases x<;>rfl
where
  insF_lookD {k:Fo} (hg:∀k' t,Dis k'→lookF (mgF k k') t=combF (lookF k' t) (lookF k t)) (m:Mv) (c:ByteArray):∀(o:Fo) (t:List Mv),Dis o→lookF (insF (mgF k) m c k o) t=combF (lookF o t) (lookF (.cons m c k .nil) t)
  | .nil,t,_=>by
    rw[insF];cases t<;>rfl
  | .cons m' c' k' r,[],_=>by
    unfold insF
    split<;>rfl
  | .cons m' c' k' r,x::t,⟨h1,h2,h3⟩=>by
    unfold insF;split
    · rename_i e;subst e;by_cases hx:x=m'
      · subst hx
        cases t with
        | nil=>simp[lookF,combF]
        | cons y t=>simp[lookF,hg k' _ h2]
      · simp only[lookF,if_neg hx,qjC]
    · rename_i e;by_cases hx:x=m'
      · subst hx
        cases t with
        | nil=>simp[lookF,e,qjC]
        | cons y t=>simp[lookF,e,qjC]
      · have:=insF_lookD hg m c r (x::t) h3;simp only[lookF,if_neg hx] at this ⊢;exact this
theorem qou:∀(f:Fo) (p:List Mv) (w:List Mv) (c:ByteArray),Dis f→((w,c)∈wfF p f↔∃t,w=p++t∧lookF f t=some c)
  | .nil,p,w,c,_=>by simp[wfF,lookF]
  | .cons m c' k r,p,w,c,⟨h1,h2,h3⟩=>by
    simp only[wfF,List.mem_cons,List.mem_append,Prod.mk.injEq,qou k _ w c h2,qou r _ w c h3];constructor
    · rintro (⟨rfl,rfl⟩ | ⟨t,rfl,ht⟩ | ⟨t,rfl,ht⟩)
      · exact⟨[m],rfl,by simp[lookF]⟩
      · refine⟨m::t,by simp,?_⟩
        cases t with
        | nil=>rw[qlw] at ht;cases ht
        | cons y t=>simpa[lookF] using ht
      · refine⟨t,rfl,?_⟩
        cases t with
        | nil=>rw[qlw] at ht;cases ht
        | cons y t =>
          have:y≠m:=fun e=>h1 (e▸qgw ht);simpa[lookF,this] using ht
    · rintro ⟨t,rfl,ht⟩
      cases t with
      | nil=>cases ht
      | cons y t =>
        simp only[lookF] at ht;split at ht
        · rename_i e;subst e
          cases t with
          | nil=>simp at ht;exact .inl ⟨rfl,ht.symm⟩
          | cons z t=>exact .inr (.inl ⟨z::t,by simp,ht⟩)
        · exact .inr (.inr ⟨_,rfl,ht⟩)
theorem qk2:∀(f:Fo) (p:List Mv),Dis f→(kyF p f).Nodup
  | .nil,p,_=>by simp[kyF,wfF]
  | .cons m c k r,p,⟨h1,h2,h3⟩=>by
    have pre:∀ {f:Fo} {q w:List Mv},Dis f→w∈kyF q f→∃x t c,w=q++x::t∧lookF f (x::t)=some c:=fun {f q w} hf hw=>by
      obtain⟨⟨w',c⟩,h,rfl⟩:=List.mem_map.1 hw;obtain⟨t,rfl,ht⟩:=(qou f q w' c hf).1 h
      cases t with
      | nil=>rw[qlw] at ht;cases ht
      | cons x t=>exact⟨x,t,c,rfl,ht⟩
    rw[qaR,List.nodup_cons];refine⟨fun h=>?_,List.nodup_append.2 ⟨qk2 k _ h2,qk2 r _ h3,fun a ha b hb e=>?_⟩⟩
    · rcases List.mem_append.1 h with h | h
      · obtain⟨x,t,_,e,_⟩:=pre h2 h;have:=congrArg List.length e;simp at this
      · obtain⟨x,t,_,e,ht⟩:=pre h3 h;have e':=List.append_cancel_left e;cases e';exact h1 (qgw ht)
    · subst e;obtain⟨x,t,_,e1,_⟩:=pre h2 ha;obtain⟨y,t',_,e2,ht⟩:=pre h3 hb;rw[e1,List.append_assoc] at e2;have e':=List.append_cancel_left e2;cases e';exact h1 (qgw ht)
theorem qpz:Mono qcC:=by
  intro self self' hself x
  unfold qcC qme
  repeat (first | exact Le.refl _ | assumption | apply hself | apply Le.cond | apply Le.req | apply Le.gopt | apply Le.map | apply Le.agreeW | refine Le.iterW (fun _=>?_) _ | refine Le.bind ?_ (Le.elim (fun _=>?_) (fun _=>?_)) | refine Le.bind ?_ (fun _=>?_))

def rpar (ns:List RNode) (i:Nat):Int:=((ns[i]?).map (·.1)).getD (-1)
def rmv (ns:List RNode) (i:Nat):Mv:=((ns[i]?).map (·.2.1)).getD (0,(0,(0,())))
def qpM (ns:List RNode):Nat→Int→List Nat
  | 0,_=>[]
  | f+1,n=>if n<0 then [] else n.toNat::qpM ns f (rpar ns n.toNat)
def Down (ns:List RNode) (k:Nat):Prop:=∀i,i<k→rpar ns i<(i:Int)
theorem Down.mono {ns:List RNode} {k j:Nat} (h:Down ns k) (hj:j≤k):Down ns j:=fun i hi=>h i (by omega)
theorem qmY {ns:List RNode}:∀(f g:Nat) (n:Int),Down ns (n+1).toNat→n<(f:Int)→n<(g:Int)→qpM ns f n=qpM ns g n
  | 0,0,n,_,_,_=>rfl
  | 0,g+1,n,_,h,_=>by
    show []=if n<0 then [] else _;rw[if_pos (by omega)]
  | f+1,0,n,_,_,h=>by
    show(if n<0 then [] else _)=[];rw[if_pos (by omega)]
  | f+1,g+1,n,hd,h1,h2=>by
    show(if n<0 then [] else _)=if n<0 then [] else _;by_cases h:n<0
    · rw[if_pos h,if_pos h]
    · rw[if_neg h,if_neg h];have:=hd n.toNat (by omega);rw[qmY f g (rpar ns n.toNat) (hd.mono (by omega)) (by omega) (by omega)]
def wayN (ns:List RNode) (n:Int):List Nat:=qpM ns (n+1).toNat n
theorem qbm (ns:List RNode) {n:Int} (h:n<0):wayN ns n=[]:=by
  unfold wayN;rw[show(n+1).toNat=0 by omega];rfl
theorem qaB {ns:List RNode} {n:Int} (h:0≤n) (hd:Down ns (n+1).toNat):wayN ns n=n.toNat::wayN ns (rpar ns n.toNat):=by
  have hp:=hd n.toNat (by omega);unfold wayN;rw[show(n+1).toNat=n.toNat+1 by omega];show(if n<0 then [] else n.toNat::qpM ns n.toNat (rpar ns n.toNat))=_;rw[if_neg (by omega),qmY n.toNat (rpar ns n.toNat+1).toNat (rpar ns n.toNat) (hd.mono (by omega)) (by omega) (by omega)]
def wayM (ns:List RNode) (n:Int):List Mv:=((wayN ns n).map (rmv ns)).reverse
theorem wayN_le {ns:List RNode}:∀(k:Nat) (n:Int),(n+1).toNat≤k→Down ns (n+1).toNat→∀j∈wayN ns n,(j:Int)≤n
  | 0,n,hk,_,j,hj=>by rw[qbm ns (by omega)] at hj;cases hj
  | k+1,n,hk,hd,j,hj=>by
    by_cases h:n<0
    · rw[qbm ns h] at hj;cases hj
    · have hp:=hd n.toNat (by omega);rw[qaB (by omega) hd] at hj;rcases List.mem_cons.1 hj with rfl | hj
      · omega
      · have:=wayN_le k (rpar ns n.toNat) (by omega) (hd.mono (by omega)) j hj;omega
theorem qc9 {ns:List RNode}:∀(k:Nat) (n:Int),(n+1).toNat≤k→Down ns (n+1).toNat→(wayN ns n).length≤k
  | 0,n,hk,_=>by rw[qbm ns (by omega)];exact Nat.le_refl _
  | k+1,n,hk,hd=>by
    by_cases h:n<0
    · rw[qbm ns h];exact Nat.zero_le _
    · have hp:=hd n.toNat (by omega);rw[qaB (by omega) hd,List.length_cons];have:=qc9 k (rpar ns n.toNat) (by omega) (hd.mono (by omega));omega
theorem qcL {ns:List RNode} {n:Int} (h0:0≤n) (h1:n<((ns.length:Nat):Int)):∃d,at? ns n=some d∧d.1=rpar ns n.toNat∧d.2.1=rmv ns n.toNat:=by
  have hl:n.toNat<ns.length:=by omega
  refine⟨ns[n.toNat],at?_eq _ _ h0 h1,?_,?_⟩
  · unfold rpar;rw[List.getElem?_eq_getElem hl];rfl
  · unfold rmv;rw[List.getElem?_eq_getElem hl];rfl
theorem way_L1 (x:Rec) (hn:x.2.2.1.length≤1000):∀s:((List Mv×Int×Unit)×Unit),(s.1.2.1<((x.2.2.1.length:Nat):Int)∧Down x.2.2.1 (s.1.2.1+1).toNat∧s.1.1.length+(s.1.2.1+1).toNat≤2000) →
    iterW (qd8 x) s=some ((s.1.1++(wayN x.2.2.1 s.1.2.1).map (rmv x.2.2.1),()),()):=by
  refine qoQ _ (fun s:((List Mv×Int×Unit)×Unit)=>(s.1.2.1+1).toNat) (fun s=>((s.1.1++(wayN x.2.2.1 s.1.2.1).map (rmv x.2.2.1),()),())) ?_
  rintro ⟨⟨acc,n,⟨⟩⟩,⟨⟩⟩ ⟨h1,hd,hl⟩
  simp only at h1 hd hl ⊢;by_cases h:n<0
  · refine .inr ?_;unfold qd8;simp only[show decide (n≥0)=false by simp;omega,cond_false,qbm _ h,List.map_nil,List.append_nil]
  · refine .inl ?_;have hp:=hd n.toNat (by omega);obtain⟨d,e1,e2,e3⟩:=qcL (ns:=x.2.2.1) (n:=n) (by omega) h1;refine⟨((acc++[rmv x.2.2.1 n.toNat],rpar x.2.2.1 n.toNat,()),()),?_,⟨by simp only;omega,hd.mono (by simp only;omega),by simp only[List.length_append,List.length_cons,List.length_nil];omega⟩,by simp only;omega,?_⟩
    · unfold qd8;simp only[show decide (n≥0)=true by simp;omega,cond_true];rw[e1];simp only[Option.bind_some];rw[qZ (by simp only[List.length_cons,List.length_nil];omega),qb,e2,e3]
    · simp only;rw[qaB (by omega) hd,List.map_cons,List.append_assoc];rfl
def revK (xs:List Mv) (k:Nat):List Mv:=(List.range xs.length).map fun t=>if t<k∨xs.length-k≤t then xs.getD (xs.length-1-t) (0,(0,(0,()))) else xs.getD t (0,(0,(0,())))
theorem qdb (xs:List Mv) (k:Nat):(revK xs k).length=xs.length:=by simp[revK]
theorem qrt (xs:List Mv) (k t:Nat) (h:t<xs.length):getD' (revK xs k) t (0,(0,(0,())))=if t<k∨xs.length-k≤t then xs.getD (xs.length-1-t) (0,(0,(0,()))) else xs.getD t (0,(0,(0,()))):=by
  unfold getD' revK;rw[List.getD_eq_getElem?_getD,List.getElem?_map,List.getElem?_range h];rfl
theorem revK_step (xs:List Mv) (k:Nat) (h:k+1<xs.length-k):((revK xs k).set k (getD' (revK xs k) (xs.length-1-k) (0,(0,(0,()))))).set (xs.length-1-k) (getD' (revK xs k) k (0,(0,(0,()))))=revK xs (k+1):=by
  rw[qrt xs k k (by omega),qrt xs k (xs.length-1-k) (by omega),if_neg (by omega),if_neg (by omega)];apply List.ext_getElem
  · simp[qdb]
  · intro t h1 h2
    have ht:t<xs.length:=by rw[qdb] at h2;exact h2
    have e:∀j,(revK xs j)[t]?=some (if t<j∨xs.length-j≤t then xs.getD (xs.length-1-t) (0,(0,(0,()))) else xs.getD t (0,(0,(0,())))):=fun j=>by
      unfold revK;rw[List.getElem?_map,List.getElem?_range ht];rfl
    have e1:(revK xs (k+1))[t]=if t<k+1∨xs.length-(k+1)≤t then xs.getD (xs.length-1-t) (0,(0,(0,()))) else xs.getD t (0,(0,(0,()))):=by
      have:=e (k+1);rw[List.getElem?_eq_getElem h2] at this;exact Option.some.inj this
    have hk:t<(revK xs k).length:=by rw[qdb];exact ht
    have e2:(revK xs k)[t]=if t<k∨xs.length-k≤t then xs.getD (xs.length-1-t) (0,(0,(0,()))) else xs.getD t (0,(0,(0,()))):=by
      have:=e k;rw[List.getElem?_eq_getElem hk] at this;exact Option.some.inj this
    rw[e1,List.getElem_set,List.getElem_set,e2];by_cases c1:xs.length-1-k=t
    · rw[if_pos c1,if_pos (by omega),show xs.length-1-t=k by omega]
    · rw[if_neg c1];by_cases c2:k=t
      · rw[if_pos c2,if_pos (by omega),c2]
      · rw[if_neg c2];by_cases c3:t<k∨xs.length-k≤t
        · rw[if_pos c3,if_pos (by omega)]
        · rw[if_neg c3,if_neg (by omega)]
theorem revK_zero (xs:List Mv):revK xs 0=xs:=by
  apply List.ext_getElem
  · exact qdb xs 0
  · intro t h1 h2;have e:(revK xs 0)[t]?=some (xs.getD t (0,(0,(0,())))):=by
      unfold revK;rw[List.getElem?_map,List.getElem?_range h2];show some (if t<0∨xs.length-0≤t then _ else _)=_;rw[if_neg (by omega)]
    rw[List.getElem?_eq_getElem h1] at e;rw[Option.some.inj e];simp[List.getD_eq_getElem?_getD,h2]
theorem revK_all (xs:List Mv) (k:Nat) (h:xs.length≤2*k+1) (hk:2*k≤xs.length):revK xs k=xs.reverse:=by
  apply List.ext_getElem
  · rw[qdb,List.length_reverse]
  · intro t h1 h2
    have ht:t<xs.length:=by rw[qdb] at h1;exact h1
    have e:(revK xs k)[t]?=some (if t<k∨xs.length-k≤t then xs.getD (xs.length-1-t) (0,(0,(0,()))) else xs.getD t (0,(0,(0,())))):=by
      unfold revK;rw[List.getElem?_map,List.getElem?_range ht];rfl
    rw[List.getElem?_eq_getElem h1] at e;rw[Option.some.inj e,List.getElem_reverse];by_cases c:t<k∨xs.length-k≤t
    · rw[if_pos c];simp[List.getD_eq_getElem?_getD,show xs.length-1-t<xs.length by omega]
    · rw[if_neg c]
      have:t=xs.length-1-t:=by omega
      simp only[←this];simp[List.getD_eq_getElem?_getD,ht]
theorem way_L2 (xs:List Mv) (hx:xs.length≤1000000):iterW qcz ((0,(w64 (((xs.length:Nat):Int)-1)),()),(xs,()))=some ((),(xs.reverse,())):=by
  have:=qd9 (f:=qcz) (xs.length / 2) (fun k=>(((k:Int),((xs.length:Nat):Int)-1-(k:Int),()),(revK xs k,()))) ((),(xs.reverse,())) (fun k hk=>by
    unfold qcz
    have e1:(((xs.length:Nat):Int)-1-(k:Int)).toNat=xs.length-1-k:=by omega
    simp only[show decide ((k:Int)<((xs.length:Nat):Int)-1-(k:Int))=true by simp;omega,cond_true];rw[show inb (((xs.length:Nat):Int)-1-(k:Int)) (revK xs k).length=true from inb_iff.2 (by rw[qdb];omega),show inb (k:Int) (revK xs k).length=true from inb_iff.2 (by rw[qdb];omega)];simp only[qb,Int.toNat_natCast,e1]
    rw[show ∀y,inb (((xs.length:Nat):Int)-1-(k:Int)) ((revK xs k).set k y).length=true from fun y=>inb_iff.2 (by rw[List.length_set,qdb];omega),qb,revK_step xs k (by omega),qg (by omega) (by omega),qg (by omega) (by omega),show((k+1:Nat):Int)=(k:Int)+1 by omega,show((xs.length:Nat):Int)-1-((k:Int)+1)=((xs.length:Nat):Int)-1-(k:Int)-1 by omega]) (by
    unfold qcz;simp only[show decide (((xs.length / 2:Nat):Int)<((xs.length:Nat):Int)-1-((xs.length / 2:Nat):Int))=false by simp only[decide_eq_false_iff_not];omega,cond_false]
    rw[revK_all xs _ (by omega) (by omega)])
  simp only[Int.natCast_zero,Int.sub_zero,revK_zero] at this;rw[qg (by omega) (by omega)];exact this
theorem qqw (x:Rec) (hn:x.2.2.1.length≤1000) {n:Int} (h0 : -1≤n) (h1:n<((x.2.2.1.length:Nat):Int)) (hd:Down x.2.2.1 (n+1).toNat):qQ x n=some (wayM x.2.2.1 n):=by
  unfold qQ;have e:=way_L1 x hn (([],n,()),()) ⟨h1,hd,by simp only[List.length_nil];omega⟩;simp only[List.nil_append] at e;have hl:=qc9 _ n (Nat.le_refl _) hd;rw[e,Option.bind_some];simp only;rw[way_L2 _ (by rw[List.length_map];omega),Option.bind_some];rfl
theorem qpe (ns:List RNode) (hn:ns.length≤1000):∀x:List RNode×Int×Unit,(x.1=ns ∧ -1≤x.2.1∧x.2.1<((ns.length:Nat):Int)∧Down ns (x.2.1+1).toNat∧∀i,i<(x.2.1+1).toNat → -1≤rpar ns i)→fixW qcC x=some (wayM ns x.2.1,(true,())):=by
  refine fixW_ind qpz _ (fun x=>(x.2.1+1).toNat) (fun x=>(wayM ns x.2.1,(true,()))) ?_
  rintro φ ⟨l,n,⟨⟩⟩ ⟨rfl,h0,h1,hd,hm⟩ hφ
  simp only at h0 h1 hd hm hφ ⊢;have hn:l.length≤1000:=hn;unfold qcC qme;simp only;by_cases h:n = -1
  · subst h;simp only[beq_self_eq_true,cond_true];rw[show wayM l (-1)=[] by unfold wayM;rw[qbm l (by omega)];rfl]
  · obtain⟨d,e1,e2,e3⟩:=qcL (ns:=l) (n:=n) (by omega) h1;have hp:=hd n.toNat (by omega);have hp2:=hm n.toNat (by omega);rw[beq_f h,cond_false,show(decide (n<0)||decide (n≥((l.length:Nat):Int)))=false by simp only[Bool.or_eq_false_iff,decide_eq_false_iff_not];omega]
    have hgat:∀z,gat true z l n=some d:=fun z=>by show at? l n=_;exact e1
    simp only[Bool.not_false,hgat,Option.bind_some,Bool.false_or,e2,show decide (rpar l n.toNat≥n)=false by simp only[decide_eq_false_iff_not];omega,cond_false];rw[e1];simp only[Option.bind_some,e2];rw[hφ (l,rpar l n.toNat,()) ⟨rfl,hp2,by simp only;omega,hd.mono (by simp only;omega),fun i hi=>hm i (by simp only at hi;omega)⟩ (by simp only;omega),Option.bind_some];have hl:=qc9 _ (rpar l n.toNat) (Nat.le_refl _) (hd.mono (by omega));rw[qZ (by unfold wayM;simp only[List.length_reverse,List.length_map,List.length_cons,List.length_nil];omega),qb,e3];have:wayM l n=wayM l (rpar l n.toNat)++[rmv l n.toNat]:=by
      unfold wayM;rw[qaB (by omega) hd,List.map_cons,List.reverse_cons]
    rw[this]
theorem way3 (ns:List RNode) (hn:ns.length≤1000) {n:Int} (h0 : -1≤n) (h1:n<((ns.length:Nat):Int)) (hd:Down ns (n+1).toNat) (hm:∀i,i<(n+1).toNat → -1≤rpar ns i):qkV ns n=some (wayM ns n,(true,())) :=
  qpe ns hn (ns,n,()) ⟨rfl,h0,h1,hd,hm⟩
theorem on_L1 (a:Int) (x:Rec):∀s:((Int×Unit)×Unit),(s.1.1<((x.2.2.1.length:Nat):Int)∧Down x.2.2.1 (s.1.1+1).toNat) →
    iterW (qdH a x) s=some (if 0≤a∧a.toNat∈wayN x.2.2.1 s.1.1 then .inr true else .inl ((),())):=by
  refine qoQ _ (fun s:((Int×Unit)×Unit)=>(s.1.1+1).toNat) (fun s=>if 0≤a∧a.toNat∈wayN x.2.2.1 s.1.1 then(Sum.inr true:(Unit×Unit) ⊕ Bool) else Sum.inl ((),())) ?_
  rintro ⟨⟨n,⟨⟩⟩,⟨⟩⟩ ⟨h1,hd⟩
  simp only at h1 hd ⊢;by_cases h:n<0
  · refine .inr ?_;unfold qdH;simp only[show decide (n≥0)=false by simp;omega,cond_false,qbm _ h];rw[if_neg (by simp)]
  · have hp:=hd n.toNat (by omega);have hw:=qaB (ns:=x.2.2.1) (by omega) hd;by_cases ha:n=a
    · refine .inr ?_;subst ha;unfold qdH;simp only[show decide (n≥0)=true by simp;omega,cond_true,beq_self_eq_true];rw[if_pos ⟨by omega,by rw[hw];exact List.mem_cons_self⟩]
    · refine .inl ⟨((rpar x.2.2.1 n.toNat,()),()),?_,⟨by simp only;omega,hd.mono (by simp only;omega)⟩,by simp only;omega,?_⟩
      · obtain⟨d,e1,e2,e3⟩:=qcL (ns:=x.2.2.1) (n:=n) (by omega) h1;unfold qdH;simp only[show decide (n≥0)=true by simp;omega,cond_true,beq_f ha,cond_false];rw[e1,Option.bind_some,e2]
      · simp only;rw[hw];have:(0≤a∧a.toNat∈n.toNat::wayN x.2.2.1 (rpar x.2.2.1 n.toNat))↔(0≤a∧a.toNat∈wayN x.2.2.1 (rpar x.2.2.1 n.toNat)):=by
          rw[List.mem_cons];constructor
          · rintro ⟨q1,q2 | q2⟩
            · omega
            · exact⟨q1,q2⟩
          · rintro ⟨q1,q2⟩;exact⟨q1,.inr q2⟩
        simp only[this]
theorem on_spec (x:Rec) (a:Int) {n:Int} (h1:n<((x.2.2.1.length:Nat):Int)) (hd:Down x.2.2.1 (n+1).toNat):qgQ x a n=some (decide (0≤a∧a.toNat∈wayN x.2.2.1 n)||(a == -1)):=by
  unfold qgQ;rw[on_L1 a x ((n,()),()) ⟨h1,hd⟩,Option.bind_some];by_cases h:0≤a∧a.toNat∈wayN x.2.2.1 n
  · simp only[if_pos h,decide_eq_true h,Bool.true_or];rfl
  · simp only[if_neg h,decide_eq_false h,Bool.false_or];rfl
theorem above_L1 (a:Int) (ha:0≤a) (ns:List RNode):∀s:((Int×Unit)×Unit),(s.1.1<((ns.length:Nat):Int)∧Down ns (s.1.1+1).toNat) →
    ∃r,iterW (qbH a ns) s=some r∧(r.1.1==a)=decide (a.toNat∈wayN ns s.1.1):=by
  have key:∀k (n:Int),(n+1).toNat≤k→n<((ns.length:Nat):Int)→Down ns (n+1).toNat→∃r,iterW (qbH a ns) ((n,()),())=some r∧(r.1.1==a)=decide (a.toNat∈wayN ns n):=by
    intro k
    induction k with
    | zero =>
      intro n hk h1 hd;refine⟨((n,()),()),qj ?_,?_⟩
      · unfold qbH;simp only[show(decide (n>a)&&decide (n≥0))=false by simp;omega,cond_false]
      · simp only[qbm ns (show n<0 by omega)];rw[beq_f (by omega)];simp
    | succ k ih =>
      intro n hk h1 hd;by_cases h:n>a
      · have hp:=hd n.toNat (by omega);obtain⟨d,e1,e2,e3⟩:=qcL (ns:=ns) (n:=n) (by omega) h1;obtain⟨r,q1,q2⟩:=ih (rpar ns n.toNat) (by omega) (by omega) (hd.mono (by omega));refine⟨r,?_,?_⟩
        · rw[qo (y:=((rpar ns n.toNat,()),()))]
          · exact q1
          · unfold qbH;simp only[show(decide (n>a)&&decide (n≥0))=true by simp;omega,cond_true];rw[e1,Option.bind_some,e2]
        · rw[q2,qaB (by omega) hd];congr 1;rw[List.mem_cons,eq_iff_iff];constructor
          · exact .inr
          · rintro (q | q)
            · omega
            · exact q
      · refine⟨((n,()),()),qj ?_,?_⟩
        · unfold qbH;simp only[show(decide (n>a)&&decide (n≥0))=false by simp;omega,cond_false]
        · simp only;by_cases e:n=a
          · subst e;rw[beq_self_eq_true,qaB ha hd];simp
          · rw[beq_f e];have:¬a.toNat∈wayN ns n:=fun hm=>by
              have:=wayN_le _ n (Nat.le_refl _) hd _ hm;omega
            simp[this]
  rintro ⟨⟨n,⟨⟩⟩,⟨⟩⟩ ⟨h1,hd⟩
  exact key _ n (Nat.le_refl _) h1 hd
theorem qnp (ns:List RNode) {a n:Int} (ha:0≤a) (h1:n<((ns.length:Nat):Int)) (hd:Down ns (n+1).toNat):qeu ns a n=some (decide (a.toNat∈wayN ns n)):=by
  obtain⟨r,q1,q2⟩:=above_L1 a ha ns ((n,()),()) ⟨h1,hd⟩;unfold qeu;rw[q1,Option.bind_some,q2]

def rcom (ns:List RNode) (i:Nat):ByteArray:=((ns[i]?).map (·.2.2.1)).getD ByteArray.empty
def gErr (r:Rules) (l:List Mv):Int:=if qu r=0 then(match qhk r l with
    | .inl _=>0
    | .inr e=>e) else qu r
theorem run_err (r:Rules) (l:List Mv):(qsa r l).2.2.1=gErr r l:=by
  unfold qsa gErr;by_cases c:qu r=0
  · rw[if_pos c,if_pos c]
    cases qhk r l<;>rfl
  · rw[if_neg c,if_neg c]
theorem qgF (r:Rules) (l:List Mv):(qiP r l).2.1=gErr r l:=by
  unfold qiP gErr;by_cases c:qu r=0
  · rw[if_pos c,if_pos c]
    cases qhk r l<;>rfl
  · rw[if_neg c,if_neg c]
def ordB (ns:List RNode) (i:Nat):Bool:=decide (rpar ns i<(i:Int))&&(decide (0≤rpar ns i∧(rpar ns i).toNat∈wayN ns ((i:Int)-1))||(rpar ns i == -1))
def twinB (ns:List RNode) (i:Nat):Bool:=(List.range i).any fun k=>(rpar ns k==rpar ns i)&&(rmv ns k==rmv ns i)
def sibB (ns:List RNode) (i:Nat):Bool:=(List.range i).any fun k=>rpar ns k==rpar ns i
def nErr (r:Rules) (ns:List RNode) (i:Nat):Int:=if cErr (rcom ns i)≠0 then cErr (rcom ns i) else if ordB ns i=false then 3 else if twinB ns i=true then 7 else gErr r (wayM ns (i:Int))
def Ord (ns:List RNode) (k:Nat):Prop:=∀i,i<k→ordB ns i=true
theorem Ord.down {ns:List RNode} {k:Nat} (h:Ord ns k):Down ns k:=fun i hi=>by
  have:=h i hi;unfold ordB at this;simp only[Bool.and_eq_true,decide_eq_true_eq] at this;exact this.1
theorem Ord.low {ns:List RNode} {k:Nat} (h:Ord ns k):∀i,i<k → -1≤rpar ns i:=fun i hi=>by
  have:=h i hi;unfold ordB at this;simp only[Bool.and_eq_true,Bool.or_eq_true,decide_eq_true_eq,beq_iff_eq] at this;omega
theorem Ord.mono {ns:List RNode} {k j:Nat} (h:Ord ns k) (hj:j≤k):Ord ns j:=fun i hi=>h i (by omega)
theorem Ord.step {ns:List RNode} {k:Nat} (h:Ord ns k) (hk:ordB ns k=true):Ord ns (k+1):=fun i hi=>by
  by_cases e:i=k
  · subst e;exact hk
  · exact h i (by omega)
theorem qch {ns:List RNode} {i:Nat} (hi:i<ns.length):ns[i].1=rpar ns i∧ns[i].2.1=rmv ns i∧ns[i].2.2.1=rcom ns i:=by
  unfold rpar rmv rcom;rw[List.getElem?_eq_getElem hi];exact⟨rfl,rfl,rfl⟩
theorem qra {ns:List RNode} {i:Nat} (h:Down ns i) (hs:sibB ns i=true):rpar ns i+2≤(i:Int)∨rpar ns i<0∧1≤i:=by
  unfold sibB at hs;rw[List.any_eq_true] at hs;obtain⟨k,hk,e⟩:=hs;have hk:=List.mem_range.1 hk;have:=h k hk
  have e:rpar ns k=rpar ns i:=by simpa using e
  omega
structure qrp (ns:List RNode) (deep:List Int) (i:Nat):Prop where
  len:deep.length=ns.length
  all:∀j,j<ns.length→0≤deep.getD j 0∧2*deep.getD j 0≤(j:Int)+1
  zero:∀j,i≤j→deep.getD j 0=0
theorem gdD (xs:List Int) (i:Nat):getD' xs i 0=xs.getD i 0:=rfl
theorem setD (xs:List Int) (i j:Nat) (a:Int) (h:i<xs.length):(xs.set i a).getD j 0=if i=j then a else xs.getD j 0:=by
  rw[List.getD_eq_getElem?_getD,List.getD_eq_getElem?_getD,List.getElem?_set];by_cases e:i=j
  · rw[if_pos e,if_pos e,if_pos h];rfl
  · rw[if_neg e,if_neg e]
abbrev eqMv (a b:Mv):Bool:=(a.1==b.1)&&((a.2.1==b.2.1)&&((a.2.2.1==b.2.2.1)&&true))
theorem qia (a b:Mv):eqMv a b=(a==b):=by
  obtain⟨a1,a2,a3,⟨⟩⟩:=a;obtain⟨b1,b2,b3,⟨⟩⟩:=b;rw[Bool.eq_iff_iff];simp[eqMv]
theorem qex {r:Rules} (hr:Rng qR r) (x:Rec) (hx:Rng tyRec x) (h30:x.2.2.1.length≤30) {i:Nat} (hi:i<x.2.2.1.length) (ho:Ord x.2.2.1 i) {deep:List Int} (hD:qrp x.2.2.1 deep i) :
    ∃deep',qdi deep r x (i:Int)=some (deep',nErr r x.2.2.1 i)∧(nErr r x.2.2.1 i=0→qrp x.2.2.1 deep' (i+1)):=by
  have hcs:(rcom x.2.2.1 i).size≤9223372036854775807:=by
    have:=(hx.2.2.1.2 _ (List.getElem_mem hi)).2.2.1;rw[←(qch hi).2.2];exact this
  have hd:=ho.down;obtain⟨n1,n2,n3⟩:=qch hi;unfold qdi;rw[qbM _ _ hi,Option.bind_some];simp only[n1,n2,n3];rw[qdV _ hcs,Option.bind_some];unfold nErr;by_cases hc:cErr (rcom x.2.2.1 i)=0
  rotate_left
  · rw[bne_t hc,cond_true,if_pos hc];exact⟨_,rfl,fun h=>absurd h hc⟩
  rw[bne_f hc,cond_false,if_neg (fun h=>h hc)];have hon:qgQ x (rpar x.2.2.1 i) (w64 ((i:Int)-1))=some (decide (0≤rpar x.2.2.1 i∧(rpar x.2.2.1 i).toNat∈wayN x.2.2.1 ((i:Int)-1))||(rpar x.2.2.1 i == -1)):=by
    rw[qg (by omega) (by omega)];exact on_spec x _ (by omega) (by rw[show((i:Int)-1+1).toNat=i by omega];exact hd)
  rw[hon];by_cases hob:ordB x.2.2.1 i=true
  rotate_left
  · rw[Bool.not_eq_true] at hob;rw[if_pos hob];refine⟨deep,?_,fun h=>by cases h⟩;unfold ordB at hob;by_cases hp:rpar x.2.2.1 i<(i:Int)
    · rw[decide_eq_true hp,Bool.true_and] at hob;rw[show decide (rpar x.2.2.1 i≥(i:Int))=false by simp only[decide_eq_false_iff_not];omega,hob];rfl
    · rw[show decide (rpar x.2.2.1 i≥(i:Int))=true by simp only[decide_eq_true_eq];omega];rfl
  rw[if_neg (by rw[hob];decide)];have hor:=ho.step hob;have hd1:=hor.down;have hpi:=hd1 i (Nat.lt_succ_self i);have hpl:=hor.low i (Nat.lt_succ_self i);have hob2:=hob;unfold ordB at hob2;rw[decide_eq_true hpi,Bool.true_and] at hob2;rw[show decide (rpar x.2.2.1 i≥(i:Int))=false by simp only[decide_eq_false_iff_not];omega,hob2];simp only[Bool.not_false,gopt,cond_true,Option.bind_some,Bool.not_true,Bool.or_self,cond_false];have hdl:=hD.len
  obtain⟨dp,hdp1,hdp2⟩:∃dp:List Int,(bif (decide (rpar x.2.2.1 i≥0)) then req (inb (rpar x.2.2.1 i) deep.length) (req (inb (i:Int) deep.length) (some ((),((deep.set (((i:Int)).toNat) (getD' deep ((rpar x.2.2.1 i).toNat) 0)),()))))
      else some ((),(deep,())))=some ((),(dp,()))∧(qrp x.2.2.1 dp (i+1)∧(2*dp.getD i 0≤rpar x.2.2.1 i+1)):=by
    by_cases h0:0≤rpar x.2.2.1 i
    · rw[show decide (rpar x.2.2.1 i≥0)=true by simp only[decide_eq_true_eq];omega,cond_true,inb_iff.2 ⟨h0,by omega⟩,qb,show inb (i:Int) deep.length=true from inb_iff.2 (by omega),qb];have q:=hD.all (rpar x.2.2.1 i).toNat (by omega);refine⟨_,rfl,⟨by rw[List.length_set];exact hdl,fun j hj=>?_,fun j hj=>?_⟩,?_⟩
      · rw[Int.toNat_natCast,gdD,setD _ _ _ _ (by omega)];by_cases e:i=j
        · rw[if_pos e];omega
        · rw[if_neg e];exact hD.all j hj
      · rw[Int.toNat_natCast,gdD,setD _ _ _ _ (by omega),if_neg (by omega)];exact hD.zero j (by omega)
      · rw[Int.toNat_natCast,gdD,setD _ _ _ _ (by omega),if_pos rfl];omega
    · rw[show decide (rpar x.2.2.1 i≥0)=false by simp only[decide_eq_false_iff_not];omega,cond_false];exact⟨_,rfl,⟨hdl,hD.all,fun j hj=>hD.zero j (by omega)⟩,by rw[hD.zero i (Nat.le_refl _)];omega⟩
  rw[hdp1,Option.bind_some];rw[show qm 0 (i:Int) x.2.2.1.length=true by simp only[qm,Bool.and_eq_true,decide_eq_true_eq];omega,qb,qb]
  have htl:(x.2.2.1.take i).length=i:=by rw[List.length_take];omega
  have tk:∀k (hk:k<(x.2.2.1.take i).length),(x.2.2.1.take i)[k].1=rpar x.2.2.1 k∧(x.2.2.1.take i)[k].2.1=rmv x.2.2.1 k:=fun k hk=>by
    rw[List.getElem_take];exact⟨(qch (by omega)).1,(qch (by omega)).2.1⟩
  obtain⟨nd,hnd⟩:∃nd:RNode,x.2.2.1[i]=nd:=⟨_,rfl⟩;rw[hnd] at n1 n2;rw[hnd];have anyT:(x.2.2.1.take i).any (fun d=>(d.1==rpar x.2.2.1 i)&&(d.2.1==rmv x.2.2.1 i))=twinB x.2.2.1 i:=by
    unfold twinB;rw[Bool.eq_iff_iff,List.any_eq_true,List.any_eq_true];constructor
    · rintro ⟨d,hd,e⟩
      obtain⟨k,hk,rfl⟩:=List.mem_iff_getElem.1 hd;rw[(tk k hk).1,(tk k hk).2] at e;exact⟨k,List.mem_range.2 (by omega),e⟩
    · rintro ⟨k,hk,e⟩
      have hk:=List.mem_range.1 hk;refine⟨(x.2.2.1.take i)[k]'(by omega),List.getElem_mem _,?_⟩;rw[(tk k (by omega)).1,(tk k (by omega)).2];exact e
  have anyS:(x.2.2.1.take i).any (fun d=>d.1==rpar x.2.2.1 i)=sibB x.2.2.1 i:=by
    unfold sibB;rw[Bool.eq_iff_iff,List.any_eq_true,List.any_eq_true];constructor
    · rintro ⟨d,hd,e⟩
      obtain⟨k,hk,rfl⟩:=List.mem_iff_getElem.1 hd;rw[(tk k hk).1] at e;exact⟨k,List.mem_range.2 (by omega),e⟩
    · rintro ⟨k,hk,e⟩
      have hk:=List.mem_range.1 hk;refine⟨(x.2.2.1.take i)[k]'(by omega),List.getElem_mem _,?_⟩;rw[(tk k (by omega)).1];exact e
  have hL1:=qt (x.2.2.1.take i) (fun d=>(d.1==rpar x.2.2.1 i)&&(d.2.1==rmv x.2.2.1 i)) (qaO x (i:Int) nd ((),(dp,()))) (.inr (dp,7)) (.inl ((),())) (fun k hk=>by
    unfold qaO;simp only[Int.toNat_natCast,List.drop_zero,n1,n2];rw[htl];simp only[show decide ((k:Int)<((i:Nat):Int))=true by simp;omega,cond_true];rw[qbM _ _ hk,Option.bind_some,(tk k hk).1,(tk k hk).2];rw[qg (n:=(k:Int)+1) (by omega) (by omega)];have:=qia (rmv x.2.2.1 k) (rmv x.2.2.1 i);unfold eqMv at this;rw[this];cases e1:(rpar x.2.2.1 k==rpar x.2.2.1 i)
    · simp only[bne,e1,Bool.not_false,cond_true,Option.bind_some,Sum.elim_inl,Bool.false_and,cond_false];rfl
    · simp only[bne,e1,Bool.not_true,cond_false,Bool.true_and]
      cases (rmv x.2.2.1 k==rmv x.2.2.1 i)<;>rfl) (by
    unfold qaO;simp only[Int.toNat_natCast,List.drop_zero];rw[htl]
    simp)
  rw[hL1,anyT,Option.bind_some];cases htw:twinB x.2.2.1 i
  rotate_left
  · simp only[cond_true,Sum.elim_inr,if_true];exact⟨dp,rfl,fun h=>by cases h⟩
  simp only[cond_false,Sum.elim_inl,if_neg (show ¬(false=true) by decide)];have hway:qQ x (i:Int)=some (wayM x.2.2.1 (i:Int)):=qqw x (by omega) (by omega) (by omega) (by rw[show((i:Int)+1).toNat=i+1 by omega];exact hd1);have hwl:(wayM x.2.2.1 (i:Int)).length≤1000:=by
    unfold wayM;rw[List.length_reverse,List.length_map];have:=qc9 _ (i:Int) (Nat.le_refl _) (by rw[show((i:Int)+1).toNat=i+1 by omega];exact hd1);omega
  have hrun:=qr6 r (wayM x.2.2.1 (i:Int)) hr (by omega)
  have gm:∀z:List Int,z.length=x.2.2.1.length→2*z.getD i 0≤(i:Int)+1→(Option.bind (Option.bind (qQ x (i:Int)) fun r15=>Option.bind (qag r r15) fun r16=>some ((r16.2.2.1,()),())) fun x27:((Int×Unit)×Unit) =>
      bif (x27.1.1 !=0) then some (z,x27.1.1) else req (inb (i:Int) z.length) (bif (decide ((getD' z (((i:Int)).toNat) 0)>20)) then some (z,2) else some (z,0)))=some (z,gErr r (wayM x.2.2.1 (i:Int))):=fun z hz h2=>by
    rw[hway,Option.bind_some,hrun,Option.bind_some,Option.bind_some,run_err];by_cases e:gErr r (wayM x.2.2.1 (i:Int))=0
    · simp only[e,bne_self_eq_false,cond_false];rw[inb_iff.2 ⟨by omega,by omega⟩,qb,Int.toNat_natCast,gdD,show decide (z.getD i 0>20)=false by simp only[decide_eq_false_iff_not];omega,cond_false]
    · simp only[bne_t e,cond_true]
  have hL2:=qt (x.2.2.1.take i) (fun d=>d.1==rpar x.2.2.1 i) (qaP x (i:Int) nd ((),(dp,())) r) (.inr ((dp.set i (dp.getD i 0+1)),gErr r (wayM x.2.2.1 (i:Int)))) (.inl ((),())) (fun k hk=>by
    unfold qaP;simp only[Int.toNat_natCast,List.drop_zero,n1,n2];rw[htl];simp only[show decide ((k:Int)<((i:Nat):Int))=true by simp;omega,cond_true];rw[qbM _ _ hk,Option.bind_some,(tk k hk).1];rw[qg (n:=(k:Int)+1) (by omega) (by omega)];cases e1:(rpar x.2.2.1 k==rpar x.2.2.1 i)
    · rfl
    · have hs:sibB x.2.2.1 i=true:=by
        unfold sibB;rw[List.any_eq_true];exact⟨k,List.mem_range.2 (by omega),e1⟩
      have hgap:=qra hd hs;have hq:=hdp2.1.all i hi;have hq2:=hdp2.2;have hdl2:=hdp2.1.len;simp only[cond_true,show decide ((k:Int)≥0)=true by simp];rw[inb_iff.2 ⟨by omega,by omega⟩,qb,qb,Option.bind_some];simp only[agree_self];have:=gm (dp.set i (dp.getD i 0+1)) (by rw[List.length_set];exact hdl2) (by rw[setD _ _ _ _ (by omega),if_pos rfl];omega);simp only[Int.toNat_natCast] at this;rw[gdD,qg (by omega) (by omega),this]
      rfl) (by
    unfold qaP;simp only[Int.toNat_natCast,List.drop_zero];rw[htl]
    simp)
  rw[hL2,anyS,Option.bind_some];have hq:=hdp2.1.all i hi;have hq2:=hdp2.2;have hdl2:=hdp2.1.len;cases hsb:sibB x.2.2.1 i
  · simp only[cond_false,Sum.elim_inl,agree_self];exact⟨dp,gm dp hdl2 (by omega),fun _=>hdp2.1⟩
  · have hgap:=qra hd hsb;simp only[cond_true,Sum.elim_inr];refine⟨_,rfl,fun _=>⟨by rw[List.length_set];exact hdl2,fun j hj=>?_,fun j hj=>?_⟩⟩
    · rw[setD _ _ _ _ (by omega)];by_cases e:i=j
      · rw[if_pos e];omega
      · rw[if_neg e];exact hdp2.1.all j hj
    · rw[setD _ _ _ _ (by omega),if_neg (by omega)];exact hdp2.1.zero j hj
theorem qjI (e:Nat→Int) (i k:Nat):scan (fun i=>nz (e i)) 0 i (k+1)=if e i=0 then scan (fun i=>nz (e i)) 0 (i+1) k else e i:=by
  by_cases h:e i=0
  · rw[if_pos h]
    conv=>lhs;unfold scan
    simp only[nz,if_pos h]
  · rw[if_neg h]
    conv=>lhs;unfold scan
    simp only[nz,if_neg h]
def qaX (r:Rules) (x:Rec):Int:=if qu r≠0 then qu r else if 10<x.1.length then 2 else if qr (tErr x.1) x.1.length≠0 then qr (tErr x.1) x.1.length else if x.2.2.2.1<0∨3<x.2.2.2.1 then 4 else if cErr x.2.1≠0 then cErr x.2.1 else qr (nErr r x.2.2.1) x.2.2.1.length
theorem qgT {r:Rules} {ns:List RNode} {i:Nat} (h:nErr r ns i=0):ordB ns i=true:=by
  unfold nErr at h;split at h
  · contradiction
  · cases e:ordB ns i
    · rw[e,if_pos rfl] at h;cases h
    · rfl
theorem ord_of {r:Rules} {ns:List RNode} (h:qr (nErr r ns) ns.length=0):Ord ns ns.length:=fun i hi=>qgT (qaL h i hi)
theorem qs5 {r:Rules} (hr:Rng qR r) (x:Rec) (hx:Rng tyRec x) (h30:x.2.2.1.length≤30):∀(k i:Nat) (deep:List Int),i+k=x.2.2.1.length→Ord x.2.2.1 i→qrp x.2.2.1 deep i →
    Option.bind (iterW (qT x r) (((i:Int),()),(deep,()))) (Sum.elim (fun _=>some 0) some)=some (scan (fun i=>nz (nErr r x.2.2.1 i)) 0 i k):=by
  intro k
  induction k with
  | zero =>
    intro i deep hi ho hD
    have:i=x.2.2.1.length:=by omega
    subst this;rw[qj (r := .inl ((),(deep,()))) (by unfold qT;simp)];rfl
  | succ k ih =>
    intro i deep hi ho hD;obtain⟨deep',h1,h2⟩:=qex hr x hx h30 (i:=i) (by omega) ho hD;have hs:=qjI (nErr r x.2.2.1) i k;rw[hs];by_cases e:nErr r x.2.2.1 i=0
    · rw[if_pos e,qo (y:=((((i+1:Nat):Int),()),(deep',())))]
      · exact ih (i+1) deep' (by omega) (ho.step (qgT e)) (h2 e)
      · unfold qT;simp only[show decide ((i:Int)<((x.2.2.1.length:Nat):Int))=true by simp;omega,cond_true];rw[h1,Option.bind_some];simp only[e,bne_self_eq_false,cond_false];rw[qg (by omega) (by omega)];rfl
    · rw[if_neg e,qj (r := .inr (nErr r x.2.2.1 i))]
      · rfl
      · unfold qT;simp only[show decide ((i:Int)<((x.2.2.1.length:Nat):Int))=true by simp;omega,cond_true];rw[h1,Option.bind_some];simp only[bne_t e,cond_true]
theorem qlB {r:Rules} (hr:Rng qR r) (x:Rec) (hx:Rng tyRec x) (h30:x.2.2.1.length≤30):qbF r x=some (qaX r x):=by
  unfold qbF qaX;rw[qgL r hr,Option.bind_some];by_cases c:qu r=0
  rotate_left
  · rw[bne_t c,cond_true,if_pos c]
  rw[bne_f c,cond_false,if_neg (fun h=>h c)];rw[show decide (((x.2.2.1.length:Nat):Int)>200)=false by simp only[decide_eq_false_iff_not];omega,Bool.or_false];by_cases c1:10<x.1.length
  · rw[if_pos c1,show decide (((x.1.length:Nat):Int)>10)=true by simp only[decide_eq_true_eq];omega];rfl
  rw[if_neg c1,show decide (((x.1.length:Nat):Int)>10)=false by simp only[decide_eq_false_iff_not];omega,cond_false,qpp x hx,Option.bind_some];by_cases c2:qr (tErr x.1) x.1.length=0
  rotate_left
  · rw[bne_t c2,cond_true,if_pos c2]
  rw[bne_f c2,cond_false,if_neg (fun h=>h c2)];by_cases c3:x.2.2.2.1<0∨3<x.2.2.2.1
  · rw[if_pos c3,show(decide (x.2.2.2.1<0)||decide (x.2.2.2.1>3))=true by simp only[Bool.or_eq_true,decide_eq_true_eq];omega];rfl
  rw[if_neg c3,show(decide (x.2.2.2.1<0)||decide (x.2.2.2.1>3))=false by simp only[Bool.or_eq_false_iff,decide_eq_false_iff_not];omega,cond_false];rw[qdV _ hx.2.1,Option.bind_some];by_cases c4:cErr x.2.1=0
  rotate_left
  · rw[bne_t c4,cond_true,if_pos c4]
  rw[bne_f c4,cond_false,if_neg (fun h=>h c4)]
  rw[show(decide (0≤((x.2.2.1.length:Nat):Int))&&((((x.2.2.1.length:Nat):Int)==((x.2.2.1.length:Nat):Int))&&room (((x.2.2.1.length:Nat):Int)).toNat 8))=true by
    rw[beq_self_eq_true,qZ (by omega)];simp,qb]
  exact qs5 hr x hx h30 x.2.2.1.length 0 _ (by omega) (fun i hi=>by omega) ⟨by simp,fun j hj=>by simp[List.getD_eq_getElem?_getD,hj];omega,fun j _=>by
    rw[List.getD_eq_getElem?_getD,List.getElem?_replicate]
    split<;>rfl⟩
theorem within_L2 (ns:List RNode) (h30:ns.length≤1000) (n c:Int) (h0:0≤n) (h1:n<((ns.length:Nat):Int)) (hd:Down ns (n.toNat+1)) :
    ∃d,iterW (qL ((n,c,()),()) ns) ((c,0,()),())=some ((d,()),())∧(d=c∨d=w64 (c+1)∧sibB ns n.toNat=true):=by
  have key:∀k i:Nat,i+k=n.toNat→∃d,iterW (qL ((n,c,()),()) ns) ((c,(i:Int),()),())=some ((d,()),())∧(d=c∨d=w64 (c+1)∧sibB ns n.toNat=true):=by
    intro k
    induction k with
    | zero =>
      intro i hi;refine⟨c,qj ?_,.inl rfl⟩;unfold qL;simp only[show decide ((i:Int)<n)=false by simp only[decide_eq_false_iff_not];omega,cond_false]
    | succ k ih =>
      intro i hi;obtain⟨d,q1,q2⟩:=ih (i+1) (by omega);obtain⟨d3,e1,e2,_⟩:=qcL (ns:=ns) (n:=(i:Int)) (by omega) (by omega);obtain⟨d4,e3,e4,_⟩:=qcL (ns:=ns) (n:=n) h0 h1;by_cases e:rpar ns i=rpar ns n.toNat
      · refine⟨w64 (c+1),qj ?_,.inr ⟨rfl,?_⟩⟩
        · unfold qL;simp only[show decide ((i:Int)<n)=true by simp only[decide_eq_true_eq];omega,cond_true];rw[e1,Option.bind_some,e3,Option.bind_some,e2,e4,Int.toNat_natCast,beq_t e,cond_true]
        · unfold sibB;rw[List.any_eq_true];exact⟨i,List.mem_range.2 (by omega),beq_t e⟩
      · refine⟨d,?_,q2⟩;rw[qo (y:=((c,((i+1:Nat):Int),()),()))]
        · exact q1
        · unfold qL;simp only[show decide ((i:Int)<n)=true by simp only[decide_eq_true_eq];omega,cond_true];rw[e1,Option.bind_some,e3,Option.bind_some,e2,e4,Int.toNat_natCast,beq_f e,cond_false,qg (by omega) (by omega)];rfl
  exact key n.toNat 0 (by omega)
theorem qq3 (ns:List RNode) (h30:ns.length≤30) {i:Nat} (hi:i<ns.length) (ho:Ord ns (i+1)):∃n,qdm ns (i:Int)=some n∧n≤20:=by
  have hI:=qgO (f:=qaQ ns) (fun s => -1≤s.1.1∧s.1.1≤(i:Int)∧0≤s.1.2.1∧2*s.1.2.1+s.1.1≤(i:Int)) (fun s=>(s.1.1+1).toNat) (fun r=>r.1.1≤20) (by
    rintro ⟨⟨n,c,⟨⟩⟩,⟨⟩⟩ ⟨h1,h2,h3,h4⟩
    simp only at h1 h2 h3 h4 ⊢;by_cases h:n<0
    · refine .inr ⟨((c,()),()),?_,by simp only;omega⟩;unfold qaQ;simp only[show decide (n≥0)=false by simp only[decide_eq_false_iff_not];omega,cond_false]
    · obtain⟨d,q1,q2⟩:=within_L2 ns (by omega) n c (by omega) (by omega) (ho.down.mono (by omega));obtain⟨d7,e1,e2,_⟩:=qcL (ns:=ns) (n:=n) (by omega) (by omega);have hp:=ho.down n.toNat (by omega);have hp2:=ho.low n.toNat (by omega);have hw:w64 (c+1)=c+1:=qg (by omega) (by omega);refine .inl ⟨((rpar ns n.toNat,d,()),()),?_,?_,by simp only;omega⟩
      · unfold qaQ;simp only[show decide (n≥0)=true by simp only[decide_eq_true_eq];omega,cond_true];rw[q1,Option.bind_some,Option.bind_some,e1,Option.bind_some,e2]
      · simp only;rcases q2 with rfl | ⟨rfl,hs⟩
        · omega
        · have:=qra (i:=n.toNat) (ho.down.mono (by omega)) hs
          omega)
  obtain⟨r,q1,q2⟩:=hI (((i:Int),0,()),()) ⟨by simp only;omega,Int.le_refl _,Int.le_refl _,by simp only;omega⟩;unfold qdm;rw[q1,Option.bind_some];exact⟨_,rfl,q2⟩
theorem qnA {r:Rules} (hr:Rng qR r) (x:Rec) (hx:Rng tyRec x) (h30:x.2.2.1.length≤30) (z:Option Int):∀(k i:Nat),i+k=x.2.2.1.length→Ord x.2.2.1 i →
    Option.bind (iterW (qx x r) (((i:Int),()),())) (Sum.elim (fun _=>z) some)=if scan (fun i=>nz (nErr r x.2.2.1 i)) 0 i k=0 then z else some (scan (fun i=>nz (nErr r x.2.2.1 i)) 0 i k):=by
  intro k
  induction k with
  | zero =>
    intro i hi ho
    have:i=x.2.2.1.length:=by omega
    subst this;rw[qj (r := .inl ((),())) (by unfold qx;simp)];rfl
  | succ k ih =>
    intro i hi ho
    have hi':i<x.2.2.1.length:=by omega
    have hs:=qjI (nErr r x.2.2.1) i k;have hf:qx x r (((i:Int),()),())=if nErr r x.2.2.1 i=0 then some (.inl ((((i+1:Nat):Int),()),())) else some (.inr (.inr (nErr r x.2.2.1 i))):=by
      obtain⟨n1,n2,n3⟩:=qch hi';have hd:=ho.down;unfold qx;simp only[show decide ((i:Int)<((x.2.2.1.length:Nat):Int))=true by simp;omega,cond_true];rw[qbM _ _ hi',Option.bind_some];obtain⟨nd,hnd⟩:∃nd:RNode,x.2.2.1[i]=nd:=⟨_,rfl⟩;rw[hnd] at n1 n2 n3;rw[hnd];simp only[n1,n3];rw[qg (n:=(i:Int)+1) (by omega) (by omega)];unfold nErr;by_cases hc1:60<(rcom x.2.2.1 i).size
      · have:cErr (rcom x.2.2.1 i)=2:=by unfold cErr;rw[if_pos hc1]
        rw[show decide (((rcom x.2.2.1 i).size:Nat)>(60:Int))=true by simp only[decide_eq_true_eq];omega,this];rfl
      rw[show decide (((rcom x.2.2.1 i).size:Nat)>(60:Int))=false by simp only[decide_eq_false_iff_not];omega,cond_false,qfZ _ _ (by omega) (by decide),Option.bind_some];cases hc2:fineT (rcom x.2.2.1 i) (ByteArray.mk #[123,125])
      · have:cErr (rcom x.2.2.1 i)=3:=by unfold cErr;rw[if_neg hc1,hc2,if_pos rfl]
        rw[this];rfl
      have hc:cErr (rcom x.2.2.1 i)=0:=by unfold cErr;rw[if_neg hc1,hc2,if_neg (by decide)]
      simp only[hc,ne_eq,not_true,if_false,Bool.not_true,cond_false]
      have hcond:∃b,gopt (((decide ((i:Int)>0))&&(decide (rpar x.2.2.1 i≥0)))&&(!((decide (rpar x.2.2.1 i < -1))||(decide (rpar x.2.2.1 i≥(i:Int)))))) false (qeu x.2.2.1 (rpar x.2.2.1 i) (w64 ((i:Int)-1)))=some b ∧
          ((((decide (rpar x.2.2.1 i < -1))||(decide (rpar x.2.2.1 i≥(i:Int))))||(((decide ((i:Int)>0))&&(decide (rpar x.2.2.1 i≥0)))&&(!b)))||(((i:Int)==0)&&(rpar x.2.2.1 i != -1))) = !(ordB x.2.2.1 i):=by
        rw[qg (by omega) (by omega)];generalize hp:rpar x.2.2.1 i=p
        have hob:ordB x.2.2.1 i=(decide (p<(i:Int))&&(decide (0≤p∧p.toNat∈wayN x.2.2.1 ((i:Int)-1))||(p == -1))):=by unfold ordB;rw[hp]
        rw[hob];by_cases g1:p < -1
        · refine⟨false,by rw[show decide (p < -1)=true from decide_eq_true g1];simp[gopt],?_⟩;rw[show decide (p < -1)=true from decide_eq_true g1,beq_f (show ¬p = -1 by omega),decide_eq_false (show ¬(0≤p∧p.toNat∈wayN x.2.2.1 ((i:Int)-1)) by omega)];simp
        rw[show decide (p < -1)=false from decide_eq_false g1];by_cases g2:p≥(i:Int)
        · refine⟨false,by rw[show decide (p≥(i:Int))=true from decide_eq_true g2];simp[gopt],?_⟩;rw[show decide (p≥(i:Int))=true from decide_eq_true g2,decide_eq_false (show ¬p<(i:Int) by omega)];simp
        rw[show decide (p≥(i:Int))=false from decide_eq_false g2,decide_eq_true (show p<(i:Int) by omega)];by_cases g3:p = -1
        · refine⟨false,by rw[show decide (p≥0)=false from decide_eq_false (by omega)];simp[gopt],?_⟩;subst g3;simp
        have g4:0≤p:=by omega
        have g5:0<i:=by omega
        have hab:=qnp x.2.2.1 (a:=p) (n:=(i:Int)-1) g4 (by omega) (by rw[show((i:Int)-1+1).toNat=i by omega];exact hd);refine⟨_,by rw[show decide ((i:Int)>0)=true from decide_eq_true (by omega),show decide (p≥0)=true from decide_eq_true g4];exact hab,?_⟩;rw[show decide ((i:Int)>0)=true from decide_eq_true (by omega),show decide (p≥0)=true from decide_eq_true g4,beq_f (show ¬p = -1 from g3),beq_f (show ¬(i:Int)=0 by omega)];by_cases g6:p.toNat∈wayN x.2.2.1 ((i:Int)-1)
        · simp[g4,g6]
        · simp[g4,g6]
      obtain⟨b,hb1,hb2⟩:=hcond;rw[hb1,Option.bind_some,hb2];cases hob:ordB x.2.2.1 i
      · rfl
      have hor:=ho.step hob;have hd1:=hor.down;simp only[Bool.not_true,cond_false,if_neg (show ¬(true=false) by decide)]
      have hL4:=qt (List.range i) (fun k=>(rpar x.2.2.1 k==rpar x.2.2.1 i)&&(rmv x.2.2.1 k==rmv x.2.2.1 i)) (qO (((i:Int),()),()) x nd) (.inr (.inr (.inr (.inr 7)))) (.inl ((),())) (fun k hk=>by
        have hk':k<i:=by simpa using hk
        obtain⟨d,e1,e2,e3⟩:=qcL (ns:=x.2.2.1) (n:=(k:Int)) (by omega) (by omega);rw[Int.toNat_natCast] at e2 e3;unfold qO;simp only[show decide ((k:Int)<(i:Int))=true by simp;omega,cond_true,n1,n2,List.getElem_range];rw[e1,Option.bind_some,e2,qg (n:=(k:Int)+1) (by omega) (by omega)];cases e5:(rpar x.2.2.1 k==rpar x.2.2.1 i)
        · rfl
        · show Option.bind (at? x.2.2.1 (k:Int)) _=_;rw[e1,Option.bind_some];have:=qia d.2.1 (rmv x.2.2.1 i);unfold eqMv at this;rw[this,e3]
          cases (rmv x.2.2.1 k==rmv x.2.2.1 i)<;>rfl) (by
        unfold qO;rw[List.length_range]
        simp)
      have htw:(List.range i).any (fun k=>(rpar x.2.2.1 k==rpar x.2.2.1 i)&&(rmv x.2.2.1 k==rmv x.2.2.1 i))=twinB x.2.2.1 i:=rfl;rw[hL4,htw,Option.bind_some];cases twinB x.2.2.1 i
      rotate_left
      · rfl
      simp only[cond_false,Sum.elim_inl,if_neg (show ¬(false=true) by decide)];have hwl:(wayM x.2.2.1 (i:Int)).length≤1000:=by
        unfold wayM;rw[List.length_reverse,List.length_map];have:=qc9 _ (i:Int) (Nat.le_refl _) (by rw[show((i:Int)+1).toNat=i+1 by omega];exact hd1);omega
      rw[way3 x.2.2.1 (by omega) (n:=(i:Int)) (by omega) (by omega) (by rw[show((i:Int)+1).toNat=i+1 by omega];exact hd1) (fun j hj=>hor.low j (by omega)),Option.bind_some,qe4 r (wayM x.2.2.1 (i:Int)) hr (by omega),Option.bind_some,qgF];by_cases e:gErr r (wayM x.2.2.1 (i:Int))=0
      · simp only[e,bne_self_eq_false,cond_false,if_true];rfl
      · simp only[bne_t e,cond_true,if_neg e];rfl
    rw[hs];by_cases e:nErr r x.2.2.1 i=0
    · rw[if_pos e] at hf;rw[if_pos e,qo hf];exact ih (i+1) (by omega) (ho.step (qgT e))
    · rw[if_neg e] at hf;rw[if_neg e,qj hf,if_neg e];rfl
theorem qoA (x:Rec) (h30:x.2.2.1.length≤30) (ho:Ord x.2.2.1 x.2.2.1.length):iterW (qp x) ((0,()),())=some (.inl ((),())):=by
  have:=qt x.2.2.1 (fun _=>false) (qp x) (.inr 2) (.inl ((),())) (fun i hi=>by
    obtain⟨n,e1,e2⟩:=qq3 x.2.2.1 h30 hi (ho.mono (by omega));unfold qp;simp only[show decide ((i:Int)<((x.2.2.1.length:Nat):Int))=true by simp;omega,cond_true];rw[e1,Option.bind_some,show decide (n>20)=false by simp only[decide_eq_false_iff_not];omega,cond_false,qg (by omega) (by omega)]
    rfl) (by unfold qp;simp)
  rw[this,show x.2.2.1.any (fun _=>false)=false from List.any_eq_false.2 (fun _ _ h=>by cases h)];rfl
theorem qs0 {r:Rules} (hr:Rng qR r) (x:Rec) (hx:Rng tyRec x) (h30:x.2.2.1.length≤30):qM r x=some (qaX r x):=by
  unfold qM qaX;rw[qe4 r [] hr (by simp),Option.bind_some,qgF];have hg:gErr r []=qu r:=by
    unfold gErr qhk;by_cases c:qu r=0
    · rw[if_pos c,c];rfl
    · rw[if_neg c]
  rw[hg];by_cases c:qu r=0
  rotate_left
  · rw[bne_t c,cond_true,if_pos c]
  rw[bne_f c,cond_false,if_neg (fun h=>h c)];rw[show decide (((x.2.2.1.length:Nat):Int)>200)=false by simp only[decide_eq_false_iff_not];omega,Bool.or_false];by_cases c1:10<x.1.length
  · rw[if_pos c1,show decide (((x.1.length:Nat):Int)>10)=true by simp only[decide_eq_true_eq];omega];rfl
  rw[if_neg c1,show decide (((x.1.length:Nat):Int)>10)=false by simp only[decide_eq_false_iff_not];omega,cond_false,qkf x hx];by_cases c2:qr (tErr x.1) x.1.length=0
  rotate_left
  · rw[if_neg c2,if_pos c2]
  rw[if_pos c2,if_neg (fun h=>h c2)];by_cases c3:x.2.2.2.1<0∨3<x.2.2.2.1
  · rw[if_pos c3,show(decide (x.2.2.2.1<0)||decide (x.2.2.2.1>3))=true by simp only[Bool.or_eq_true,decide_eq_true_eq];omega];rfl
  rw[if_neg c3,show(decide (x.2.2.2.1<0)||decide (x.2.2.2.1>3))=false by simp only[Bool.or_eq_false_iff,decide_eq_false_iff_not];omega,cond_false];by_cases hc1:60<x.2.1.size
  · have:cErr x.2.1=2:=by unfold cErr;rw[if_pos hc1]
    rw[show decide (((x.2.1.size:Nat):Int)>60)=true by simp only[decide_eq_true_eq];omega,this];rfl
  rw[show decide (((x.2.1.size:Nat):Int)>60)=false by simp only[decide_eq_false_iff_not];omega,cond_false,qfZ _ _ (by omega) (by decide),Option.bind_some];cases hc2:fineT x.2.1 (ByteArray.mk #[123,125])
  · have:cErr x.2.1=3:=by unfold cErr;rw[if_neg hc1,hc2,if_pos rfl]
    rw[this];rfl
  have hc:cErr x.2.1=0:=by unfold cErr;rw[if_neg hc1,hc2,if_neg (by decide)]
  simp only[hc,ne_eq,not_true,if_false,Bool.not_true,cond_false];have h3:=qnA hr x hx h30 (Option.bind (iterW (qp x) ((0,()),())) (Sum.elim (fun x28=>some 0) some)) x.2.2.1.length 0 (by omega) (fun i hi=>by omega);refine h3.trans ?_;show(if qr (nErr r x.2.2.1) x.2.2.1.length=0 then _ else some (qr (nErr r x.2.2.1) x.2.2.1.length))=some (qr (nErr r x.2.2.1) x.2.2.1.length);by_cases c5:qr (nErr r x.2.2.1) x.2.2.1.length=0
  · rw[if_pos c5,qoA x h30 (ord_of c5),c5];rfl
  · rw[if_neg c5]

def szF:Fo→Nat
  | .nil=>0
  | .cons _ _ k r=>1+(szF k+szF r)
def preF (par:Int) (i:Nat):Fo→List RNode
  | .nil=>[]
  | .cons m c k r=>(par,m,c,())::(preF (i:Int) (i+1) k++preF par (i+1+szF k) r)
theorem qB:∀(f:Fo) (par:Int) (i:Nat),(preF par i f).length=szF f
  | .nil,_,_=>rfl
  | .cons m c k r,par,i=>by simp only[preF,List.length_cons,List.length_append,qB k,qB r,szF];omega
def Seg (ns:List RNode) (i:Nat) (l:List RNode):Prop:=∃e,ns.drop i=l++e
theorem Seg.head {ns:List RNode} {i:Nat} {x:RNode} {l:List RNode} (h:Seg ns i (x::l)):ns[i]?=some x:=by
  obtain⟨e,h⟩:=h;have:=congrArg (fun l=>l[0]?) h;simpa using this
theorem Seg.tail {ns:List RNode} {i:Nat} {x:RNode} {l:List RNode} (h:Seg ns i (x::l)):Seg ns (i+1) l:=by
  obtain⟨e,h⟩:=h;refine⟨e,?_⟩;have:=congrArg (fun l=>l.drop 1) h;simpa using this
theorem Seg.left {ns:List RNode} {i:Nat} {a b:List RNode} (h:Seg ns i (a++b)):Seg ns i a:=by
  obtain⟨e,h⟩:=h;exact⟨b++e,by rw[h,List.append_assoc]⟩
theorem Seg.right {ns:List RNode} {i:Nat} {a b:List RNode} (h:Seg ns i (a++b)):Seg ns (i+a.length) b:=by
  obtain⟨e,h⟩:=h;refine⟨e,?_⟩;rw[←List.drop_drop,h,List.append_assoc,List.drop_left]
theorem Seg.parts {ns:List RNode} {par:Int} {i:Nat} {m:Mv} {c:ByteArray} {k r:Fo} (h:Seg ns i (preF par i (.cons m c k r))):ns[i]?=some (par,m,c,())∧Seg ns (i+1) (preF (i:Int) (i+1) k)∧Seg ns (i+1+szF k) (preF par (i+1+szF k) r):=by
  have h2:=h.tail;have h3:=h2.right;rw[qB] at h3;exact⟨h.head,h2.left,h3⟩
theorem qdq {ns:List RNode} {i:Nat} {x:RNode} (h:ns[i]?=some x):rpar ns i=x.1∧rmv ns i=x.2.1∧rcom ns i=x.2.2.1:=by simp[rpar,rmv,rcom,h]
theorem qnN {ns:List RNode} (hd:Down ns ns.length):∀(f:Fo) (par:Int) (i:Nat) (p:List Mv),Seg ns i (preF par i f)→wayM ns par=p→(List.range (szF f)).map (fun t=>(wayM ns ((i+t:Nat):Int),rcom ns (i+t)))=wfF p f
  | .nil,par,i,p,_,_=>rfl
  | .cons m c k r,par,i,p,h,hp=>by
    obtain⟨h1,h2,h3⟩:=h.parts;obtain⟨g1,g2,g3⟩:=qdq h1;simp only at g1 g2 g3;have hi:i<ns.length:=(List.getElem?_eq_some_iff.1 h1).1;have hw:wayM ns (i:Int)=p++[m]:=by
      unfold wayM;rw[qaB (by omega) (hd.mono (by omega))];simp only[Int.toNat_natCast,List.map_cons,List.reverse_cons,g2,g1];rw[←hp];rfl
    have ek:=qnN hd k (i:Int) (i+1) _ h2 hw;have er:=qnN hd r par (i+1+szF k) p h3 hp;have e1:List.range (szF (.cons m c k r))=0::((List.range (szF k)).map (fun t=>1+t)++(List.range (szF r)).map fun t=>1+(szF k+t)):=by
      rw[szF,List.range_add,List.range_add,List.map_append,List.map_map];rfl
    rw[wfF,←ek,←er,e1,List.map_cons,List.map_append,List.map_map,List.map_map,Nat.add_zero,hw,g3];congr 2
    · apply List.map_congr_left;intro t _;simp only[Function.comp];rw[show i+(1+t)=i+1+t by omega]
    · apply List.map_congr_left;intro t _;simp only[Function.comp];rw[show i+(1+(szF k+t))=i+1+szF k+t by omega]
theorem qns {ns:List RNode} (hd:Down ns ns.length):∀(f:Fo) (par:Int) (i:Nat),Seg ns i (preF par i f)→f ≠ .nil→∀q∈wayN ns par,q∈wayN ns ((i+szF f-1:Nat):Int)
  | .nil,par,i,_,h,_,_=>absurd rfl h
  | .cons m c k r,par,i,h,_,q,hq=>by
    obtain⟨h1,h2,h3⟩:=h.parts;obtain⟨g1,g2,g3⟩:=qdq h1;simp only at g1;have hi:i<ns.length:=(List.getElem?_eq_some_iff.1 h1).1
    have hw:wayN ns (i:Int)=i::wayN ns par:=by rw[qaB (by omega) (hd.mono (by omega)),Int.toNat_natCast,g1]
    cases r with
    | cons m' c' k' r' =>
      have:=qns hd (.cons m' c' k' r') par (i+1+szF k) h3 (fun e=>by cases e) q hq
      rwa [show i+1+szF k+szF (.cons m' c' k' r')-1=i+szF (.cons m c k (.cons m' c' k' r'))-1 by simp only[szF];omega] at this
    | nil =>
      cases k with
      | nil =>
        rw[show i+szF (.cons m c .nil .nil)-1=i by simp[szF],hw];exact List.mem_cons_of_mem _ hq
      | cons m' c' k' r' =>
        have:=qns hd (.cons m' c' k' r') (i:Int) (i+1) h2 (fun e=>by cases e) q (by rw[hw];exact List.mem_cons_of_mem _ hq)
        rwa [show i+1+szF (.cons m' c' k' r')-1=i+szF (.cons m c (.cons m' c' k' r') .nil)-1 by simp only[szF];omega] at this
theorem wayN_self {ns:List RNode} {i:Nat} (hd:Down ns ns.length) (hi:i<ns.length):i∈wayN ns (i:Int):=by
  rw[qaB (by omega) (hd.mono (by omega))];simp
theorem qor {ns:List RNode}:∀(f:Fo) (par:Int) (i:Nat),Seg ns i (preF par i f)→par<(i:Int)→∀j,i≤j→j<i+szF f→rpar ns j<(j:Int)
  | .nil,_,_,_,_,j,h1,h2=>by simp only[szF] at h2;omega
  | .cons m c k r,par,i,h,hp,j,hj1,hj2=>by
    obtain⟨h1,h2,h3⟩:=h.parts;obtain⟨g1,_,_⟩:=qdq h1;simp only at g1;simp only[szF] at hj2;by_cases e:j=i
    · subst e;rw[g1];exact hp
    · by_cases e2:j<i+1+szF k
      · exact qor k (i:Int) (i+1) h2 (by omega) j (by omega) e2
      · exact qor r par (i+1+szF k) h3 (by omega) j (by omega) (by omega)
theorem qqn {ns:List RNode} (hd:Down ns ns.length):∀(f:Fo) (par:Int) (i:Nat),Seg ns i (preF par i f)→par<(i:Int)→(par = -1∨0≤par∧par.toNat∈wayN ns ((i:Int)-1))→∀j,i≤j→j<i+szF f→ordB ns j=true
  | .nil,_,_,_,_,_,j,h1,h2=>by simp only[szF] at h2;omega
  | .cons m c k r,par,i,h,hp,ho,j,hj1,hj2=>by
    obtain⟨h1,h2,h3⟩:=h.parts;obtain⟨g1,_,_⟩:=qdq h1;simp only at g1;simp only[szF] at hj2;have hi:i<ns.length:=(List.getElem?_eq_some_iff.1 h1).1;by_cases e:j=i
    · subst e;unfold ordB;rw[g1];simp only[Bool.and_eq_true,decide_eq_true_eq,Bool.or_eq_true,beq_iff_eq];exact⟨hp,ho.symm⟩
    · by_cases e2:j<i+1+szF k
      · refine qqn hd k (i:Int) (i+1) h2 (by omega) (.inr ⟨by omega,?_⟩) j (by omega) e2;rw[show((i+1:Nat):Int)-1=(i:Int) by omega,Int.toNat_natCast];exact wayN_self hd hi
      · refine qqn hd r par (i+1+szF k) h3 (by omega) (ho.imp_right fun ⟨ha,hb⟩=>⟨ha,?_⟩) j (by omega) (by omega)
        have hpl:par.toNat∈wayN ns par:=by rw[qaB ha (hd.mono (by omega))];simp
        have hlast:=qns hd (.cons m c k .nil) par i (by
          have:=h;unfold preF at this ⊢;rw[preF,List.append_nil]
          exact Seg.left (b:=preF par (i+1+szF k) r) (by simpa using this)) (fun e=>by cases e) _ hpl
        rwa [show((i+szF (.cons m c k .nil)-1:Nat):Int)=((i+1+szF k:Nat):Int)-1 by simp only[szF];omega] at hlast
theorem qdd (f:Fo):Down (preF (-1) 0 f) (preF (-1) 0 f).length:=fun i hi=>by
  rw[qB] at hi;exact qor f (-1) 0 ⟨[],by simp⟩ (by omega) i (by omega) (by omega)
theorem qqg (f:Fo):Ord (preF (-1) 0 f) (preF (-1) 0 f).length:=fun i hi=>by
  have hd:=qdd f;rw[qB] at hi;exact qqn hd f (-1) 0 ⟨[],by simp⟩ (by omega) (.inl rfl) i (by omega) (by omega)
theorem qiu (f:Fo):(List.range (szF f)).map (fun (t:Nat)=>(wayM (preF (-1) 0 f) (t:Int),rcom (preF (-1) 0 f) t))=wfF [] f:=by
  have:=qnN (qdd f) f (-1) 0 [] ⟨[],by simp⟩ (by unfold wayM;rw[qbm _ (by omega)];rfl);simpa using this

def apR (m:Mv) (c:ByteArray):Fo→Fo
  | .nil => .cons m c .nil .nil
  | .cons m' c' k r => .cons m' c' k (apR m c r)
theorem qn7 (m:Mv) (c:ByteArray):∀(f:Fo) (par:Int) (i:Nat),preF par i (apR m c f)=preF par i f++[(par,m,c,())]
  | .nil,par,i=>rfl
  | .cons m' c' k r,par,i=>by
    simp only[apR,preF,qn7 m c r,List.cons_append,List.append_assoc]
def spF (i:Nat):Fo→List Nat
  | .nil=>[]
  | .cons m c k .nil=>i::spF (i+1) k
  | .cons m c k (.cons m' c' k' r')=>spF (i+1+szF k) (.cons m' c' k' r')
def adF (q:Int) (m:Mv) (c:ByteArray) (par:Int) (i:Nat):Fo→Fo
  | .nil => .cons m c .nil .nil
  | .cons m' c' k .nil=>if q=par then apR m c (.cons m' c' k .nil) else .cons m' c' (adF q m c (i:Int) (i+1) k) .nil
  | .cons m' c' k (.cons m2 c2 k2 r2)=>if q=par then apR m c (.cons m' c' k (.cons m2 c2 k2 r2)) else .cons m' c' k (adF q m c par (i+1+szF k) (.cons m2 c2 k2 r2))
theorem qoi (q:Int) (m:Mv) (c:ByteArray):∀(f:Fo) (par:Int) (i:Nat),(q=par∨∃t∈spF i f,q=(t:Int))→preF par i (adF q m c par i f)=preF par i f++[(q,m,c,())]
  | .nil,par,i,h=>by
    rcases h with h | ⟨t,ht,_⟩
    · subst h;rfl
    · simp[spF] at ht
  | .cons m' c' k .nil,par,i,h=>by
    unfold adF;split
    · rename_i e;subst e;exact qn7 m c _ _ _
    · rename_i e;have h':q=(i:Int)∨∃t∈spF (i+1) k,q=(t:Int):=by
        rcases h with h | ⟨t,ht,h⟩
        · exact absurd h e
        · simp only[spF,List.mem_cons] at ht;rcases ht with rfl | ht
          · exact .inl h
          · exact .inr ⟨t,ht,h⟩
      simp only[preF,qoi q m c k (i:Int) (i+1) h',List.append_nil,List.cons_append]
  | .cons m' c' k (.cons m2 c2 k2 r2),par,i,h=>by
    unfold adF;split
    · rename_i e;subst e;exact qn7 m c _ _ _
    · rename_i e;have h':q=par∨∃t∈spF (i+1+szF k) (.cons m2 c2 k2 r2),q=(t:Int):=by
        rcases h with h | ⟨t,ht,h⟩
        · exact absurd h e
        · simp only[spF] at ht;exact .inr ⟨t,ht,h⟩
      rw[preF,qoi q m c _ par _ h',preF.eq_2 par i m' c' k,List.cons_append,List.append_assoc]
theorem qlX {ns:List RNode} (hd:Down ns ns.length):∀(f:Fo) (par:Int) (i:Nat),Seg ns i (preF par i f)→f ≠ .nil→∀q∈wayN ns ((i+szF f-1:Nat):Int),q∈spF i f∨q∈wayN ns par
  | .nil,par,i,_,h,_,_=>absurd rfl h
  | .cons m c k .nil,par,i,h,_,q,hq=>by
    obtain⟨h1,h2,h3⟩:=h.parts;obtain⟨g1,g2,g3⟩:=qdq h1;simp only at g1;have hi:i<ns.length:=(List.getElem?_eq_some_iff.1 h1).1
    have hw:wayN ns (i:Int)=i::wayN ns par:=by rw[qaB (by omega) (hd.mono (by omega)),Int.toNat_natCast,g1]
    cases k with
    | nil =>
      rw[show i+szF (.cons m c .nil .nil)-1=i by simp[szF],hw] at hq;rcases List.mem_cons.1 hq with rfl | hq
      · exact .inl (by simp[spF])
      · exact .inr hq
    | cons m' c' k' r' =>
      have:=qlX hd (.cons m' c' k' r') (i:Int) (i+1) h2 (fun e=>by cases e) q (by rwa [show i+1+szF (.cons m' c' k' r')-1=i+szF (.cons m c (.cons m' c' k' r') .nil)-1 by simp only[szF];omega]);rw[hw] at this;simp only[spF,List.mem_cons] at this ⊢;rcases this with h | h | h
      · exact .inl (.inr h)
      · exact .inl (.inl h)
      · exact .inr h
  | .cons m c k (.cons m' c' k' r'),par,i,h,_,q,hq=>by
    obtain⟨h1,h2,h3⟩:=h.parts;have:=qlX hd (.cons m' c' k' r') par (i+1+szF k) h3 (fun e=>by cases e) q (by rwa [show i+1+szF k+szF (.cons m' c' k' r')-1=i+szF (.cons m c k (.cons m' c' k' r'))-1 by simp only[szF];omega]);simpa only[spF] using this
theorem ord_pre {ns:List RNode} (ho:Ord ns ns.length):∀j,j≤ns.length→∃f,ns.take j=preF (-1) 0 f
  | 0,_=>⟨.nil,rfl⟩
  | j+1,hj=>by
    obtain⟨f,hf⟩:=ord_pre ho j (by omega);have hd:=ho.down;have hlen:szF f=j:=by
      have:=congrArg List.length hf;rw[qB,List.length_take] at this;omega
    obtain⟨⟨q,m,c,u⟩,hx⟩:∃y,ns[j]'(by omega)=y:=⟨_,rfl⟩
    have hx':ns[j]?=some (q,m,c,u):=by rw[List.getElem?_eq_getElem (by omega),hx]
    obtain⟨g1,_,_⟩:=qdq hx';simp only at g1;have hb:=ho j (by omega);unfold ordB at hb;simp only[g1,Bool.and_eq_true,Bool.or_eq_true,decide_eq_true_eq,beq_iff_eq] at hb;refine⟨adF q m c (-1) 0 f,?_⟩;rw[qoi q m c f (-1) 0 ?_,←hf,List.take_add_one,hx']
    · rfl
    rcases hb.2 with ⟨h0,hm⟩ | h
    · right;have hj0:0<j:=by
        rcases Nat.eq_zero_or_pos j with e | e
        · subst e;rw[qbm _ (by omega)] at hm;cases hm
        · exact e
      have hs:Seg ns 0 (preF (-1) 0 f):=⟨ns.drop j,by rw[←hf,List.drop_zero,List.take_append_drop]⟩
      have hne:f ≠ .nil:=fun e=>by subst e;simp[szF] at hlen;omega
      have:=qlX hd f (-1) 0 hs hne q.toNat (by rwa [hlen,Nat.zero_add,show((j-1:Nat):Int)=(j:Int)-1 by omega]);rw[qbm _ (by omega:(-1:Int)<0)] at this;rcases this with h | h
      · exact⟨_,h,by omega⟩
      · cases h
    · exact .inl h
theorem qry:∀(f:Fo) (par:Int) (i:Nat) {ns:List RNode},Seg ns i (preF par i f)→∀m∈qad f,∃t,i≤t∧t<i+szF f∧t<ns.length∧rpar ns t=par∧rmv ns t=m
  | .nil,_,_,_,_,m,h=>by cases h
  | .cons m' c k r,par,i,ns,h,m,hm=>by
    obtain⟨h1,h2,h3⟩:=h.parts;obtain⟨g1,g2,_⟩:=qdq h1;simp only at g1 g2;simp only[szF];rcases List.mem_cons.1 hm with rfl | hm
    · exact⟨i,by omega,by omega,(List.getElem?_eq_some_iff.1 h1).1,g1,g2⟩
    · obtain⟨t,q1,q2,q3,q4,q5⟩:=qry r par _ h3 m hm;exact⟨t,by omega,by omega,q3,q4,q5⟩
theorem qp6 {ns:List RNode} (ht:∀j,j<ns.length→twinB ns j=false):∀(f:Fo) (par:Int) (i:Nat),Seg ns i (preF par i f)→Dis f
  | .nil,_,_,_=>trivial
  | .cons m c k r,par,i,h=>by
    obtain⟨h1,h2,h3⟩:=h.parts;obtain⟨g1,g2,_⟩:=qdq h1;simp only at g1 g2;refine⟨fun hm=>?_,qp6 ht k _ _ h2,qp6 ht r _ _ h3⟩;obtain⟨t,q1,q2,q3,q4,q5⟩:=qry r par _ h3 m hm;have:=ht t q3;unfold twinB at this;rw[List.any_eq_false] at this;exact this i (List.mem_range.2 (by omega)) (by simp[g1,g2,q4,q5])
theorem qsL {ns:List RNode} (ho:Ord ns ns.length) (ht:∀j,j<ns.length→twinB ns j=false):∃f,ns=preF (-1) 0 f∧Dis f:=by
  obtain⟨f,hf⟩:=ord_pre ho ns.length (Nat.le_refl _);rw[List.take_length] at hf;exact⟨f,hf,qp6 ht f (-1) 0 ⟨[],by rw[←hf];simp⟩⟩
theorem pre_twin (f:Fo) (h:Dis f):∀j,j<szF f→twinB (preF (-1) 0 f) j=false:=fun j hj=>by
  unfold twinB;rw[List.any_eq_false];intro i hi hh;have hi:=List.mem_range.1 hi;simp only[Bool.and_eq_true,beq_iff_eq] at hh;have hd:=qdd f;have hl:=qB f (-1) 0;have hw:wayM (preF (-1) 0 f) (i:Int)=wayM (preF (-1) 0 f) (j:Int):=by
    unfold wayM;rw[qaB (by omega) (hd.mono (by omega)),qaB (n:=(j:Int)) (by omega) (hd.mono (by omega))];simp only[Int.toNat_natCast,List.map_cons,hh.1,hh.2]
  have hn:=qk2 f [] h;unfold kyF at hn;rw[←qiu f,List.map_map] at hn;have e1:((List.range (szF f)).map ((fun x:List Mv×ByteArray=>x.1)∘fun (t:Nat)=>(wayM (preF (-1) 0 f) (t:Int),rcom (preF (-1) 0 f) t)))=(List.range (szF f)).map fun (t:Nat)=>wayM (preF (-1) 0 f) (t:Int):=rfl;rw[e1] at hn;have:=List.pairwise_iff_getElem.1 hn i j (by simp;omega) (by simpa using hj) hi;apply this;simp[hw]

theorem eqL_of {a b:List Mv} (hl:a.length=b.length):(List.range a.length).any (fun i=>!(a.getD i (0,(0,(0,())))==b.getD i (0,(0,(0,()))))) = !(decide (a=b)):=by
  cases hany:(List.range a.length).any (fun i=>!(a.getD i (0,(0,(0,())))==b.getD i (0,(0,(0,()))))) with
  | true =>
    rw[List.any_eq_true] at hany;obtain⟨i,_,h⟩:=hany
    have:¬a=b:=fun e=>by subst e;simp at h
    simp[this]
  | false =>
    rw[List.any_eq_false] at hany;have:a=b:=by
      apply List.ext_getElem hl;intro i h1 h2;have:=hany i (List.mem_range.2 h1);simpa[List.getD_eq_getElem?_getD,h1,h2] using this
    simp[this]
theorem qc0 (a b:List Mv) (ha:a.length≤1000000000):qav a b=some (decide (a=b)):=by
  unfold qav;by_cases hl:a.length=b.length
  · rw[bne_f (show((a.length:Nat):Int)=((b.length:Nat):Int) by omega),cond_false]
    have hL:=qt (List.range a.length) (fun i=>!(a.getD i (0,(0,(0,())))==b.getD i (0,(0,(0,()))))) (qb4 a b) (.inr false) (.inl ((),())) (fun i hi=>by
      have hi':i<a.length:=by simpa using hi
      unfold qb4;simp only[show decide ((i:Int)<((a.length:Nat):Int))=true by simp;omega,cond_true,List.getElem_range];rw[qbM a i hi',qbM b i (by omega),Option.bind_some,Option.bind_some,qg (n:=(i:Int)+1) (by omega) (by omega)];have:=qia a[i] (b[i]'(by omega));unfold eqMv at this;rw[this,List.getD_eq_getElem?_getD,List.getD_eq_getElem?_getD,List.getElem?_eq_getElem hi',List.getElem?_eq_getElem (show i<b.length by omega),Option.getD_some,Option.getD_some]
      cases (a[i]==b[i]'(by omega))<;>rfl) (by unfold qb4;simp)
    rw[hL,eqL_of hl]
    cases decide (a=b)<;>rfl
  · rw[bne_t (show ¬((a.length:Nat):Int)=((b.length:Nat):Int) by omega),cond_true];have:¬a=b:=fun h=>hl (by rw[h]);simp[this]
def kidsI (ns:List RNode) (p:Int):List Int:=(List.range ns.length).flatMap fun (k:Nat)=>bif rpar ns k==p then [(k:Int)] else []
theorem qeK (x:Rec) (p:Int) (h30:x.2.2.1.length≤1000):qgJ x p=some (kidsI x.2.2.1 p):=by
  unfold qgJ kidsI
  have:=qd0 x.2.2.1.length 1 (qda x p) (fun k=>bif rpar x.2.2.1 k==p then [(k:Int)] else []) (fun a=>((a,()),())) [] (fun k _=>by
    cases (rpar x.2.2.1 k==p)
    · exact Nat.zero_le _
    · exact Nat.le_refl _) (fun i hi a ha=>by
    simp only[List.length_nil] at ha;unfold qda;simp only[show decide ((i:Int)<((x.2.2.1.length:Nat):Int))=true by simp;omega,cond_true];rw[qbM _ _ hi,Option.bind_some,(qch hi).1,qg (n:=(i:Int)+1) (by omega) (by omega)];cases (rpar x.2.2.1 i==p)
    · simp only[cond_false,Option.bind_some,List.append_nil]
    · simp only[cond_true];rw[qZ (by simp only[List.length_cons,List.length_nil];omega),qb]
      rfl) (fun a=>by unfold qda;simp)
  rw[this];rfl

abbrev Bn:=Mv×ByteArray×List Nat×Unit
abbrev ArB:=List (Bn×Option (List Nat))
abbrev dBn:Bn:=(((0:Int),((0:Int),((0:Int),()))),(ByteArray.empty,([],())))
def IsF (ns:ArB) (P:Nat→Prop):Fo→List Nat→Prop
  | .nil,xs=>xs=[]
  | .cons m c k r,xs=>∃x xs' ks,xs=x::xs'∧0<x∧P x∧ndP ns dBn x=(m,(c,(ks,())))∧IsF ns P k ks∧IsF ns P r xs'
theorem IsF.mono {ns ns':ArB} {P Q:Nat→Prop} (hP:∀x,0<x→P x→Q x) (hn:∀x,0<x→P x→ndP ns' dBn x=ndP ns dBn x):∀ {f:Fo} {xs:List Nat},IsF ns P f xs→IsF ns' Q f xs
  | .nil,_,h=>h
  | .cons m c k r,xs,⟨x,xs',ks,e,h0,hp,h1,h2,h3⟩=>⟨x,xs',ks,e,h0,hP x h0 hp,(hn x h0 hp).trans h1,IsF.mono hP hn h2,IsF.mono hP hn h3⟩
def rlenF:Fo→Nat
  | .nil=>0
  | .cons _ _ _ r=>rlenF r+1
theorem IsF.len {ns:ArB} {P:Nat→Prop}:∀ {f:Fo} {xs:List Nat},IsF ns P f xs→xs.length=rlenF f
  | .nil,_,h=>by rw[show _=[] from h];rfl
  | .cons m c k r,xs,⟨x,xs',ks,e,_,_,_,_,h3⟩=>by rw[e,List.length_cons,IsF.len h3];rfl
theorem rlen_le:∀f:Fo,rlenF f≤szF f
  | .nil=>Nat.le_refl _
  | .cons m c k r=>by have:=rlen_le r;simp only[rlenF,szF];omega
def qjU (i:Nat):Fo→List Int
  | .nil=>[]
  | .cons _ _ k r=>(i:Int)::qjU (i+1+szF k) r
theorem qnH {ns:List RNode}:∀(f:Fo) (par:Int) (i:Nat),Seg ns i (preF par i f)→∀j,i≤j→j<i+szF f→rpar ns j=par∨(i:Int)≤rpar ns j
  | .nil,_,_,_,j,h1,h2=>by simp only[szF] at h2;omega
  | .cons m c k r,par,i,h,j,hj1,hj2=>by
    obtain⟨h1,h2,h3⟩:=h.parts;obtain⟨g1,_,_⟩:=qdq h1;simp only at g1;simp only[szF] at hj2;by_cases e:j=i
    · subst e;exact .inl g1
    · by_cases e2:j<i+1+szF k
      · rcases qnH k (i:Int) (i+1) h2 j (by omega) e2 with h | h
        · exact .inr (by omega)
        · exact .inr (by omega)
      · rcases qnH r par (i+1+szF k) h3 j (by omega) (by omega) with h | h
        · exact .inl h
        · exact .inr (by omega)
theorem kids_in {ns:List RNode}:∀(f:Fo) (par:Int) (i:Nat),Seg ns i (preF par i f)→par<(i:Int)→((List.range (szF f)).flatMap fun (t:Nat)=>bif rpar ns (i+t)==par then [((i+t:Nat):Int)] else [])=qjU i f
  | .nil,_,_,_,_=>rfl
  | .cons m c k r,par,i,h,hp=>by
    obtain⟨h1,h2,h3⟩:=h.parts;obtain⟨g1,_,_⟩:=qdq h1;simp only at g1;have er:=kids_in r par (i+1+szF k) h3 (by omega);have ek:((List.range (szF k)).flatMap fun (t:Nat)=>bif rpar ns (i+(1+t))==par then [((i+(1+t):Nat):Int)] else [])=[]:=by
      rw[List.flatMap_eq_nil_iff];intro t ht;have ht:=List.mem_range.1 ht;have:=qnH k (i:Int) (i+1) h2 (i+(1+t)) (by omega) (by omega)
      rw[show(rpar ns (i+(1+t))==par)=false by rw[beq_eq_false_iff_ne];rcases this with h | h<;>omega]
      rfl
    have e1:List.range (szF (.cons m c k r))=0::((List.range (szF k)).map (fun t=>1+t)++(List.range (szF r)).map fun t=>1+(szF k+t)):=by
      rw[szF,List.range_add,List.range_add,List.map_append,List.map_map];rfl
    rw[e1,List.flatMap_cons,List.flatMap_append,List.flatMap_map,List.flatMap_map,ek,qjU,←er];simp only[Nat.add_zero,g1,beq_self_eq_true,cond_true,List.nil_append,List.cons_append];congr 1;rw[List.flatMap_def,List.flatMap_def];congr 1;apply List.map_congr_left;intro t _;rw[show i+(1+(szF k+t))=i+1+szF k+t by omega]
def Clo (ns:List RNode) (i:Nat) (f:Fo):Prop:=∀j,i+szF f≤j→j<ns.length→rpar ns j<(i:Int)∨((i+szF f:Nat):Int)≤rpar ns j
def Full (ns:List RNode) (par:Int) (i:Nat) (f:Fo):Prop:=Seg ns i (preF par i f)∧par<(i:Int)∧i+szF f≤ns.length∧∀j,j<ns.length→rpar ns j=par→i≤j∧j<i+szF f
theorem Full.kids {ns:List RNode} {par:Int} {i:Nat} {f:Fo} (h:Full ns par i f):kidsI ns par=qjU i f:=by
  obtain⟨h1,h2,h3,h4⟩:=h;rw[←kids_in f par i h1 h2];unfold kidsI;have e1:List.range ns.length=List.range i++((List.range (szF f)).map (fun t=>i+t)++(List.range (ns.length-(i+szF f))).map fun t=>i+szF f+t):=by
    rw[show ns.length=i+szF f+(ns.length-(i+szF f)) by omega,List.range_add,List.range_add,List.append_assoc];congr 3;congr 1;omega
  rw[e1,List.flatMap_append,List.flatMap_append,List.flatMap_map,List.flatMap_map]
  rw[show((List.range i).flatMap fun (k:Nat)=>bif rpar ns k==par then [(k:Int)] else [])=[] by
    rw[List.flatMap_eq_nil_iff];intro t ht;have ht:=List.mem_range.1 ht;rw[show(rpar ns t==par)=false by rw[beq_eq_false_iff_ne];intro e;have:=(h4 t (by omega) e).1;omega]
    rfl]
  rw[show((List.range (ns.length-(i+szF f))).flatMap fun (t:Nat)=>bif rpar ns (i+szF f+t)==par then [((i+szF f+t:Nat):Int)] else [])=[] by
    rw[List.flatMap_eq_nil_iff];intro t ht;have ht:=List.mem_range.1 ht;rw[show(rpar ns (i+szF f+t)==par)=false by rw[beq_eq_false_iff_ne];intro e;have:=(h4 _ (by omega) e).2;omega]
    rfl]
  rw[List.nil_append,List.append_nil]
theorem Full.sub {ns:List RNode} (hd:Down ns ns.length) {par:Int} {i:Nat} {m:Mv} {c:ByteArray} {k r:Fo} (h:Seg ns i (preF par i (.cons m c k r))) (hp:par<(i:Int)) (hl:i+szF (.cons m c k r)≤ns.length) (hc:Clo ns i (.cons m c k r)) :
    Full ns (i:Int) (i+1) k∧Clo ns (i+1) k∧Clo ns (i+1+szF k) r:=by
  obtain⟨h1,h2,h3⟩:=h.parts;simp only[szF] at hl;have out:∀j,i+1+szF k≤j→j<ns.length→rpar ns j<(i:Int)∨((i+1+szF k:Nat):Int)≤rpar ns j:=fun j hj1 hj2=>by
    by_cases e:j<i+1+szF k+szF r
    · rcases qnH r par (i+1+szF k) h3 j hj1 e with h | h
      · exact .inl (by omega)
      · exact .inr h
    · rcases hc j (by simp only[szF];omega) hj2 with h | h
      · exact .inl h
      · refine .inr ?_;simp only[szF] at h;omega
  refine⟨⟨h2,by omega,by omega,fun j hj hr=>?_⟩,fun j hj1 hj2=>?_,fun j hj1 hj2=>?_⟩
  · have hdj:=hd j hj;refine⟨by omega,Nat.lt_of_not_le fun hge=>?_⟩
    rcases out j hge hj with h | h<;>omega
  · rcases out j hj1 hj2 with h | h<;>omega
  · rcases hc j (by simp only[szF];omega) hj2 with h | h
    · exact .inl (by omega)
    · refine .inr ?_;simp only[szF] at h;omega

def apF:Fo→Fo→Fo
  | .nil,g=>g
  | .cons m c k r,g => .cons m c k (apF r g)
theorem qrz:∀(f g:Fo) (p:List Mv),wfF p (apF f g)=wfF p f++wfF p g
  | .nil,g,p=>rfl
  | .cons m c k r,g,p=>by simp[apF,wfF,qrz r g p]
theorem qrf (f g:Fo) (p:List Mv):kyF p (apF f g)=kyF p f++kyF p g:=by simp[kyF,qrz]
theorem qf6:∀(f g:Fo),qad (apF f g)=qad f++qad g
  | .nil,g=>rfl
  | .cons m c k r,g=>by simp[apF,qad,qf6 r g]
theorem qj3:∀(f g:Fo),szF (apF f g)=szF f+szF g
  | .nil,g=>by simp[apF,szF]
  | .cons m c k r,g=>by simp only[apF,szF,qj3 r g];omega
theorem qrG:∀(f g:Fo),Dis (apF f g)↔Dis f∧Dis g∧∀x∈qad f,x∉qad g
  | .nil,g=>by simp[apF,Dis,qad]
  | .cons m c k r,g=>by
    simp only[apF,Dis,qad,qrG r g,qf6,List.mem_append,List.mem_cons,not_or];constructor
    · rintro ⟨⟨h1,h2⟩,h3,h4,h5,h6⟩
      exact⟨⟨h1,h3,h4⟩,h5,fun x hx=>by
        rcases hx with rfl | hx
        · exact h2
        · exact h6 x hx⟩
    · rintro ⟨⟨h1,h3,h4⟩,h5,h6⟩
      exact⟨⟨h1,h6 m (.inl rfl)⟩,h3,h4,h5,fun x hx=>h6 x (.inr hx)⟩
theorem qhT {f1 k f2:Fo} {m:Mv} {c:ByteArray} (h:Dis (apF f1 (.cons m c k f2))):Dis f1∧Dis k∧Dis f2∧m∉qad f1∧m∉qad f2∧∀x∈qad f1,x∉qad f2:=by
  obtain⟨h1,⟨h2,h3,h4⟩,h5⟩:=(qrG _ _).1 h;exact⟨h1,h3,h4,fun hm=>h5 m hm (by simp[qad]),h2,fun x hx hx'=>h5 x hx (by simp[qad,hx'])⟩
theorem qsf:∀ {f1 g1 k k' f2 g2:Fo} {m:Mv} {c c':ByteArray},m∉qad f1→m∉qad g1→apF f1 (.cons m c k f2)=apF g1 (.cons m c' k' g2)→f1=g1∧c=c'∧k=k'∧f2=g2
  | .nil,.nil,_,_,_,_,_,_,_,_,_,h=>by cases h;exact⟨rfl,rfl,rfl,rfl⟩
  | .nil,.cons _ _ _ _,_,_,_,_,_,_,_,_,hg,h=>by cases h;simp[qad] at hg
  | .cons _ _ _ _,.nil,_,_,_,_,_,_,_,hf,_,h=>by cases h;simp[qad] at hf
  | .cons _ _ _ r,.cons _ _ _ r',_,_,_,_,_,_,_,hf,hg,h=>by
    simp only[apF,Fo.cons.injEq] at h;obtain⟨rfl,rfl,rfl,h⟩:=h;simp only[qad,List.mem_cons,not_or] at hf hg;obtain⟨rfl,h2⟩:=qsf hf.2 hg.2 h;exact⟨rfl,h2⟩
def RemF (m:Mv) (f f':Fo):Prop:=∃f1 c k f2,f=apF f1 (.cons m c k f2)∧f'=apF f1 f2
def FroF (m:Mv) (f f':Fo):Prop:=∃f1 c k f2,f=apF f1 (.cons m c k f2)∧f' = .cons m c k (apF f1 f2)
def ChF (R:Fo→Fo→Prop):List Mv→Fo→Fo→Prop
  | [],f,f'=>R f f'
  | m::t,f,f'=>∃f1 c k k' f2,f=apF f1 (.cons m c k f2)∧f'=apF f1 (.cons m c k' f2)∧ChF R t k k'
def begB (w v:List Mv):Bool:=decide (w=v.take w.length)
theorem qrn (w v:List Mv):begB w (w++v)=true:=by simp[begB]
theorem qrk {p:List Mv} {m:Mv} {t v:List Mv}:begB (p++m::t) (p++v)=begB (m::t) v:=by
  unfold begB;rw[decide_eq_decide,List.take_append,List.take_of_length_le (by simp)];constructor
  · intro h;have:=List.append_cancel_left h;rw[this];simp
  · intro h
    conv=>lhs;rw[h]
    simp
theorem qnC:∀(f:Fo) (p w:List Mv),w∈kyF p f→∃x t,x∈qad f∧w=p++x::t
  | .nil,p,w,h=>by simp[kyF,wfF] at h
  | .cons m c k r,p,w,h=>by
    rw[qaR] at h;rcases List.mem_cons.1 h with rfl | h
    · exact⟨m,[],by simp[qad],rfl⟩
    · rcases List.mem_append.1 h with h | h
      · obtain⟨x,t,_,rfl⟩:=qnC k _ _ h;exact⟨m,x::t,by simp[qad],by simp⟩
      · obtain⟨x,t,h1,h2⟩:=qnC r _ _ h;exact⟨x,t,by simp[qad,h1],h2⟩
theorem qnL {f:Fo} {p:List Mv} {m:Mv} {t:List Mv} (hm:m∉qad f):(kyF p f).filter (fun v=>!begB (p++m::t) v)=kyF p f:=by
  rw[List.filter_eq_self];intro w hw;obtain⟨x,s,hx,rfl⟩:=qnC f p w hw;rw[qrk];have:x≠m:=fun e=>hm (e▸hx);simp only[begB,List.length_cons,List.take_succ_cons,List.cons.injEq,Bool.not_eq_true',decide_eq_false_iff_not];exact fun h=>this h.1.symm
theorem all_beg {k:Fo} {p:List Mv} {m:Mv}:(kyF (p++[m]) k).filter (fun v=>!begB (p++[m]) v)=[]:=by
  rw[List.filter_eq_nil_iff];intro w hw;obtain⟨x,s,_,rfl⟩:=qnC k _ w hw;rw[qrn];simp
theorem qr4:∀ {t:List Mv} {f f':Fo} {m:Mv} {p:List Mv},Dis f→ChF (RemF m) t f f'→kyF p f'=(kyF p f).filter fun v=>!begB (p++(t++[m])) v
  | [],f,f',m,p,hd,⟨f1,c,k,f2,e1,e2⟩=>by
    subst e1;subst e2;obtain⟨_,_,_,h1,h2,_⟩:=qhT hd;rw[qrf,qrf,qaR,List.filter_append,List.filter_cons,List.filter_append];simp only[List.nil_append];rw[qnL (t:=[]) h1,qnL (t:=[]) h2,all_beg]
    have:begB (p++[m]) (p++[m])=true:=by have:=qrn (p++[m]) [];rwa [List.append_nil] at this
    rw[this];simp
  | x::t,f,f',m,p,hd,⟨f1,c,k,k',f2,e1,e2,h⟩=>by
    subst e1;subst e2;obtain⟨_,hk,_,h1,h2,_⟩:=qhT hd;rw[qrf,qrf,qaR,qaR,List.filter_append,List.filter_cons,List.filter_append];simp only[List.cons_append];rw[qnL (t:=t++[m]) h1,qnL (t:=t++[m]) h2,qr4 (p:=p++[x]) hk h];have:begB (p++x::(t++[m])) (p++[x])=false:=by
      rw[qrk];simp[begB]
    rw[this];simp
theorem qiD:∀ {t:List Mv} {f f':Fo} {m:Mv},Dis f→ChF (FroF m) t f f'→Dis f'∧szF f'=szF f∧(∀x,x∈qad f'↔x∈qad f)∧∀p w c,(w,c)∈wfF p f'↔(w,c)∈wfF p f
  | [],f,f',m,hd,⟨f1,c,k,f2,e1,e2⟩=>by
    subst e1;subst e2;obtain⟨g1,g2,g3,h1,h2,h3⟩:=qhT hd;refine⟨⟨?_,g2,(qrG _ _).2 ⟨g1,g3,h3⟩⟩,?_,fun x=>?_,fun p w d=>?_⟩
    · rw[qf6,List.mem_append];exact fun h=>h.elim h1 h2
    · simp only[szF,qj3];omega
    · simp only[qad,qf6,List.mem_cons,List.mem_append];constructor
      · rintro (h | h | h)<;>simp[h]
      · rintro (h | h | h)<;>simp[h]
    · simp only[wfF,qrz,List.mem_cons,List.mem_append];constructor
      · rintro (h | h | h | h)<;>simp[h]
      · rintro (h | h | h | h)<;>simp[h]
  | x::t,f,f',m,hd,⟨f1,c,k,k',f2,e1,e2,h⟩=>by
    subst e1;subst e2;obtain⟨g1,g2,g3,h1,h2,h3⟩:=qhT hd;obtain⟨i1,i2,_,i4⟩:=qiD g2 h;refine⟨(qrG _ _).2 ⟨g1,⟨h2,i1,g3⟩,fun y hy=>?_⟩,?_,fun y=>?_,fun p w d=>?_⟩
    · simp only[qad,List.mem_cons,not_or];exact⟨fun e=>h1 (e▸hy),h3 y hy⟩
    · simp only[szF,qj3,i2]
    · simp only[qad,qf6]
    · simp only[wfF,qrz,List.mem_cons,List.mem_append,i4]
inductive ProF:List Mv→Fo→Fo→Prop
  | nil (f:Fo):ProF [] f f
  | snoc {t:List Mv} {m:Mv} {f g f':Fo}:ChF (FroF m) t f g→ProF t g f'→ProF (t++[m]) f f'
theorem pro_inv {w:List Mv} {f f':Fo} (h:ProF w f f'):(w=[]∧f'=f)∨∃t m g,w=t++[m]∧ChF (FroF m) t f g∧ProF t g f':=by
  cases h with
  | nil=>exact .inl ⟨rfl,rfl⟩
  | snoc h1 h2=>exact .inr ⟨_,_,_,rfl,h1,h2⟩
theorem qrh {w:List Mv} {f f':Fo} (h:ProF w f f'):Dis f→Dis f'∧szF f'=szF f∧∀p w c,(w,c)∈wfF p f'↔(w,c)∈wfF p f:=by
  induction h with
  | nil f=>exact fun hd=>⟨hd,rfl,fun _ _ _=>Iff.rfl⟩
  | snoc h1 h2 ih =>
    intro hd;obtain⟨g1,g2,_,g4⟩:=qiD hd h1;obtain⟨i1,i2,i3⟩:=ih g1;exact⟨i1,i2.trans g2,fun p w c=>(i3 p w c).trans (g4 p w c)⟩
theorem qru:∀(n:Nat) {t:List Mv} {m:Mv} {f f':Fo},t.length=n→Dis f→ProF (m::t) f f'→∃f1 c k k' f2,f=apF f1 (.cons m c k f2)∧ProF t k k'∧f' = .cons m c k' (apF f1 f2)
  | n,t,m,f,f',hn,hd,h=>by
    rcases pro_inv h with ⟨h,_⟩ | ⟨u,x,g,e,h1,h2⟩
    · cases h
    · cases u with
      | nil =>
        simp only[List.nil_append,List.cons.injEq] at e;obtain⟨rfl,rfl⟩:=e;obtain⟨f1,c,k,f2,e1,e2⟩:=h1;rcases pro_inv h2 with ⟨_,h3⟩ | ⟨u',x',_,e3,_⟩
        · subst h3;exact⟨f1,c,k,k,f2,e1,.nil k,e2⟩
        · simp at e3
      | cons m' u =>
        simp only[List.cons_append,List.cons.injEq] at e;obtain⟨rfl,rfl⟩:=e;obtain⟨f1,c,k,k1,f2,e1,e2,h3⟩:=h1;subst e1;subst e2;obtain⟨_,hk,_,hm1,_,_⟩:=qhT hd;have hdg:Dis (apF f1 (.cons m c k1 f2)):=(qiD hd (t:=m::u) (m:=x) ⟨f1,c,k,k1,f2,rfl,rfl,h3⟩).1
        cases n with
        | zero=>simp at hn
        | succ n =>
          obtain⟨g1,c',k2,k',g2,e4,h4,h5⟩:=qru n (by simpa using hn) hdg h2;have hdg':=hdg;rw[e4] at hdg';obtain⟨_,_,_,hm2,_,_⟩:=qhT hdg';obtain⟨rfl,rfl,rfl,rfl⟩:=qsf hm1 hm2 e4;exact⟨f1,c,k,k',f2,rfl,.snoc h3 h4,h5⟩
theorem qrF:∀ {t:List Mv} {f f':Fo} (p:List Mv),Dis f→ProF t f f'→∀i,i<t.length→(kyF p f')[i]?=some (p++t.take (i+1))
  | [],f,f',p,_,_,i,hi=>by simp at hi
  | m::t,f,f',p,hd,h,i,hi=>by
    obtain⟨f1,c,k,k',f2,rfl,h2,rfl⟩:=qru _ rfl hd h;obtain⟨_,hk,_⟩:=qhT hd;rw[qaR]
    cases i with
    | zero=>simp
    | succ i =>
      have ih:=qrF (p++[m]) hk h2 i (by simpa using hi);rw[List.getElem?_cons_succ,List.getElem?_append_left (List.getElem?_eq_some_iff.1 ih).1,ih];simp

abbrev Bo:=Mv×ByteArray×Unit
abbrev ArO':=List (Bo×Option (List Nat))
abbrev dBo:Bo:=(((0:Int),((0:Int),((0:Int),()))),(ByteArray.empty,()))
theorem qja (A:ArO') (x:Nat) (ks:List Nat):(putP A dBo x ks).length=A.length:=by simp[putP]
theorem qnD (A:ArO') {x y:Nat} (ks:List Nat) (hx0:0<x) (hx:x≤A.length) (hy:0<y):ndP (putP A dBo x ks) dBo y=ndP A dBo y:=by
  unfold ndP putP getD';rw[List.getD_eq_getElem?_getD,List.getD_eq_getElem?_getD,List.getElem?_set];split
  · rename_i e;rw[←e];rw[if_pos (by omega),List.getD_eq_getElem?_getD];rfl
  · rfl
theorem putP_kd (A:ArO') {x:Nat} (ks:List Nat) (hx0:0<x) (hx:x≤A.length):kdP (putP A dBo x ks) dBo x=ks:=by
  unfold kdP putP getD';rw[List.getD_eq_getElem?_getD,List.getElem?_set_self (by omega)];rfl
theorem qjw (A:ArO') {x y:Nat} (ks:List Nat) (hx0:0<x) (hy:0<y) (h:x≠y):kdP (putP A dBo x ks) dBo y=kdP A dBo y:=by
  unfold kdP putP getD';rw[List.getD_eq_getElem?_getD,List.getElem?_set_ne (by omega),List.getD_eq_getElem?_getD]
def IsO (A:ArO'):Fo→List Nat→Prop
  | .nil,xs=>xs=[]
  | .cons m c k r,xs=>∃x xs',xs=x::xs'∧(0<x∧x≤A.length)∧ndP A dBo x=(m,(c,()))∧IsO A k (kdP A dBo x)∧IsO A r xs'
def labO (A:ArO'):Fo→List Nat→List Nat
  | .cons m c k r,x::xs=>x::(labO A k (kdP A dBo x)++labO A r xs)
  | _,_=>[]
theorem qo1 (A:ArO'):∀(f g:Fo) (T:List Nat),IsO A (apF f g) T↔∃T1 T2,T=T1++T2∧IsO A f T1∧IsO A g T2
  | .nil,g,T=>by
    constructor
    · exact fun h=>⟨[],T,rfl,rfl,h⟩
    · rintro ⟨T1,T2,rfl,h1,h2⟩
      rw[show T1=[] from h1];exact h2
  | .cons m c k r,g,T=>by
    simp only[apF,IsO];constructor
    · rintro ⟨x,xs,rfl,h0,h1,h2,h3⟩
      obtain⟨T1,T2,rfl,h4,h5⟩:=(qo1 A r g xs).1 h3;exact⟨x::T1,T2,rfl,⟨x,T1,rfl,h0,h1,h2,h4⟩,h5⟩
    · rintro ⟨T1,T2,rfl,⟨x,xs,rfl,h0,h1,h2,h4⟩,h5⟩
      exact⟨x,xs++T2,rfl,h0,h1,h2,(qo1 A r g _).2 ⟨xs,T2,rfl,h4,h5⟩⟩
theorem qeU (A:ArO'):∀ {f:Fo} (g:Fo) {T1:List Nat} (T2:List Nat),IsO A f T1→labO A (apF f g) (T1++T2)=labO A f T1++labO A g T2
  | .nil,g,T1,T2,h=>by rw[show T1=[] from h];simp[apF,labO]
  | .cons m c k r,g,T1,T2,⟨x,xs,e,_,_,_,h⟩=>by
    subst e;simp only[apF,List.cons_append,labO,qeU A g T2 h,List.append_assoc]
theorem qpY {A:ArO'}:∀ {f:Fo} {T:List Nat},IsO A f T→∀x∈T,x∈labO A f T
  | .nil,T,h,x,hx=>by rw[show T=[] from h] at hx;cases hx
  | .cons m c k r,T,⟨y,ys,e,_,_,_,h⟩,x,hx=>by
    subst e;simp only[labO,List.mem_cons,List.mem_append];rcases List.mem_cons.1 hx with rfl | hx
    · exact .inl rfl
    · exact .inr (.inr (qpY h x hx))
theorem qgN {A:ArO'}:∀ {f:Fo} {T:List Nat},IsO A f T→∀x∈labO A f T,0<x∧x≤A.length
  | .nil,T,h,x,hx=>by cases hx
  | .cons m c k r,T,⟨y,ys,e,h0,_,h2,h⟩,x,hx=>by
    subst e;simp only[labO,List.mem_cons,List.mem_append] at hx;rcases hx with rfl | hx | hx
    · exact h0
    · exact qgN h2 x hx
    · exact qgN h x hx
theorem qkQ {A A':ArO'} (hl:A'.length=A.length):∀ {f:Fo} {T:List Nat},IsO A f T→(∀y∈labO A f T,ndP A' dBo y=ndP A dBo y∧kdP A' dBo y=kdP A dBo y)→IsO A' f T∧labO A' f T=labO A f T
  | .nil,T,h,_=>⟨h,rfl⟩
  | .cons m c k r,T,⟨y,ys,e,h0,h1,h2,h⟩,hA=>by
    subst e;simp only[labO,List.mem_cons,List.mem_append] at hA;obtain⟨g1,g2⟩:=hA y (.inl rfl);obtain⟨i1,i2⟩:=qkQ hl h2 fun z hz=>hA z (.inr (.inl hz));obtain⟨j1,j2⟩:=qkQ hl h fun z hz=>hA z (.inr (.inr hz));refine⟨⟨y,ys,rfl,⟨h0.1,by rw[hl];exact h0.2⟩,g1.trans h1,by rw[g2];exact i1,j1⟩,?_⟩;simp only[labO,g2,i2,j2]
theorem qlL {A:ArO'} {f:Fo} {T L:List Nat} {q:Nat} (h:IsO A f T) (hq:q∉labO A f T) (h0:0<q) (hl:q≤A.length):IsO (putP A dBo q L) f T∧labO (putP A dBo q L) f T=labO A f T :=
  qkQ (qja _ _ _) h fun y hy=>⟨qnD A L h0 hl (qgN h y hy).1,qjw A L h0 (qgN h y hy).1 fun e=>hq (e▸hy)⟩
def Sp (A:ArO'):Fo→List Nat→List (Mv×Nat)→Prop
  | f,T,[]=>IsO A f T
  | f,T,(m,x)::s=>∃f1 c k f2 T1 T2,f=apF f1 (.cons m c k f2)∧T=T1++x::T2∧IsO A f1 T1∧(0<x∧x≤A.length)∧ndP A dBo x=(m,(c,()))∧IsO A f2 T2∧Sp A k (kdP A dBo x) s
theorem sp_is {A:ArO'}:∀ {s:List (Mv×Nat)} {f:Fo} {T:List Nat},Sp A f T s→IsO A f T
  | [],_,_,h=>h
  | (m,x)::s,_,_,⟨f1,c,k,f2,T1,T2,e1,e2,h1,h2,h3,h4,h5⟩=>by
    subst e1;subst e2;exact(qo1 A _ _ _).2 ⟨T1,x::T2,rfl,h1,x,T2,rfl,h2,h3,sp_is h5,h4⟩
theorem qrU {A:ArO'}:∀ {s:List (Mv×Nat)} {f:Fo} {T:List Nat},Sp A f T s→∀q∈s,q.2∈labO A f T
  | [],_,_,_,q,hq=>by cases hq
  | (m,x)::s,_,_,⟨f1,c,k,f2,T1,T2,e1,e2,h1,h2,h3,h4,h5⟩,q,hq=>by
    subst e1;subst e2;rw[qeU A _ _ h1];simp only[labO,List.mem_append,List.mem_cons];rcases List.mem_cons.1 hq with rfl | hq
    · exact .inr (.inl rfl)
    · exact .inr (.inr (.inl (qrU h5 q hq)))
theorem qlI {l1 l2 l3:List Nat} {x:Nat} (h:(l1++x::(l2++l3)).Nodup):l1.Nodup∧l2.Nodup∧l3.Nodup∧x∉l1∧x∉l2∧x∉l3∧(∀y∈l2,y∉l1∧y∉l3∧y≠x):=by
  obtain⟨h1,h2,h3⟩:=List.nodup_append.1 h;obtain⟨h4,h5⟩:=List.nodup_cons.1 h2;obtain⟨h6,h7,h8⟩:=List.nodup_append.1 h5;simp only[List.mem_append,not_or] at h4;exact⟨h1,h6,h7,fun hx=>h3 x hx x (by simp) rfl,h4.1,h4.2,fun y hy=>⟨fun hy1=>h3 y hy1 y (by simp[hy]) rfl,fun hy3=>h8 y hy y hy3 rfl,fun e=>h4.1 (e▸hy)⟩⟩
theorem sp_top {A:ArO'} {f:Fo} {T:List Nat} {m:Mv} {x:Nat} (h:Sp A f T [(m,x)]) (hn:(labO A f T).Nodup):∃T1 T2,T=T1++x::T2∧x∉T1 ∧
    (∃f',FroF m f f'∧IsO A f' (x::(T1++T2))∧(labO A f' (x::(T1++T2))).Perm (labO A f T))∧∃f',RemF m f f'∧IsO A f' (T1++T2)∧∀y∈labO A f' (T1++T2),y∈labO A f T:=by
  obtain⟨f1,c,k,f2,T1,T2,rfl,rfl,h1,h2,h3,h4,h5⟩:=h;have hl:=qeU A (.cons m c k f2) (x::T2) h1;rw[hl] at hn ⊢;simp only[labO] at hn ⊢;obtain⟨_,_,_,g1,_⟩:=qlI hn;refine⟨T1,T2,rfl,fun hx=>g1 (qpY h1 x hx),⟨_,⟨f1,c,k,f2,rfl,rfl⟩,⟨x,T1++T2,rfl,h2,h3,h5,(qo1 A _ _ _).2 ⟨T1,T2,rfl,h1,h4⟩⟩,?_⟩,_,⟨f1,c,k,f2,rfl,rfl⟩,(qo1 A _ _ _).2 ⟨T1,T2,rfl,h1,h4⟩,fun y hy=>?_⟩
  · show(x::(labO A k (kdP A dBo x)++labO A (apF f1 f2) (T1++T2))).Perm _;rw[qeU A _ _ h1];refine List.Perm.trans ?_ List.perm_middle.symm;refine List.Perm.cons _ ?_;rw[←List.append_assoc,←List.append_assoc];exact List.Perm.append_right _ List.perm_append_comm
  · rw[qeU A _ _ h1] at hy;simp only[List.mem_append,List.mem_cons] at hy ⊢
    rcases hy with h | h<;>simp[h]
theorem qqi {A:ArO'} {m' m:Mv} {q x:Nat}:∀ {s:List (Mv×Nat)} {f:Fo} {T:List Nat},Sp A f T (s++[(m',q),(m,x)])→(labO A f T).Nodup→∃T1 T2,kdP A dBo q=T1++x::T2∧x∉T1∧(0<q∧q≤A.length) ∧
    (∃f',ChF (FroF m) (s.map (·.1)++[m']) f f'∧Sp (putP A dBo q (x::(T1++T2))) f' T (s++[(m',q)])∧(labO (putP A dBo q (x::(T1++T2))) f' T).Perm (labO A f T)) ∧
    ∃f',ChF (RemF m) (s.map (·.1)++[m']) f f'∧IsO (putP A dBo q (T1++T2)) f' T∧∀y∈labO (putP A dBo q (T1++T2)) f' T,y∈labO A f T
  | [],f,T,⟨f1,c,k,f2,S1,S2,e1,e2,h1,h2,h3,h4,h5⟩,hn=>by
    subst e1;subst e2;have hl:=qeU A (.cons m' c k f2) (q::S2) h1;rw[hl] at hn ⊢;simp only[labO] at hn ⊢;obtain⟨n1,n2,n3,g1,g2,g3,g4⟩:=qlI hn;obtain⟨T1,T2,t1,t2,⟨k1,t3,t4,t5⟩,k2,t6,t7,t8⟩:=sp_top h5 n2;have fr:∀(L:List Nat) (k':Fo),IsO A k' L→q∉labO A k' L→Sp (putP A dBo q L) (apF f1 (.cons m' c k' f2)) (S1++q::S2) [(m',q)]∧labO (putP A dBo q L) (apF f1 (.cons m' c k' f2)) (S1++q::S2)=labO A f1 S1++q::(labO A k' L++labO A f2 S2):=fun L k' hk hq=>by
      obtain⟨a1,a2⟩:=qlL (L:=L) h1 g1 h2.1 h2.2;obtain⟨b1,b2⟩:=qlL (L:=L) h4 g3 h2.1 h2.2;obtain⟨c1,c2⟩:=qlL (L:=L) hk hq h2.1 h2.2;have hkd:=putP_kd A L h2.1 h2.2;refine⟨⟨f1,c,k',f2,S1,S2,rfl,rfl,a1,⟨h2.1,by rw[qja];exact h2.2⟩,(qnD A L h2.1 h2.2 h2.1).trans h3,b1,by rw[hkd];exact c1⟩,?_⟩;rw[qeU _ _ _ a1];simp only[labO,hkd,a2,b2,c2]
    obtain⟨u1,u2⟩:=fr _ k1 t4 fun hq=>g2 (t5.subset hq);obtain⟨v1,v2⟩:=fr _ k2 t7 fun hq=>g2 (t8 q hq);refine⟨T1,T2,t1,t2,h2,⟨_,⟨f1,c,k,k1,f2,rfl,rfl,t3⟩,u1,?_⟩,_,⟨f1,c,k,k2,f2,rfl,rfl,t6⟩,sp_is v1,fun y hy=>?_⟩
    · rw[u2];exact List.Perm.append_left _ ((t5.append_right _).cons _)
    · rw[v2] at hy;simp only[List.mem_append,List.mem_cons] at hy ⊢;rcases hy with h | h | h | h
      · exact .inl h
      · exact .inr (.inl h)
      · exact .inr (.inr (.inl (t8 y h)))
      · exact .inr (.inr (.inr h))
  | (m0,x0)::s,f,T,⟨f1,c,k,f2,S1,S2,e1,e2,h1,h2,h3,h4,h5⟩,hn=>by
    subst e1;subst e2;have hl:=qeU A (.cons m0 c k f2) (x0::S2) h1;rw[hl] at hn ⊢;simp only[labO] at hn ⊢;obtain⟨n1,n2,n3,g1,g2,g3,g4⟩:=qlI hn;obtain⟨T1,T2,t1,t2,t0,⟨k1,t3,t4,t5⟩,k2,t6,t7,t8⟩:=qqi h5 n2;have hq:q∈labO A k (kdP A dBo x0):=qrU h5 (m',q) (by simp);obtain⟨q1,q2,q3⟩:=g4 q hq;have fr:∀(L:List Nat) (k':Fo) (s':List (Mv×Nat)),Sp (putP A dBo q L) k' (kdP A dBo x0) s'→Sp (putP A dBo q L) (apF f1 (.cons m0 c k' f2)) (S1++x0::S2) ((m0,x0)::s')∧labO (putP A dBo q L) (apF f1 (.cons m0 c k' f2)) (S1++x0::S2)=labO A f1 S1++x0::(labO (putP A dBo q L) k' (kdP A dBo x0)++labO A f2 S2):=fun L k' s' hk=>by
      obtain⟨a1,a2⟩:=qlL (L:=L) h1 q1 t0.1 t0.2;obtain⟨b1,b2⟩:=qlL (L:=L) h4 q2 t0.1 t0.2;have hkd:=qjw A L t0.1 h2.1 q3;refine⟨⟨f1,c,k',f2,S1,S2,rfl,rfl,a1,⟨h2.1,by rw[qja];exact h2.2⟩,(qnD A L t0.1 t0.2 h2.1).trans h3,b1,by rw[hkd];exact hk⟩,?_⟩;rw[qeU _ _ _ a1];simp only[labO,hkd,a2,b2]
    obtain⟨u1,u2⟩:=fr _ k1 _ t4;obtain⟨v1,v2⟩:=fr _ k2 [] t7;refine⟨T1,T2,t1,t2,t0,⟨_,⟨f1,c,k,k1,f2,rfl,rfl,t3⟩,u1,?_⟩,_,⟨f1,c,k,k2,f2,rfl,rfl,t6⟩,sp_is v1,fun y hy=>?_⟩
    · rw[u2];exact List.Perm.append_left _ ((t5.append_right _).cons _)
    · rw[v2] at hy;simp only[List.mem_append,List.mem_cons] at hy ⊢;rcases hy with h | h | h | h
      · exact .inl h
      · exact .inr (.inl h)
      · exact .inr (.inr (.inl (t8 y h)))
      · exact .inr (.inr (.inr h))
def IsC (A:ArO'):Nat→Fo→List Nat→Prop
  | _,.nil,xs=>xs=[]
  | i,.cons m c k r,xs=>∃xs',xs=(i+1)::xs'∧i+1≤A.length∧ndP A dBo (i+1)=(m,(c,()))∧IsC A (i+1) k (kdP A dBo (i+1))∧IsC A (i+1+szF k) r xs'
theorem qnd {A:ArO'}:∀ {f:Fo} {i:Nat} {xs:List Nat},IsC A i f xs→IsO A f xs
  | .nil,_,_,h=>h
  | .cons m c k r,i,_,⟨xs',e,h1,h2,h3,h4⟩=>⟨i+1,xs',e,⟨Nat.succ_pos _,h1⟩,h2,qnd h3,qnd h4⟩
theorem qqT {A:ArO'}:∀ {f:Fo} {i:Nat} {xs:List Nat},IsC A i f xs→labO A f xs=List.range' (i+1) (szF f)
  | .nil,_,_,h=>rfl
  | .cons m c k r,i,_,⟨xs',e,h1,h2,h3,h4⟩=>by
    subst e;simp only[labO,qqT h3,qqT h4,szF];rw[show 1+(szF k+szF r)=(szF k+szF r)+1 by omega,List.range'_succ,List.range'_append_1 |>.symm];rw[show i+1+szF k+1=i+1+1+szF k by omega]
theorem qlx {A A':ArO'} (hl:A.length≤A'.length):∀ {f:Fo} {i:Nat} {xs:List Nat},IsC A i f xs→(∀y,i<y→y≤i+szF f→ndP A' dBo y=ndP A dBo y∧kdP A' dBo y=kdP A dBo y)→IsC A' i f xs
  | .nil,_,_,h,_=>h
  | .cons m c k r,i,_,⟨xs',e,h1,h2,h3,h4⟩,hA=>by
    simp only[szF] at hA;obtain⟨g1,g2⟩:=hA (i+1) (by omega) (by omega);exact⟨xs',e,by omega,g1.trans h2,by rw[g2];exact qlx hl h3 (fun y hy1 hy2=>hA y (by omega) (by omega)),qlx hl h4 (fun y hy1 hy2=>hA y (by omega) (by omega))⟩
def ChN (ns:List RNode):Int→List (Mv×Nat)→Prop
  | _,[]=>True
  | par,(m,x)::s=>0<x∧rpar ns (x-1)=par∧rmv ns (x-1)=m∧ChN ns ((x:Int)-1) s
theorem qk1 {A:ArO'} {ns:List RNode}:∀ {f:Fo} {i:Nat} {par:Int} {xs:List Nat},IsC A i f xs→Seg ns i (preF par i f)→∀n,i≤n→n<i+szF f→∃s m,Sp A f xs (s++[(m,n+1)])∧ChN ns par (s++[(m,n+1)])
  | .nil,i,par,xs,_,_,n,h1,h2=>by simp only[szF] at h2;omega
  | .cons m c k r,i,par,xs,⟨xs',e,h1,h2,h3,h4⟩,hs,n,hn1,hn2=>by
    subst e;obtain⟨g1,g2,g3⟩:=hs.parts;obtain⟨q1,q2,q3⟩:=qdq g1;simp only[szF] at hn2;by_cases c1:n=i
    · subst c1;refine⟨[],m,⟨.nil,c,k,r,[],xs',rfl,rfl,rfl,⟨Nat.succ_pos _,h1⟩,h2,qnd h4,qnd h3⟩,Nat.succ_pos _,?_,?_,trivial⟩
      · simpa using q1
      · simpa using q2
    · by_cases c2:n<i+1+szF k
      · obtain⟨s,m',j1,j2⟩:=qk1 h3 g2 n (by omega) c2;refine⟨(m,i+1)::s,m',⟨.nil,c,k,r,[],xs',rfl,rfl,rfl,⟨Nat.succ_pos _,h1⟩,h2,qnd h4,j1⟩,Nat.succ_pos _,?_,?_,?_⟩
        · simpa using q1
        · simpa using q2
        · have:(((i+1:Nat):Int)-1)=(i:Int):=by omega
          rw[this];exact j2
      · obtain⟨s,m',j1,j2⟩:=qk1 h4 g3 n (by omega) (by omega);have key:∀ {s:List (Mv×Nat)},s≠[]→Sp A r xs' s→Sp A (.cons m c k r) ((i+1)::xs') s:=fun {s} hs h=>by
          cases s with
          | nil=>exact absurd rfl hs
          | cons y s =>
            obtain⟨f1,c',k',f2,T1,T2,e1,e2,a1,a2,a3,a4,a5⟩:=h;subst e1;subst e2;exact⟨.cons m c k f1,c',k',f2,(i+1)::T1,T2,rfl,rfl,⟨i+1,T1,rfl,⟨Nat.succ_pos _,h1⟩,h2,qnd h3,a1⟩,a2,a3,a4,a5⟩
        exact⟨s,m',key (by simp) j1,j2⟩
set_option maxHeartbeats 1000000

def dpN (ns:List RNode) (n:Int):Int:=(((wayN ns n).countP (sibB ns):Nat):Int)
theorem dpN_neg (ns:List RNode) {n:Int} (h:n<0):dpN ns n=0:=by unfold dpN;rw[qbm _ h];rfl
theorem dpN_pos {ns:List RNode} {n:Int} (h:0≤n) (hd:Down ns (n+1).toNat):dpN ns n=(if sibB ns n.toNat=true then 1 else 0)+dpN ns (rpar ns n.toNat):=by
  unfold dpN;rw[qaB h hd,List.countP_cons]
  split<;>omega
theorem dpN_le {ns:List RNode} {n:Int} (hd:Down ns (n+1).toNat):0≤dpN ns n∧dpN ns n≤((n+1).toNat:Nat):=by
  unfold dpN;have h1:=qc9 (ns:=ns) _ n (Nat.le_refl _) hd;have h2:=List.countP_le_length (p:=sibB ns) (l:=wayN ns n);omega
def nErrX (r:Rules) (ns:List RNode) (i:Nat):Int:=if nErr r ns i≠0 then nErr r ns i else if 20<dpN ns (i:Int) then 2 else 0
theorem qnw {r:Rules} {ns:List RNode} {i:Nat} {v:Int} (h:nErr r ns i=v) (hv:v≠0):v=nErrX r ns i:=by
  unfold nErrX;rw[h,if_pos hv]
structure DeepX (ns:List RNode) (deep:List Int) (i:Nat):Prop where
  len:deep.length=ns.length
  all:∀j,j<i→deep.getD j 0=dpN ns (j:Int)
  zero:∀j,i≤j→deep.getD j 0=0
theorem qsI {r:Rules} (hr:Rng qR r) (x:Rec) (hx:Rng tyRec x) (h30:x.2.2.1.length≤1000) {i:Nat} (hi:i<x.2.2.1.length) (ho:Ord x.2.2.1 i) {deep:List Int} (hD:DeepX x.2.2.1 deep i) :
    ∃deep' e,qdi deep r x (i:Int)=some (deep',e)∧e=nErrX r x.2.2.1 i∧(e=0→DeepX x.2.2.1 deep' (i+1)):=by
  have hcs:(rcom x.2.2.1 i).size≤9223372036854775807:=by
    have:=(hx.2.2.1.2 _ (List.getElem_mem hi)).2.2.1;rw[←(qch hi).2.2];exact this
  have hd:=ho.down;obtain⟨n1,n2,n3⟩:=qch hi;unfold qdi;rw[qbM _ _ hi,Option.bind_some];simp only[n1,n2,n3];rw[qdV _ hcs,Option.bind_some];by_cases hc:cErr (rcom x.2.2.1 i)=0
  rotate_left
  · rw[bne_t hc,cond_true];exact⟨_,_,rfl,qnw (by unfold nErr;rw[if_pos hc]) hc,fun h=>absurd h hc⟩
  rw[bne_f hc,cond_false];have hon:qgQ x (rpar x.2.2.1 i) (w64 ((i:Int)-1))=some (decide (0≤rpar x.2.2.1 i∧(rpar x.2.2.1 i).toNat∈wayN x.2.2.1 ((i:Int)-1))||(rpar x.2.2.1 i == -1)):=by
    rw[qg (by omega) (by omega)];exact on_spec x _ (by omega) (by rw[show((i:Int)-1+1).toNat=i by omega];exact hd)
  rw[hon];by_cases hob:ordB x.2.2.1 i=true
  rotate_left
  · rw[Bool.not_eq_true] at hob;refine⟨deep,3,?_,qnw (by unfold nErr;rw[if_neg (fun h=>h hc),if_pos hob]) (by decide),fun h=>by cases h⟩;unfold ordB at hob;by_cases hp:rpar x.2.2.1 i<(i:Int)
    · rw[decide_eq_true hp,Bool.true_and] at hob;rw[show decide (rpar x.2.2.1 i≥(i:Int))=false by simp only[decide_eq_false_iff_not];omega,hob];rfl
    · rw[show decide (rpar x.2.2.1 i≥(i:Int))=true by simp only[decide_eq_true_eq];omega];rfl
  have hor:=ho.step hob;have hd1:=hor.down;have hpi:=hd1 i (Nat.lt_succ_self i);have hpl:=hor.low i (Nat.lt_succ_self i);have hob2:=hob;unfold ordB at hob2;rw[decide_eq_true hpi,Bool.true_and] at hob2;rw[show decide (rpar x.2.2.1 i≥(i:Int))=false by simp only[decide_eq_false_iff_not];omega,hob2];simp only[Bool.not_false,gopt,cond_true,Option.bind_some,Bool.not_true,Bool.or_self,cond_false];have hdl:=hD.len
  obtain⟨dp,hdp1,hdp2⟩:∃dp:List Int,(bif (decide (rpar x.2.2.1 i≥0)) then req (inb (rpar x.2.2.1 i) deep.length) (req (inb (i:Int) deep.length) (some ((),((deep.set (((i:Int)).toNat) (getD' deep ((rpar x.2.2.1 i).toNat) 0)),()))))
      else some ((),(deep,())))=some ((),(dp,()))∧(dp.length=x.2.2.1.length∧(∀j,j<i→dp.getD j 0=dpN x.2.2.1 (j:Int))∧(∀j,i<j→dp.getD j 0=0)∧dp.getD i 0=dpN x.2.2.1 (rpar x.2.2.1 i)):=by
    by_cases h0:0≤rpar x.2.2.1 i
    · rw[show decide (rpar x.2.2.1 i≥0)=true by simp only[decide_eq_true_eq];omega,cond_true,inb_iff.2 ⟨h0,by omega⟩,qb,show inb (i:Int) deep.length=true from inb_iff.2 (by omega),qb];have q:=hD.all (rpar x.2.2.1 i).toNat (by omega);refine⟨_,rfl,by rw[List.length_set];exact hdl,fun j hj=>?_,fun j hj=>?_,?_⟩
      · rw[Int.toNat_natCast,gdD,setD _ _ _ _ (by omega),if_neg (by omega)];exact hD.all j hj
      · rw[Int.toNat_natCast,gdD,setD _ _ _ _ (by omega),if_neg (by omega)];exact hD.zero j (by omega)
      · rw[Int.toNat_natCast,gdD,setD _ _ _ _ (by omega),if_pos rfl,q,show(((rpar x.2.2.1 i).toNat:Nat):Int)=rpar x.2.2.1 i by omega]
    · rw[show decide (rpar x.2.2.1 i≥0)=false by simp only[decide_eq_false_iff_not];omega,cond_false];exact⟨_,rfl,hdl,hD.all,fun j hj=>hD.zero j (by omega),by rw[hD.zero i (Nat.le_refl _),dpN_neg _ (by omega)]⟩
  rw[hdp1,Option.bind_some];rw[show qm 0 (i:Int) x.2.2.1.length=true by simp only[qm,Bool.and_eq_true,decide_eq_true_eq];omega,qb,qb]
  have htl:(x.2.2.1.take i).length=i:=by rw[List.length_take];omega
  have tk:∀k (hk:k<(x.2.2.1.take i).length),(x.2.2.1.take i)[k].1=rpar x.2.2.1 k∧(x.2.2.1.take i)[k].2.1=rmv x.2.2.1 k:=fun k hk=>by
    rw[List.getElem_take];exact⟨(qch (by omega)).1,(qch (by omega)).2.1⟩
  obtain⟨nd,hnd⟩:∃nd:RNode,x.2.2.1[i]=nd:=⟨_,rfl⟩;rw[hnd] at n1 n2;rw[hnd];have anyT:(x.2.2.1.take i).any (fun d=>(d.1==rpar x.2.2.1 i)&&(d.2.1==rmv x.2.2.1 i))=twinB x.2.2.1 i:=by
    unfold twinB;rw[Bool.eq_iff_iff,List.any_eq_true,List.any_eq_true];constructor
    · rintro ⟨d,hd,e⟩
      obtain⟨k,hk,rfl⟩:=List.mem_iff_getElem.1 hd;rw[(tk k hk).1,(tk k hk).2] at e;exact⟨k,List.mem_range.2 (by omega),e⟩
    · rintro ⟨k,hk,e⟩
      have hk:=List.mem_range.1 hk;refine⟨(x.2.2.1.take i)[k]'(by omega),List.getElem_mem _,?_⟩;rw[(tk k (by omega)).1,(tk k (by omega)).2];exact e
  have anyS:(x.2.2.1.take i).any (fun d=>d.1==rpar x.2.2.1 i)=sibB x.2.2.1 i:=by
    unfold sibB;rw[Bool.eq_iff_iff,List.any_eq_true,List.any_eq_true];constructor
    · rintro ⟨d,hd,e⟩
      obtain⟨k,hk,rfl⟩:=List.mem_iff_getElem.1 hd;rw[(tk k hk).1] at e;exact⟨k,List.mem_range.2 (by omega),e⟩
    · rintro ⟨k,hk,e⟩
      have hk:=List.mem_range.1 hk;refine⟨(x.2.2.1.take i)[k]'(by omega),List.getElem_mem _,?_⟩;rw[(tk k (by omega)).1];exact e
  have hL1:=qt (x.2.2.1.take i) (fun d=>(d.1==rpar x.2.2.1 i)&&(d.2.1==rmv x.2.2.1 i)) (qaO x (i:Int) nd ((),(dp,()))) (.inr (dp,7)) (.inl ((),())) (fun k hk=>by
    unfold qaO;simp only[Int.toNat_natCast,List.drop_zero,n1,n2];rw[htl];simp only[show decide ((k:Int)<((i:Nat):Int))=true by simp;omega,cond_true];rw[qbM _ _ hk,Option.bind_some,(tk k hk).1,(tk k hk).2];rw[qg (n:=(k:Int)+1) (by omega) (by omega)];have:=qia (rmv x.2.2.1 k) (rmv x.2.2.1 i);unfold eqMv at this;rw[this];cases e1:(rpar x.2.2.1 k==rpar x.2.2.1 i)
    · simp only[bne,e1,Bool.not_false,cond_true,Option.bind_some,Sum.elim_inl,Bool.false_and,cond_false];rfl
    · simp only[bne,e1,Bool.not_true,cond_false,Bool.true_and]
      cases (rmv x.2.2.1 k==rmv x.2.2.1 i)<;>rfl) (by
    unfold qaO;simp only[Int.toNat_natCast,List.drop_zero];rw[htl]
    simp)
  rw[hL1,anyT,Option.bind_some];cases htw:twinB x.2.2.1 i
  rotate_left
  · simp only[cond_true,Sum.elim_inr];exact⟨dp,7,rfl,qnw (by unfold nErr;rw[if_neg (fun h=>h hc),if_neg (by rw[hob];decide),if_pos htw]) (by decide),fun h=>by cases h⟩
  simp only[cond_false,Sum.elim_inl]
  have hne:nErr r x.2.2.1 i=gErr r (wayM x.2.2.1 (i:Int)):=by unfold nErr;rw[if_neg (fun h=>h hc),if_neg (by rw[hob];decide),if_neg (by rw[htw];decide)]
  have hdi:=dpN_pos (ns:=x.2.2.1) (n:=(i:Int)) (by omega) (by rw[show((i:Int)+1).toNat=i+1 by omega];exact hd1);rw[Int.toNat_natCast] at hdi;have hdb:=dpN_le (ns:=x.2.2.1) (n:=(i:Int)) (by rw[show((i:Int)+1).toNat=i+1 by omega];exact hd1);have hway:qQ x (i:Int)=some (wayM x.2.2.1 (i:Int)):=qqw x (by omega) (by omega) (by omega) (by rw[show((i:Int)+1).toNat=i+1 by omega];exact hd1);have hwl:(wayM x.2.2.1 (i:Int)).length≤1000:=by
    unfold wayM;rw[List.length_reverse,List.length_map];have:=qc9 _ (i:Int) (Nat.le_refl _) (by rw[show((i:Int)+1).toNat=i+1 by omega];exact hd1);omega
  have hrun:=qr6 r (wayM x.2.2.1 (i:Int)) hr (by omega)
  have gm:∀z:List Int,z.length=x.2.2.1.length→z.getD i 0=dpN x.2.2.1 (i:Int)→(Option.bind (Option.bind (qQ x (i:Int)) fun r15=>Option.bind (qag r r15) fun r16=>some ((r16.2.2.1,()),())) fun x27:((Int×Unit)×Unit) =>
      bif (x27.1.1 !=0) then some (z,x27.1.1) else req (inb (i:Int) z.length) (bif (decide ((getD' z (((i:Int)).toNat) 0)>20)) then some (z,2) else some (z,0)))=some (z,nErrX r x.2.2.1 i):=fun z hz h2=>by
    rw[hway,Option.bind_some,hrun,Option.bind_some,Option.bind_some,run_err];by_cases e:gErr r (wayM x.2.2.1 (i:Int))=0
    · simp only[e,bne_self_eq_false,cond_false];rw[inb_iff.2 ⟨by omega,by omega⟩,qb,Int.toNat_natCast,gdD,h2];unfold nErrX;rw[hne,if_neg (fun h=>h e)];by_cases e2:20<dpN x.2.2.1 (i:Int)
      · rw[if_pos e2,show decide (dpN x.2.2.1 (i:Int)>20)=true by simpa using e2,cond_true]
      · rw[if_neg e2,show decide (dpN x.2.2.1 (i:Int)>20)=false by simpa using e2,cond_false]
    · simp only[bne_t e,cond_true];unfold nErrX;rw[hne,if_pos e]
  have hL2:=qt (x.2.2.1.take i) (fun d=>d.1==rpar x.2.2.1 i) (qaP x (i:Int) nd ((),(dp,())) r) (.inr ((dp.set i (dp.getD i 0+1)),nErrX r x.2.2.1 i)) (.inl ((),())) (fun k hk=>by
    unfold qaP;simp only[Int.toNat_natCast,List.drop_zero,n1,n2];rw[htl];simp only[show decide ((k:Int)<((i:Nat):Int))=true by simp;omega,cond_true];rw[qbM _ _ hk,Option.bind_some,(tk k hk).1];rw[qg (n:=(k:Int)+1) (by omega) (by omega)];cases e1:(rpar x.2.2.1 k==rpar x.2.2.1 i)
    · rfl
    · have hs:sibB x.2.2.1 i=true:=by
        unfold sibB;rw[List.any_eq_true];exact⟨k,List.mem_range.2 (by omega),e1⟩
      have hq2:=hdp2.2.2.2;have hdl2:=hdp2.1;rw[hs] at hdi;simp only[if_true] at hdi;simp only[cond_true,show decide ((k:Int)≥0)=true by simp];rw[inb_iff.2 ⟨by omega,by omega⟩,qb,qb,Option.bind_some];simp only[agree_self];have:=gm (dp.set i (dp.getD i 0+1)) (by rw[List.length_set];exact hdl2) (by rw[setD _ _ _ _ (by omega),if_pos rfl,hq2,hdi];omega);simp only[Int.toNat_natCast] at this;rw[gdD,qg (by omega) (by omega),this]
      rfl) (by
    unfold qaP;simp only[Int.toNat_natCast,List.drop_zero];rw[htl]
    simp)
  rw[hL2,anyS,Option.bind_some];have hq2:=hdp2.2.2.2;have hdl2:=hdp2.1;cases hsb:sibB x.2.2.1 i
  · simp only[cond_false,Sum.elim_inl,agree_self];rw[hsb] at hdi;simp only[Bool.false_eq_true,if_false,Int.zero_add] at hdi;exact⟨dp,_,gm dp hdl2 (by rw[hq2,hdi]),rfl,fun _=>⟨hdl2,fun j hj=>by
      by_cases e:j=i
      · subst e;rw[hq2,hdi]
      · exact hdp2.2.1 j (by omega),fun j hj=>hdp2.2.2.1 j (by omega)⟩⟩
  · simp only[cond_true,Sum.elim_inr];rw[hsb] at hdi;simp only[if_true] at hdi;refine⟨_,_,rfl,rfl,fun _=>⟨by rw[List.length_set];exact hdl2,fun j hj=>?_,fun j hj=>?_⟩⟩
    · rw[setD _ _ _ _ (by omega)];by_cases e:i=j
      · subst e;rw[if_pos rfl,hq2,hdi];omega
      · rw[if_neg e];exact hdp2.2.1 j (by omega)
    · rw[setD _ _ _ _ (by omega),if_neg (by omega)];exact hdp2.2.2.1 j (by omega)

theorem qjn {r:Rules} {ns:List RNode} {i:Nat} (h:nErrX r ns i=0):nErr r ns i=0∧dpN ns (i:Int)≤20:=by
  unfold nErrX at h;by_cases e:nErr r ns i=0
  · rw[if_neg (fun h=>h e)] at h;by_cases e2:20<dpN ns (i:Int)
    · rw[if_pos e2] at h;cases h
    · exact⟨e,by omega⟩
  · rw[if_pos e] at h;exact absurd h e
theorem nErrX_ord {r:Rules} {ns:List RNode} {i:Nat} (h:nErrX r ns i=0):ordB ns i=true:=qgT (qjn h).1
theorem qqU {r:Rules} (hr:Rng qR r) (x:Rec) (hx:Rng tyRec x) (h30:x.2.2.1.length≤1000):∀(k i:Nat) (deep:List Int),i+k=x.2.2.1.length→Ord x.2.2.1 i→DeepX x.2.2.1 deep i →
    Option.bind (iterW (qT x r) (((i:Int),()),(deep,()))) (Sum.elim (fun _=>some 0) some)=some (scan (fun i=>nz (nErrX r x.2.2.1 i)) 0 i k):=by
  intro k
  induction k with
  | zero =>
    intro i deep hi ho hD
    have:i=x.2.2.1.length:=by omega
    subst this;rw[qj (r := .inl ((),(deep,()))) (by unfold qT;simp)];rfl
  | succ k ih =>
    intro i deep hi ho hD;obtain⟨deep',e0,h1,he0,h2⟩:=qsI hr x hx h30 (i:=i) (by omega) ho hD;subst he0;have hs:=qjI (nErrX r x.2.2.1) i k;rw[hs];by_cases e:nErrX r x.2.2.1 i=0
    · rw[if_pos e,qo (y:=((((i+1:Nat):Int),()),(deep',())))]
      · exact ih (i+1) deep' (by omega) (ho.step (nErrX_ord e)) (h2 e)
      · unfold qT;simp only[show decide ((i:Int)<((x.2.2.1.length:Nat):Int))=true by simp;omega,cond_true];rw[h1,Option.bind_some];simp only[e,bne_self_eq_false,cond_false];rw[qg (by omega) (by omega)];rfl
    · rw[if_neg e,qj (r := .inr (nErrX r x.2.2.1 i))]
      · rfl
      · unfold qT;simp only[show decide ((i:Int)<((x.2.2.1.length:Nat):Int))=true by simp;omega,cond_true];rw[h1,Option.bind_some];simp only[bne_t e,cond_true]
def qbq (r:Rules) (x:Rec):Int:=if qu r≠0 then qu r else if 10<x.1.length then 2 else if qr (tErr x.1) x.1.length≠0 then qr (tErr x.1) x.1.length else if x.2.2.2.1<0∨3<x.2.2.2.1 then 4 else if cErr x.2.1≠0 then cErr x.2.1 else qr (nErrX r x.2.2.1) x.2.2.1.length
theorem qpA {r:Rules} (hr:Rng qR r) (x:Rec) (hx:Rng tyRec x) (h30:x.2.2.1.length≤200):qbF r x=some (qbq r x):=by
  unfold qbF qbq;rw[qgL r hr,Option.bind_some];by_cases c:qu r=0
  rotate_left
  · rw[bne_t c,cond_true,if_pos c]
  rw[bne_f c,cond_false,if_neg (fun h=>h c)];rw[show decide (((x.2.2.1.length:Nat):Int)>200)=false by simp only[decide_eq_false_iff_not];omega,Bool.or_false];by_cases c1:10<x.1.length
  · rw[if_pos c1,show decide (((x.1.length:Nat):Int)>10)=true by simp only[decide_eq_true_eq];omega];rfl
  rw[if_neg c1,show decide (((x.1.length:Nat):Int)>10)=false by simp only[decide_eq_false_iff_not];omega,cond_false,qpp x hx,Option.bind_some];by_cases c2:qr (tErr x.1) x.1.length=0
  rotate_left
  · rw[bne_t c2,cond_true,if_pos c2]
  rw[bne_f c2,cond_false,if_neg (fun h=>h c2)];by_cases c3:x.2.2.2.1<0∨3<x.2.2.2.1
  · rw[if_pos c3,show(decide (x.2.2.2.1<0)||decide (x.2.2.2.1>3))=true by simp only[Bool.or_eq_true,decide_eq_true_eq];omega];rfl
  rw[if_neg c3,show(decide (x.2.2.2.1<0)||decide (x.2.2.2.1>3))=false by simp only[Bool.or_eq_false_iff,decide_eq_false_iff_not];omega,cond_false];rw[qdV _ hx.2.1,Option.bind_some];by_cases c4:cErr x.2.1=0
  rotate_left
  · rw[bne_t c4,cond_true,if_pos c4]
  rw[bne_f c4,cond_false,if_neg (fun h=>h c4)]
  rw[show(decide (0≤((x.2.2.1.length:Nat):Int))&&((((x.2.2.1.length:Nat):Int)==((x.2.2.1.length:Nat):Int))&&room (((x.2.2.1.length:Nat):Int)).toNat 8))=true by
    rw[beq_self_eq_true,qZ (by omega)];simp,qb]
  exact qqU hr x hx (by omega) x.2.2.1.length 0 _ (by omega) (fun i hi=>by omega) ⟨by simp,fun j hj=>by omega,fun j _=>by
    rw[List.getD_eq_getElem?_getD,List.getElem?_replicate]
    split<;>rfl⟩
theorem qmk {r:Rules} (hr:Rng qR r) (x:Rec) (hx:Rng tyRec x) (h30:x.2.2.1.length≤200) (z:Option Int):∀(k i:Nat),i+k=x.2.2.1.length→Ord x.2.2.1 i →
    Option.bind (iterW (qx x r) (((i:Int),()),())) (Sum.elim (fun _=>z) some)=if scan (fun i=>nz (nErr r x.2.2.1 i)) 0 i k=0 then z else some (scan (fun i=>nz (nErr r x.2.2.1 i)) 0 i k):=by
  intro k
  induction k with
  | zero =>
    intro i hi ho
    have:i=x.2.2.1.length:=by omega
    subst this;rw[qj (r := .inl ((),())) (by unfold qx;simp)];rfl
  | succ k ih =>
    intro i hi ho
    have hi':i<x.2.2.1.length:=by omega
    have hs:=qjI (nErr r x.2.2.1) i k;have hf:qx x r (((i:Int),()),())=if nErr r x.2.2.1 i=0 then some (.inl ((((i+1:Nat):Int),()),())) else some (.inr (.inr (nErr r x.2.2.1 i))):=by
      obtain⟨n1,n2,n3⟩:=qch hi';have hd:=ho.down;unfold qx;simp only[show decide ((i:Int)<((x.2.2.1.length:Nat):Int))=true by simp;omega,cond_true];rw[qbM _ _ hi',Option.bind_some];obtain⟨nd,hnd⟩:∃nd:RNode,x.2.2.1[i]=nd:=⟨_,rfl⟩;rw[hnd] at n1 n2 n3;rw[hnd];simp only[n1,n3];rw[qg (n:=(i:Int)+1) (by omega) (by omega)];unfold nErr;by_cases hc1:60<(rcom x.2.2.1 i).size
      · have:cErr (rcom x.2.2.1 i)=2:=by unfold cErr;rw[if_pos hc1]
        rw[show decide (((rcom x.2.2.1 i).size:Nat)>(60:Int))=true by simp only[decide_eq_true_eq];omega,this];rfl
      rw[show decide (((rcom x.2.2.1 i).size:Nat)>(60:Int))=false by simp only[decide_eq_false_iff_not];omega,cond_false,qfZ _ _ (by omega) (by decide),Option.bind_some];cases hc2:fineT (rcom x.2.2.1 i) (ByteArray.mk #[123,125])
      · have:cErr (rcom x.2.2.1 i)=3:=by unfold cErr;rw[if_neg hc1,hc2,if_pos rfl]
        rw[this];rfl
      have hc:cErr (rcom x.2.2.1 i)=0:=by unfold cErr;rw[if_neg hc1,hc2,if_neg (by decide)]
      simp only[hc,ne_eq,not_true,if_false,Bool.not_true,cond_false]
      have hcond:∃b,gopt (((decide ((i:Int)>0))&&(decide (rpar x.2.2.1 i≥0)))&&(!((decide (rpar x.2.2.1 i < -1))||(decide (rpar x.2.2.1 i≥(i:Int)))))) false (qeu x.2.2.1 (rpar x.2.2.1 i) (w64 ((i:Int)-1)))=some b ∧
          ((((decide (rpar x.2.2.1 i < -1))||(decide (rpar x.2.2.1 i≥(i:Int))))||(((decide ((i:Int)>0))&&(decide (rpar x.2.2.1 i≥0)))&&(!b)))||(((i:Int)==0)&&(rpar x.2.2.1 i != -1))) = !(ordB x.2.2.1 i):=by
        rw[qg (by omega) (by omega)];generalize hp:rpar x.2.2.1 i=p
        have hob:ordB x.2.2.1 i=(decide (p<(i:Int))&&(decide (0≤p∧p.toNat∈wayN x.2.2.1 ((i:Int)-1))||(p == -1))):=by unfold ordB;rw[hp]
        rw[hob];by_cases g1:p < -1
        · refine⟨false,by rw[show decide (p < -1)=true from decide_eq_true g1];simp[gopt],?_⟩;rw[show decide (p < -1)=true from decide_eq_true g1,beq_f (show ¬p = -1 by omega),decide_eq_false (show ¬(0≤p∧p.toNat∈wayN x.2.2.1 ((i:Int)-1)) by omega)];simp
        rw[show decide (p < -1)=false from decide_eq_false g1];by_cases g2:p≥(i:Int)
        · refine⟨false,by rw[show decide (p≥(i:Int))=true from decide_eq_true g2];simp[gopt],?_⟩;rw[show decide (p≥(i:Int))=true from decide_eq_true g2,decide_eq_false (show ¬p<(i:Int) by omega)];simp
        rw[show decide (p≥(i:Int))=false from decide_eq_false g2,decide_eq_true (show p<(i:Int) by omega)];by_cases g3:p = -1
        · refine⟨false,by rw[show decide (p≥0)=false from decide_eq_false (by omega)];simp[gopt],?_⟩;subst g3;simp
        have g4:0≤p:=by omega
        have g5:0<i:=by omega
        have hab:=qnp x.2.2.1 (a:=p) (n:=(i:Int)-1) g4 (by omega) (by rw[show((i:Int)-1+1).toNat=i by omega];exact hd);refine⟨_,by rw[show decide ((i:Int)>0)=true from decide_eq_true (by omega),show decide (p≥0)=true from decide_eq_true g4];exact hab,?_⟩;rw[show decide ((i:Int)>0)=true from decide_eq_true (by omega),show decide (p≥0)=true from decide_eq_true g4,beq_f (show ¬p = -1 from g3),beq_f (show ¬(i:Int)=0 by omega)];by_cases g6:p.toNat∈wayN x.2.2.1 ((i:Int)-1)
        · simp[g4,g6]
        · simp[g4,g6]
      obtain⟨b,hb1,hb2⟩:=hcond;rw[hb1,Option.bind_some,hb2];cases hob:ordB x.2.2.1 i
      · rfl
      have hor:=ho.step hob;have hd1:=hor.down;simp only[Bool.not_true,cond_false,if_neg (show ¬(true=false) by decide)]
      have hL4:=qt (List.range i) (fun k=>(rpar x.2.2.1 k==rpar x.2.2.1 i)&&(rmv x.2.2.1 k==rmv x.2.2.1 i)) (qO (((i:Int),()),()) x nd) (.inr (.inr (.inr (.inr 7)))) (.inl ((),())) (fun k hk=>by
        have hk':k<i:=by simpa using hk
        obtain⟨d,e1,e2,e3⟩:=qcL (ns:=x.2.2.1) (n:=(k:Int)) (by omega) (by omega);rw[Int.toNat_natCast] at e2 e3;unfold qO;simp only[show decide ((k:Int)<(i:Int))=true by simp;omega,cond_true,n1,n2,List.getElem_range];rw[e1,Option.bind_some,e2,qg (n:=(k:Int)+1) (by omega) (by omega)];cases e5:(rpar x.2.2.1 k==rpar x.2.2.1 i)
        · rfl
        · show Option.bind (at? x.2.2.1 (k:Int)) _=_;rw[e1,Option.bind_some];have:=qia d.2.1 (rmv x.2.2.1 i);unfold eqMv at this;rw[this,e3]
          cases (rmv x.2.2.1 k==rmv x.2.2.1 i)<;>rfl) (by
        unfold qO;rw[List.length_range]
        simp)
      have htw:(List.range i).any (fun k=>(rpar x.2.2.1 k==rpar x.2.2.1 i)&&(rmv x.2.2.1 k==rmv x.2.2.1 i))=twinB x.2.2.1 i:=rfl;rw[hL4,htw,Option.bind_some];cases twinB x.2.2.1 i
      rotate_left
      · rfl
      simp only[cond_false,Sum.elim_inl,if_neg (show ¬(false=true) by decide)];have hwl:(wayM x.2.2.1 (i:Int)).length≤1000:=by
        unfold wayM;rw[List.length_reverse,List.length_map];have:=qc9 _ (i:Int) (Nat.le_refl _) (by rw[show((i:Int)+1).toNat=i+1 by omega];exact hd1);omega
      rw[way3 x.2.2.1 (by omega) (n:=(i:Int)) (by omega) (by omega) (by rw[show((i:Int)+1).toNat=i+1 by omega];exact hd1) (fun j hj=>hor.low j (by omega)),Option.bind_some,qe4 r (wayM x.2.2.1 (i:Int)) hr (by omega),Option.bind_some,qgF];by_cases e:gErr r (wayM x.2.2.1 (i:Int))=0
      · simp only[e,bne_self_eq_false,cond_false,if_true];rfl
      · simp only[bne_t e,cond_true,if_neg e];rfl
    rw[hs];by_cases e:nErr r x.2.2.1 i=0
    · rw[if_pos e] at hf;rw[if_pos e,qo hf];exact ih (i+1) (by omega) (ho.step (qgT e))
    · rw[if_neg e] at hf;rw[if_neg e,qj hf,if_neg e];rfl
theorem qsv (ns:List RNode) (h30:ns.length≤1000) (n c:Int) (h0:0≤n) (h1:n<((ns.length:Nat):Int)) :
    iterW (qL ((n,c,()),()) ns) ((c,0,()),())=some ((if sibB ns n.toNat=true then w64 (c+1) else c,()),()):=by
  have key:∀k i:Nat,i+k=n.toNat→iterW (qL ((n,c,()),()) ns) ((c,(i:Int),()),())=some ((if ((List.range k).any fun t=>rpar ns (i+t)==rpar ns n.toNat)=true then w64 (c+1) else c,()),()):=by
    intro k
    induction k with
    | zero =>
      intro i hi;refine qj ?_;unfold qL;simp only[show decide ((i:Int)<n)=false by simp only[decide_eq_false_iff_not];omega,cond_false];rfl
    | succ k ih =>
      intro i hi;obtain⟨d3,e1,e2,_⟩:=qcL (ns:=ns) (n:=(i:Int)) (by omega) (by omega);obtain⟨d4,e3,e4,_⟩:=qcL (ns:=ns) (n:=n) h0 h1;rw[List.range_succ_eq_map,List.any_cons,List.any_map,Nat.add_zero];by_cases e:rpar ns i=rpar ns n.toNat
      · rw[if_pos (by rw[beq_t e];rfl)];refine qj ?_;unfold qL;simp only[show decide ((i:Int)<n)=true by simp only[decide_eq_true_eq];omega,cond_true];rw[e1,Option.bind_some,e3,Option.bind_some,e2,e4,Int.toNat_natCast,beq_t e,cond_true]
      · rw[beq_f e,Bool.false_or,qo (y:=((c,((i+1:Nat):Int),()),())),ih (i+1) (by omega)]
        · have:((fun t=>rpar ns (i+t)==rpar ns n.toNat)∘Nat.succ)=fun t=>rpar ns (i+1+t)==rpar ns n.toNat:=by
            funext t;simp only[Function.comp];rw[show i+Nat.succ t=i+1+t by omega]
          rw[this]
        · unfold qL;simp only[show decide ((i:Int)<n)=true by simp only[decide_eq_true_eq];omega,cond_true];rw[e1,Option.bind_some,e3,Option.bind_some,e2,e4,Int.toNat_natCast,beq_f e,cond_false,qg (by omega) (by omega)];rfl
  have:=key n.toNat 0 (by omega);simp only[Nat.zero_add] at this;exact this
theorem qpt (ns:List RNode) (h30:ns.length≤1000) {i:Nat} (hi:i<ns.length) (ho:Ord ns (i+1)):qdm ns (i:Int)=some (dpN ns (i:Int)):=by
  have hI:=qgO (f:=qaQ ns) (fun s => -1≤s.1.1∧s.1.1≤(i:Int)∧0≤s.1.2.1∧s.1.2.1+dpN ns s.1.1=dpN ns (i:Int)) (fun s=>(s.1.1+1).toNat) (fun r=>r.1.1=dpN ns (i:Int)) (by
    rintro ⟨⟨n,c,⟨⟩⟩,⟨⟩⟩ ⟨h1,h2,h3,h4⟩
    simp only at h1 h2 h3 h4 ⊢;have hb:=dpN_le (ns:=ns) (n:=(i:Int)) (ho.down.mono (by omega));by_cases h:n<0
    · refine .inr ⟨((c,()),()),?_,by simp only;rw[dpN_neg _ h] at h4;omega⟩;unfold qaQ;simp only[show decide (n≥0)=false by simp only[decide_eq_false_iff_not];omega,cond_false]
    · have q1:=qsv ns (by omega) n c (by omega) (by omega);obtain⟨d7,e1,e2,_⟩:=qcL (ns:=ns) (n:=n) (by omega) (by omega);have hp:=ho.down n.toNat (by omega);have hp2:=ho.low n.toNat (by omega);have hpos:=dpN_pos (ns:=ns) (n:=n) (by omega) (ho.down.mono (by omega));have hb2:=dpN_le (ns:=ns) (n:=n) (ho.down.mono (by omega));have hw:w64 (c+1)=c+1:=qg (by omega) (by omega);rw[hw] at q1;refine .inl ⟨((rpar ns n.toNat,if sibB ns n.toNat=true then c+1 else c,()),()),?_,?_,by simp only;omega⟩
      · unfold qaQ;simp only[show decide (n≥0)=true by simp only[decide_eq_true_eq];omega,cond_true];rw[q1,Option.bind_some,Option.bind_some,e1,Option.bind_some,e2]
      · simp only
        split<;>rename_i hs<;>simp only[hs,if_true,if_false,Bool.false_eq_true] at hpos<;>omega)
  obtain⟨r,q1,q2⟩:=hI (((i:Int),0,()),()) ⟨by simp only;omega,Int.le_refl _,Int.le_refl _,by simp only;omega⟩;unfold qdm;rw[q1,Option.bind_some,q2]
theorem qoo (x:Rec) (h30:x.2.2.1.length≤1000) (ho:Ord x.2.2.1 x.2.2.1.length) (hdp:∀i,i<x.2.2.1.length→dpN x.2.2.1 (i:Int)≤20):iterW (qp x) ((0,()),())=some (.inl ((),())):=by
  have:=qt x.2.2.1 (fun _=>false) (qp x) (.inr 2) (.inl ((),())) (fun i hi=>by
    have e1:=qpt x.2.2.1 h30 hi (ho.mono (by omega));have e2:=hdp i hi;unfold qp;simp only[show decide ((i:Int)<((x.2.2.1.length:Nat):Int))=true by simp;omega,cond_true];rw[e1,Option.bind_some,show decide (dpN x.2.2.1 (i:Int)>20)=false by simp only[decide_eq_false_iff_not];omega,cond_false,qg (by omega) (by omega)]
    rfl) (by unfold qp;simp)
  rw[this,show x.2.2.1.any (fun _=>false)=false from List.any_eq_false.2 (fun _ _ h=>by cases h)];rfl
theorem qlF {e:Nat→Int} {n:Nat} (h:∀i,i<n→e i=0):qr e n=0:=by
  rw[qoq (g:=fun _=>0) h];have key:∀k i,scan (fun i=>nz ((fun _=>(0:Int)) i)) 0 i k=0:=by
    intro k
    induction k with
    | zero=>intro i;rfl
    | succ k ih=>intro i;rw[qjI (fun _=>(0:Int)),if_pos rfl];exact ih (i+1)
  exact key n 0
theorem qih {r:Rules} {x:Rec} (h:qbq r x=0):qr (nErrX r x.2.2.1) x.2.2.1.length=0:=by
  unfold qbq at h
  repeat (split at h;first | contradiction | skip)
  all_goals first | exact h | (exfalso;omega)
theorem qoE {r:Rules} {x:Rec} (h:qbq r x=0):∀i,i<x.2.2.1.length→dpN x.2.2.1 (i:Int)≤20:=fun i hi=>(qjn (qaL (qih h) i hi)).2
theorem qmC {r:Rules} {x:Rec} (h:qbq r x=0):qaX r x=0:=by
  have h1:=qih h;have h2:qr (nErr r x.2.2.1) x.2.2.1.length=0:=qlF fun i hi=>(qjn (qaL h1 i hi)).1;unfold qbq at h;unfold qaX;rw[h2];rw[h1] at h;exact h
theorem qq2 {r:Rules} (hr:Rng qR r) (x:Rec) (hx:Rng tyRec x) (h30:x.2.2.1.length≤200) (h0:qbq r x=0):qM r x=some 0:=by
  have h0':=qmC h0;have hdp:=qoE h0
  suffices hh:qM r x=some (qaX r x) by rw[hh,h0']
  unfold qM qaX;rw[qe4 r [] hr (by simp),Option.bind_some,qgF];have hg:gErr r []=qu r:=by
    unfold gErr qhk;by_cases c:qu r=0
    · rw[if_pos c,c];rfl
    · rw[if_neg c]
  rw[hg];by_cases c:qu r=0
  rotate_left
  · rw[bne_t c,cond_true,if_pos c]
  rw[bne_f c,cond_false,if_neg (fun h=>h c)];rw[show decide (((x.2.2.1.length:Nat):Int)>200)=false by simp only[decide_eq_false_iff_not];omega,Bool.or_false];by_cases c1:10<x.1.length
  · rw[if_pos c1,show decide (((x.1.length:Nat):Int)>10)=true by simp only[decide_eq_true_eq];omega];rfl
  rw[if_neg c1,show decide (((x.1.length:Nat):Int)>10)=false by simp only[decide_eq_false_iff_not];omega,cond_false,qkf x hx];by_cases c2:qr (tErr x.1) x.1.length=0
  rotate_left
  · rw[if_neg c2,if_pos c2]
  rw[if_pos c2,if_neg (fun h=>h c2)];by_cases c3:x.2.2.2.1<0∨3<x.2.2.2.1
  · rw[if_pos c3,show(decide (x.2.2.2.1<0)||decide (x.2.2.2.1>3))=true by simp only[Bool.or_eq_true,decide_eq_true_eq];omega];rfl
  rw[if_neg c3,show(decide (x.2.2.2.1<0)||decide (x.2.2.2.1>3))=false by simp only[Bool.or_eq_false_iff,decide_eq_false_iff_not];omega,cond_false];by_cases hc1:60<x.2.1.size
  · have:cErr x.2.1=2:=by unfold cErr;rw[if_pos hc1]
    rw[show decide (((x.2.1.size:Nat):Int)>60)=true by simp only[decide_eq_true_eq];omega,this];rfl
  rw[show decide (((x.2.1.size:Nat):Int)>60)=false by simp only[decide_eq_false_iff_not];omega,cond_false,qfZ _ _ (by omega) (by decide),Option.bind_some];cases hc2:fineT x.2.1 (ByteArray.mk #[123,125])
  · have:cErr x.2.1=3:=by unfold cErr;rw[if_neg hc1,hc2,if_pos rfl]
    rw[this];rfl
  have hc:cErr x.2.1=0:=by unfold cErr;rw[if_neg hc1,hc2,if_neg (by decide)]
  simp only[hc,ne_eq,not_true,if_false,Bool.not_true,cond_false];have h3:=qmk hr x hx h30 (Option.bind (iterW (qp x) ((0,()),())) (Sum.elim (fun x28=>some 0) some)) x.2.2.1.length 0 (by omega) (fun i hi=>by omega);refine h3.trans ?_;show(if qr (nErr r x.2.2.1) x.2.2.1.length=0 then _ else some (qr (nErr r x.2.2.1) x.2.2.1.length))=some (qr (nErr r x.2.2.1) x.2.2.1.length);by_cases c5:qr (nErr r x.2.2.1) x.2.2.1.length=0
  · rw[if_pos c5,qoo x (by omega) (ord_of c5) hdp,c5];rfl
  · rw[if_neg c5]
theorem qgZ (self self':((List Nat)×Unit×(List (Zv31×(Option (List Nat))))×Zv6×Int×Unit)→Option ((List Nat)×(List (Zv31×(Option (List Nat))))×(List Nat))) (hself:∀x,Le (self x) (self' x)) (r2:List Int) (x:Zv36×ByteArray×Zv20×Int×Unit) (x3:((List Nat)×Int×Unit)×((List Nat)×(List (Zv31×(Option (List Nat))))×Unit)):Le (qK r2 x self x3) (qK r2 x self' x3):=by
  unfold qK
  repeat (first | exact Le.refl _ | assumption | apply hself | apply Le.cond | apply Le.req | apply Le.gopt | apply Le.map | apply Le.agreeW | refine Le.iterW (fun _=>?_) _ | refine Le.bind ?_ (Le.elim (fun _=>?_) (fun _=>?_)) | refine Le.bind ?_ (fun _=>?_))
theorem qjJ:Mono qJ:=by
  intro self self' hself x
  unfold qJ qcp
  repeat (first | exact Le.refl _ | assumption | apply qgZ | apply hself | apply Le.cond | apply Le.req | apply Le.gopt | apply Le.map | apply Le.agreeW | refine Le.iterW (fun _=>?_) _ | refine Le.bind ?_ (Le.elim (fun _=>?_) (fun _=>?_)) | refine Le.bind ?_ (fun _=>?_))
theorem qf1 (self self':(Zv20×Unit×(List ((Zv46×ByteArray×(List Nat)×Unit)×(Option (List Nat))))×(List Nat)×Int×Unit)→Option (Zv20×(List ((Zv46×ByteArray×(List Nat)×Unit)×(Option (List Nat))))×Unit)) (hself:∀x,Le (self x) (self' x)) (l:List Nat) (parent:Int) (x1:Zv52×(Zv14×(List ((Zv46×ByteArray×(List Nat)×Unit)×(Option (List Nat))))×Unit)):Le (qG l parent self x1) (qG l parent self' x1):=by
  unfold qG
  repeat (first | exact Le.refl _ | assumption | apply hself | apply Le.cond | apply Le.req | apply Le.gopt | apply Le.map | apply Le.agreeW | refine Le.iterW (fun _=>?_) _ | refine Le.bind ?_ (Le.elim (fun _=>?_) (fun _=>?_)) | refine Le.bind ?_ (fun _=>?_))
theorem qit:Mono qE:=by
  intro self self' hself x
  unfold qE qbT
  repeat (first | exact Le.refl _ | assumption | apply qf1 | apply hself | apply Le.cond | apply Le.req | apply Le.gopt | apply Le.map | apply Le.agreeW | refine Le.iterW (fun _=>?_) _ | refine Le.bind ?_ (Le.elim (fun _=>?_) (fun _=>?_)) | refine Le.bind ?_ (fun _=>?_))

theorem fix_of {T α:Type} {G:(T→Option α)→T→Option α} (hG:Mono G) {n:Nat} {x:T} {r:α} (h:fixN G n x=some r):fixW G x=some r :=
  Le.fix (fun φ ψ hs y=>hG φ ψ hs y) hG n x _ h
def FlatOK (φ:(List RNode×Unit×ArB×List Nat×Int×Unit)→Option (List RNode×ArB×Unit)) (N:Nat):Prop:=∀(f:Fo) (P:Nat→Prop) (v:List RNode) (ns:ArB) (xs:List Nat) (par:Int),szF f<N→IsF ns P f xs→v.length+szF f≤1000 →
  φ (v,(),ns,xs,par,())=some (v++preF par v.length f,ns,())
theorem qoX (self:(List RNode×Unit×ArB×List Nat×Int×Unit)→Option (List RNode×ArB×Unit)) (N:Nat) (hs:FlatOK self N) (P:Nat→Prop) (ns:ArB) (par:Int) (l:List Nat) (hl:l.length≤1000) :
    ∀(f:Fo) (pre xs:List Nat) (v:List RNode),szF f≤N→l=pre++xs→IsF ns P f xs→v.length+szF f≤1000→iterW (qG l par self) ((((pre.length:Nat):Int),()),((v,()),ns,()))=some ((),((v++preF par v.length f,()),ns,()))
  | .nil,pre,xs,v,_,hr,h,_=>by
    have h:xs=[]:=h;subst h;refine qj ?_;unfold qG;simp only[hr,List.append_nil,show decide (((pre.length:Nat):Int)<((pre.length:Nat):Int))=false by simp,cond_false,preF]
  | .cons m c k r,pre,xs,v,hN,hr,⟨x,xs',ks,e,h0,hp,h1,h2,h3⟩,hv=>by
    subst e;simp only[szF] at hN hv
    have hpl:pre.length<l.length:=by rw[hr];simp
    have hat:at? l ((pre.length:Nat):Int)=some x:=by
      rw[qbM _ _ hpl];simp only[hr];rw[List.getElem_append_right (Nat.le_refl _)];simp
    have hk:=hs k P (v++[(par,m,c,())]) ns ks ((v.length:Nat):Int) (by omega) h2 (by rw[List.length_append,List.length_singleton];omega);rw[List.length_append,List.length_singleton] at hk;have hstep:qG l par self ((((pre.length:Nat):Int),()),((v,()),ns,()))=some (.inl (((((pre++[x]).length:Nat):Int),()),((v++[(par,m,c,())]++preF ((v.length:Nat):Int) (v.length+1) k,()),ns,()))):=by
      unfold qG;simp only[show decide (((pre.length:Nat):Int)<((l.length:Nat):Int))=true by simp;exact hpl,cond_true,hat,Option.bind_some,show Nat.blt 0 x=true by simpa[Nat.blt_eq] using h0,qb,h1];rw[qZ (by simp only[List.length_singleton];omega),qb];have hk':self (v++[(par,(m.1,(m.2.1,(m.2.2.1,()))),c,())],(),ns,ks,((v.length:Nat):Int),())=_:=hk;rw[hk'];simp only[Option.bind_some];rw[qg (n:=((pre.length:Nat):Int)+1) (by omega) (by omega)];simp only[List.length_append,List.length_singleton];rfl
    rw[qo hstep];have:=qoX self N hs P ns par l hl r (pre++[x]) xs' (v++[(par,m,c,())]++preF ((v.length:Nat):Int) (v.length+1) k) (by omega) (by rw[hr,List.append_assoc];rfl) h3 (by simp only[List.length_append,List.length_singleton,qB];omega);rw[this];simp only[preF,List.append_assoc,List.length_append,List.length_singleton,qB,List.cons_append,List.nil_append];simp only[List.length_cons,qB];rw[show v.length+(szF k+1)=v.length+1+szF k by omega]
theorem qrW:∀N,FlatOK (fixN qE N) N
  | 0=>fun f P v ns xs par h=>absurd h (Nat.not_lt_zero _)
  | N+1=>fun f P v ns xs par hN hf hv=>by
    show qbT (fixN qE N) v ns xs par=_;unfold qbT;have:=qoX (fixN qE N) N (qrW N) P ns par xs (by have:=hf.len;have:=rlen_le f;omega) f [] xs v (by omega) rfl hf hv;have this:iterW (qG xs par (fixN qE N)) ((0,()),((v,()),ns,()))=_:=this;rw[this];rfl
theorem flat_spec (f:Fo) (P:Nat→Prop) (ns:ArB) (xs:List Nat) (hf:IsF ns P f xs) (hs:szF f≤1000):qd ns xs=some ((),ns,preF (-1) 0 f):=by
  unfold qd qeX;rw[fix_of qit (qrW (szF f+1) f P [] ns xs (-1) (Nat.lt_succ_self _) hf (by simpa using hs))];rfl
theorem qoZ (f:Fo) (w:List Mv) (c:ByteArray):(w,c)∈wfF [] f↔∃t,t<szF f∧w=wayM (preF (-1) 0 f) (t:Int)∧c=rcom (preF (-1) 0 f) t:=by
  rw[←qiu f,List.mem_map];constructor
  · rintro ⟨t,ht,e⟩
    cases e;exact⟨t,List.mem_range.1 ht,rfl,rfl⟩
  · rintro ⟨t,ht,rfl,rfl⟩
    exact⟨t,List.mem_range.2 ht,rfl⟩
theorem qnh {r:Rules} {ns:List RNode} {i:Nat} (h:nErr r ns i=0):cErr (rcom ns i)=0∧gErr r (wayM ns (i:Int))=0∧twinB ns i=false:=by
  unfold nErr at h;split at h
  · contradiction
  · rename_i h1;split at h
    · cases h
    · split at h
      · cases h
      · rename_i h3;exact⟨by simpa using h1,h,by simpa using h3⟩
theorem qh5 {ns:List RNode} (hd:Down ns ns.length) {i:Nat} (hi:i<ns.length):wayM ns (i:Int)=wayM ns (rpar ns i)++[rmv ns i]:=by
  unfold wayM;rw[qaB (by omega) (hd.mono (by omega)),List.map_cons,List.reverse_cons,Int.toNat_natCast]
def okT (pre:List RTag):List RTag→Prop
  | []=>True
  | t::ts=>tErrD pre t=0∧okT (pre++[t]) ts
theorem okT_iff:∀(ts pre:List RTag),okT pre ts↔∀i (h:i<ts.length),tErrD (pre++ts.take i) ts[i]=0
  | [],pre=>⟨fun _ i h=>by simp at h,fun _=>trivial⟩
  | t::ts,pre=>by
    simp only[okT,okT_iff ts];constructor
    · rintro ⟨h1,h2⟩ i hi
      cases i with
      | zero=>simpa using h1
      | succ i =>
        have:=h2 i (by simpa using hi);simpa using this
    · intro h;have h0:tErrD (pre++[]) t=0:=h 0 (by simp);refine⟨by rwa [List.append_nil] at h0,fun i hi=>?_⟩;have:=h (i+1) (by simpa using hi);simpa using this
theorem okT_firstNZ {ts:List RTag}:qr (tErr ts) ts.length=0↔okT [] ts:=by
  rw[okT_iff];constructor
  · intro h i hi;have:=qaL h i hi
    rwa [qn9 _ _ hi] at this
  · exact fun h=>qlF fun i hi=>by rw[qn9 _ _ hi];exact h i hi
theorem qsT (f:Nat→Int) (n:Nat):qr f n=0∨∃i,i<n∧qr f n=f i:=by
  have key:∀k i:Nat,scan (fun i=>nz (f i)) 0 i k=0∨∃j,j<i+k∧scan (fun i=>nz (f i)) 0 i k=f j:=by
    intro k
    induction k with
    | zero=>exact fun i => .inl rfl
    | succ k ih =>
      intro i;rw[qjI];by_cases e:f i=0
      · rw[if_pos e];rcases ih (i+1) with h | ⟨j,hj,h⟩
        · exact .inl h
        · exact .inr ⟨j,by omega,h⟩
      · rw[if_neg e];exact .inr ⟨i,by omega,rfl⟩
  rcases key n 0 with h | ⟨j,hj,h⟩
  · exact .inl h
  · exact .inr ⟨j,by omega,h⟩
structure RecG (r:Rules) (x:Rec):Prop where
  rule:qu r=0
  few:x.1.length≤10
  tags:okT [] x.1
  res:0≤x.2.2.2.1∧x.2.2.2.1≤3
  com:cErr x.2.1=0
  nodes:∀i,i<x.2.2.1.length→nErr r x.2.2.1 i=0
theorem recG_of {r:Rules} {x:Rec} (h:qaX r x=0):RecG r x:=by
  unfold qaX at h;by_cases c1:qu r=0
  rotate_left
  · rw[if_pos c1] at h;exact absurd h c1
  rw[if_neg (fun h=>h c1)] at h;by_cases c2:10<x.1.length
  · rw[if_pos c2] at h;cases h
  rw[if_neg c2] at h;by_cases c3:qr (tErr x.1) x.1.length=0
  rotate_left
  · rw[if_pos c3] at h;exact absurd h c3
  rw[if_neg (fun h=>h c3)] at h;by_cases c4:x.2.2.2.1<0∨3<x.2.2.2.1
  · rw[if_pos c4] at h;cases h
  rw[if_neg c4] at h;by_cases c5:cErr x.2.1=0
  rotate_left
  · rw[if_pos c5] at h;exact absurd h c5
  rw[if_neg (fun h=>h c5)] at h;exact⟨c1,by omega,okT_firstNZ.1 c3,by omega,c5,qaL h⟩
theorem qjH (f:Fo) (h:szF f≤1000):qc2 (preF (-1) 0 f)=some (kyF [] f):=by
  have hl:=qB f (-1) 0;have ho:=qqg f;generalize hns:preF (-1) 0 f=ns at *;unfold qc2
  have:=qd0 ns.length 1 (qff ns) (fun (i:Nat)=>[wayM ns (i:Int)]) (fun a=>((a,()),())) [] (fun _ _=>Nat.le_refl _) (fun i hi a ha=>by
    simp only[List.length_nil] at ha;unfold qff;simp only[show decide ((i:Int)<((ns.length:Nat):Int))=true by simp;omega,cond_true]
    rw[way3 ns (by omega) (n:=(i:Int)) (by omega) (by omega) (ho.down.mono (by omega)) (fun j hj=>ho.low j (by omega)),Option.bind_some,qZ (by simp only[List.length_cons,List.length_nil];omega),qb,qg (n:=(i:Int)+1) (by omega) (by omega)]) (fun a=>by unfold qff;simp)
  rw[this,Option.bind_some];simp only[List.nil_append,←List.map_eq_flatMap];rw[hl];congr 1;unfold kyF;rw[←qiu f,List.map_map,hns];rfl
theorem qlc (f:Fo) (h:szF f≤1000):∀w∈kyF [] f,w.length≤1000:=fun w hw=>by
  unfold kyF at hw;rw[←qiu f,List.map_map] at hw;obtain⟨t,ht,rfl⟩:=List.mem_map.1 hw;have ht:=List.mem_range.1 ht;simp only[Function.comp];unfold wayM;rw[List.length_reverse,List.length_map];have hd:=qdd f;rw[qB] at hd;have:=qc9 _ (t:Int) (Nat.le_refl _) (hd.mono (j:=((t:Int)+1).toNat) (by omega));omega
theorem kyF_sz (f:Fo):(kyF [] f).length=szF f:=by
  unfold kyF;rw[List.length_map,←qiu f,List.length_map,List.length_range]
theorem qo3 (l:List (List Mv)) (w:List Mv) (hl:l.length≤1000000) (hm:∀v∈l,v.length≤1000000):qe3 l w=some (decide (w∈l)):=by
  unfold qe3
  have:=qt l (fun v=>decide (v=w)) (qcv l w) (.inr true) (.inl ((),())) (fun i hi=>by
    unfold qcv;simp only[show decide ((i:Int)<((l.length:Nat):Int))=true by simp;omega,cond_true];rw[qbM _ _ hi,Option.bind_some,qc0 _ _ (Nat.le_trans (hm _ (List.getElem_mem hi)) (by decide)),Option.bind_some,qg (n:=(i:Int)+1) (by omega) (by omega)]
    rfl) (by unfold qcv;simp)
  rw[this,Option.bind_some];have e:l.any (fun v=>decide (v=w))=decide (w∈l):=by
    rw[Bool.eq_iff_iff,List.any_eq_true];simp
  rw[e]
  cases decide (w∈l)<;>rfl
theorem qsO (x:Rec):qf0 x=some (x.1,(x.2.1,(x.2.2.1.take 30,x.2.2.2))):=by
  unfold qf0;by_cases h:30<((x.2.2.1.length:Nat):Int)
  · simp only[if_pos h];rw[show qm 0 30 x.2.2.1.length=true by simp only[qm,Bool.and_eq_true,decide_eq_true_eq];omega,qb];rfl
  · simp only[if_neg h];rw[show qm 0 ((x.2.2.1.length:Nat):Int) x.2.2.1.length=true by simp only[qm,Bool.and_eq_true,decide_eq_true_eq];omega,qb,Int.toNat_natCast,List.take_length,List.drop_zero,List.take_of_length_le (by omega)]
def demoR:Rec:=([],(ByteArray.mk #[],([(-1,((-1,(0,(0,()))),(ByteArray.mk #[],())))],(0,()))))
theorem demo_rng:Rng tyRec demoR:=qh4 _ _ (by decide +kernel)
theorem demo_ok:qaX qS demoR=0:=by decide +kernel
theorem qri {r:Rules} {x:Rec} (g:RecG r x):Ord x.2.2.1 x.2.2.1.length:=fun i hi=>qgT (g.nodes i hi)
section
variable {r : Rules} (hr : Rng qR r) (x : Rec) (hx : Rng tyRec x) (h30 : x.2.2.1.length ≤ 30)
include hr hx h30
theorem path_spec (node:Int):qcJ r x node=some (if qaX r x≠0 then([],(qaX r x,())) else if node<0∨((x.2.2.1.length:Nat):Int)≤node then([],(1,())) else(wayM x.2.2.1 node,(0,()))):=by
  unfold qcJ qX;rw[qlB hr x hx h30,Option.bind_some];by_cases c:qaX r x=0
  rotate_left
  · rw[bne_t c,cond_true,Option.bind_some,bne_t c,cond_true,if_pos c]
  rw[bne_f c,cond_false,if_neg (fun h=>h c)];by_cases c1:node<0∨((x.2.2.1.length:Nat):Int)≤node
  · rw[if_pos c1,show(decide (node<0)||decide (node≥((x.2.2.1.length:Nat):Int)))=true by simp only[Bool.or_eq_true,decide_eq_true_eq];omega];rfl
  · rw[if_neg c1,show(decide (node<0)||decide (node≥((x.2.2.1.length:Nat):Int)))=false by simp only[Bool.or_eq_false_iff,decide_eq_false_iff_not];omega];have ho:Ord x.2.2.1 x.2.2.1.length:=by
      unfold qaX at c
      repeat (first | (split at c;· contradiction) | exact ord_of c)
    simp only[cond_false,Option.bind_some,bne_self_eq_false];rw[qqw x (by omega) (by omega) (by omega) (ho.down.mono (by omega)),Option.bind_some]
end
theorem qmB:qc5=some true:=by
  unfold qc5;have h:=path_spec tic_rng demoR demo_rng (by decide) 0;rw[if_neg (fun h=>h demo_ok),if_neg (by decide)] at h;have h':qcJ ((qS).1,(((qS).2).1,((((qS).2).2).1,(((((qS).2).2).2).1,((((((qS).2).2).2).2).1,(((((((qS).2).2).2).2).2).1,((((((((qS).2).2).2).2).2).2).1,(((((((((qS).2).2).2).2).2).2).2).1,((((((((((qS).2).2).2).2).2).2).2).2).1,(((((((((((qS).2).2).2).2).2).2).2).2).2).1,((((((((((((qS).2).2).2).2).2).2).2).2).2).2).1,()))))))))))) ([],((ByteArray.mk #[]),([(-1,((qiM 0),((ByteArray.mk #[]),())))],(0,())))) 0=_:=h;rw[h',Option.bind_some];decide +kernel
theorem qmN (s:List RTag) (h:s.length≤1000):qf s=some s:=by
  unfold qf;rw[qZ (by simp only[List.length_nil];omega),qb,List.nil_append]
  cases s with
  | nil=>simp[agree]
  | cons _ _=>rfl
theorem qkX {r:Rules} {x:Rec} (h:qaX r x=0):x.1.length≤10:=by
  unfold qaX at h;split at h
  · contradiction
  · split at h
    · cases h
    · omega
end Go.Proofs.YthidcmjpbokeeaaGreat
namespace Go.Proofs.YthidcmjpbokeeaaGreat
open Go.Den
set_option linter.unusedVariables false
set_option linter.unusedSimpArgs false
set_option maxRecDepth 100000

theorem addO_len (A:ArO') (v:Bo):(addP A v).length=A.length+1:=by simp[addP]
theorem addO_nd (A:ArO') (v:Bo) {x:Nat} (h0:0<x) (h:x≤A.length):ndP (addP A v) dBo x=ndP A dBo x∧kdP (addP A v) dBo x=kdP A dBo x:=by
  unfold ndP kdP addP getD';rw[List.getD_eq_getElem?_getD,List.getD_eq_getElem?_getD,List.getElem?_append_left (by omega)];exact⟨rfl,rfl⟩
theorem addO_new (A:ArO') (v:Bo):ndP (addP A v) dBo (A.length+1)=v:=by
  unfold ndP addP getD';simp
def TreeO (x:Rec) (φ:(List Nat×Unit×ArO'×Rec×Int×Unit)→Option (List Nat×ArO'×List Nat)) (N:Nat):Prop:=∀(f:Fo) (par:Int) (i:Nat) (w:List Nat) (A:ArO'),szF f<N→Full x.2.2.1 par i f→Clo x.2.2.1 i f→w.length=x.2.2.1.length→A.length=i →
  ∃w' A' xs,φ (w,(),A,x,par,())=some (w',A',xs)∧w'.length=w.length∧A'.length=i+szF f∧(∀j,j<i→w'[j]?=w[j]?)∧(∀j,i≤j→j<i+szF f→w'[j]?=some (j+1))∧(∀y,0<y→y≤i→ndP A' dBo y=ndP A dBo y∧kdP A' dBo y=kdP A dBo y)∧IsC A' i f xs
theorem qm8 (x:Rec) (hx:x.2.2.1.length≤1000) (hd:Down x.2.2.1 x.2.2.1.length) (self:(List Nat×Unit×ArO'×Rec×Int×Unit)→Option (List Nat×ArO'×List Nat)) (N:Nat) (hs:TreeO x self N) (par:Int) (r2:List Int) :
    ∀(f:Fo) (i:Nat) (pre:List Int) (out w:List Nat) (A:ArO'),szF f≤N→r2=pre++qjU i f→Seg x.2.2.1 i (preF par i f)→par<(i:Int)→i+szF f≤x.2.2.1.length→Clo x.2.2.1 i f→w.length=x.2.2.1.length→A.length=i→pre.length+szF f≤1000→out.length+szF f≤1000 →
    ∃w' A' xs,iterW (qK r2 x self) ((out,((pre.length:Nat):Int),()),(w,A,()))=some ((out++xs,()),(w',A',()))∧w'.length=w.length∧A'.length=i+szF f∧(∀j,j<i→w'[j]?=w[j]?)∧(∀j,i≤j→j<i+szF f→w'[j]?=some (j+1))∧(∀y,0<y→y≤i→ndP A' dBo y=ndP A dBo y∧kdP A' dBo y=kdP A dBo y)∧IsC A' i f xs
  | .nil,i,pre,out,w,A,_,hr,_,_,_,_,_,hA,_,_=>by
    refine⟨w,A,[],qj ?_,rfl,by simp[szF,hA],fun _ _=>rfl,fun j h1 h2=>by simp only[szF] at h2;omega,fun _ _ _=>⟨rfl,rfl⟩,rfl⟩;unfold qK;simp only[hr,qjU,List.append_nil,show decide (((pre.length:Nat):Int)<((pre.length:Nat):Int))=false by simp,cond_false]
  | .cons m c k r,i,pre,out,w,A,hN,hr,hseg,hp,hl,hc,hw,hA,hpre,hout=>by
    obtain⟨h1,h2,h3⟩:=hseg.parts;obtain⟨hfull,hck,hcr⟩:=Full.sub hd hseg hp hl hc;simp only[szF] at hN hl hpre hout ⊢
    have hi:i<x.2.2.1.length:=by omega
    have hat:at? x.2.2.1 (i:Int)=some (par,m,c,()):=by rw[qbM _ _ hi];rw[List.getElem?_eq_getElem hi] at h1;exact h1
    have hg:getD' r2 ((((pre.length:Nat):Int)).toNat) (0:Int)=(i:Int):=by
      rw[hr,Int.toNat_natCast];unfold getD';rw[List.getD_eq_getElem?_getD,List.getElem?_append_right (Nat.le_refl _),Nat.sub_self];rfl
    have hrl:pre.length<r2.length:=by rw[hr,List.length_append];simp[qjU]
    obtain⟨w1,A1,xs1,e1,e2,e3,ew,ex,e4,e5⟩:=hs k (i:Int) (i+1) (w.set i (A.length+1)) (addP A (m,(c,()))) (by omega) hfull hck (by rw[List.length_set];exact hw) (by rw[addO_len,hA])
    have hl1:i+1≤A1.length:=by omega
    have hn1:ndP A1 dBo (i+1)=(m,(c,())):=by rw[(e4 _ (by omega) (Nat.le_refl _)).1,←hA,addO_new]
    obtain⟨A2,hA2⟩:∃A2,A2=putP A1 dBo (i+1) xs1:=⟨_,rfl⟩
    have hl2:A2.length=i+1+szF k:=by rw[hA2,qja,e3]
    have hstep:qK r2 x self ((out,((pre.length:Nat):Int),()),(w,A,()))=some (.inl ((out++[i+1],(((pre++[(i:Int)]).length:Nat):Int),()),(w1,A2,()))):=by
      unfold qK;simp only[show decide (((pre.length:Nat):Int)<((r2.length:Nat):Int))=true by simp;exact hrl,cond_true,hg,hat,Option.bind_some,show inb ((pre.length:Nat):Int) r2.length=true from inb_iff.2 ⟨by omega,by omega⟩,qb];rw[show inb (i:Int) w.length=true from inb_iff.2 ⟨by omega,by omega⟩,qb];simp only[Option.bind_some,Int.toNat_natCast,e1];rw[show Nat.blt 0 (A.length+1)=true by simp[Nat.blt_eq],qb];rw[qZ (by simp only[List.length_singleton];omega),qb,qg (n:=((pre.length:Nat):Int)+1) (by omega) (by omega)];simp only[List.length_append,List.length_singleton,hA,hA2];rfl
    obtain⟨w2,A3,xs2,g1,g2,g3,gw,gx,g4,g5⟩:=qm8 x hx hd self N hs par r2 r (i+1+szF k) (pre++[(i:Int)]) (out++[i+1]) w1 A2 (by omega) (by rw[hr,qjU,List.append_assoc];rfl) h3 (by omega) (by omega) hcr (by rw[e2,List.length_set];exact hw) hl2 (by rw[List.length_append,List.length_singleton];omega) (by rw[List.length_append,List.length_singleton];omega)
    have hput:∀y,0<y→y≤i+1+szF k→ndP A2 dBo y=ndP A1 dBo y:=fun y h0 h=>by rw[hA2];exact qnD A1 xs1 (by omega) hl1 h0
    have hputk:∀y,0<y→y≠i+1→kdP A2 dBo y=kdP A1 dBo y:=fun y h0 h=>by rw[hA2];exact qjw A1 xs1 (by omega) h0 (fun e=>h e.symm)
    refine⟨w2,A3,(i+1)::xs2,?_,by rw[g2,e2,List.length_set],by rw[g3];omega,fun j hj=>?_,fun j hj1 hj2=>?_,fun y hy1 hy2=>?_,xs2,rfl,by omega,?_,?_,g5⟩
    · rw[qo hstep,g1,List.append_assoc];rfl
    · rw[gw j (by omega),ew j (by omega),List.getElem?_set_ne (by omega)]
    · by_cases c1:j<i+1+szF k
      · rw[gw j c1];by_cases c2:j=i
        · subst c2;rw[ew j (by omega),List.getElem?_set_self (by omega),hA]
        · exact ex j (by omega) (by omega)
      · exact gx j (by omega) (by omega)
    · obtain⟨a1,a2⟩:=g4 y hy1 (by omega);obtain⟨b1,b2⟩:=e4 y hy1 (by omega);obtain⟨c1,c2⟩:=addO_nd A (m,(c,())) hy1 (by omega);exact⟨a1.trans ((hput y hy1 (by omega)).trans (b1.trans c1)),a2.trans ((hputk y hy1 (by omega)).trans (b2.trans c2))⟩
    · rw[(g4 _ (by omega) (by omega)).1,hput _ (by omega) (by omega),hn1]
    · have hk2:kdP A3 dBo (i+1)=xs1:=by rw[(g4 _ (by omega) (by omega)).2,hA2,putP_kd A1 xs1 (by omega) hl1]
      rw[hk2];refine qlx (A:=A1) (by omega) e5 fun y hy1 hy2=>?_;obtain⟨a1,a2⟩:=g4 y (by omega) (by omega);exact⟨a1.trans (hput y (by omega) (by omega)),a2.trans (hputk y (by omega) (by omega))⟩
theorem qpT (x:Rec) (hx:x.2.2.1.length≤1000) (hd:Down x.2.2.1 x.2.2.1.length):∀N,TreeO x (fixN qJ N) N
  | 0=>fun f par i w A h=>absurd h (Nat.not_lt_zero _)
  | N+1=>fun f par i w A hN hf hc hw hA=>by
    obtain⟨h1,h2,h3,h4⟩:=hf;obtain⟨w',A',xs,e1,e2,e3,e4,e5,e6,e7⟩:=qm8 x hx hd (fixN qJ N) N (qpT x hx hd N) par (kidsI x.2.2.1 par) f i [] [] w A (by omega) (by rw[Full.kids ⟨h1,h2,h3,h4⟩];rfl) h1 h2 h3 hc hw hA (by simp;omega) (by simp;omega);refine⟨w',A',xs,?_,e2,e3,e4,e5,e6,e7⟩;show qcp (fixN qJ N) w A x par=_;unfold qcp;rw[qeK x par hx,Option.bind_some];have e1:iterW (qK (kidsI x.2.2.1 par) x (fixN qJ N)) (([],0,()),(w,A,()))=_:=e1;rw[e1];simp only[Option.bind_some,List.nil_append]
theorem qsG (x:Rec) (f:Fo) (hf:x.2.2.1=preF (-1) 0 f) (w:List Nat) (hw:w.length=szF f) (hs:szF f≤1000) :
    ∃w' A' xs,qcG w [] x (-1)=some (w',A',xs)∧A'.length=szF f∧w'.length=szF f∧(∀j,j<szF f→w'[j]?=some (j+1))∧IsC A' 0 f xs:=by
  have hlen:x.2.2.1.length=szF f:=by rw[hf,qB]
  have hd:Down x.2.2.1 x.2.2.1.length:=by rw[hf];exact qdd f
  have hfull:Full x.2.2.1 (-1) 0 f:=⟨⟨[],by rw[hf];simp⟩,by omega,by omega,fun j hj _=>⟨by omega,by omega⟩⟩;obtain⟨w',A',xs,e1,e2,e3,_,e5,_,e7⟩:=qpT x (by omega) hd (szF f+1) f (-1) 0 w [] (Nat.lt_succ_self _) hfull (fun j h1 h2=>by omega) (by omega) rfl;exact⟨w',A',xs,fix_of qjJ e1,by omega,by omega,fun j hj=>e5 j (by omega) (by omega),e7⟩
def cvO (A:ArO'):ArB:=List.map (fun (x:Bo×Option (List Nat))=>((x.1.1,(x.1.2.1,(x.2.getD [],()))),(none:Option (List Nat)))) A
theorem cvO_nd (A:ArO') (x:Nat):ndP (cvO A) dBn x=((ndP A dBo x).1,((ndP A dBo x).2.1,(kdP A dBo x,()))):=by
  unfold ndP kdP cvO getD';rw[List.getD_eq_getElem?_getD,List.getD_eq_getElem?_getD,List.getElem?_map]
  cases A[x-1]?<;>rfl
theorem cvO_is {A:ArO'}:∀ {f:Fo} {T:List Nat},IsO A f T→IsF (cvO A) (fun _=>True) f T
  | .nil,_,h=>h
  | .cons m c k r,T,⟨x,xs,e,h0,h1,h2,h3⟩=>⟨x,xs,kdP A dBo x,e,h0.1,trivial,by rw[cvO_nd,h1],cvO_is h2,cvO_is h3⟩
theorem qjk {A:ArO'} {f:Fo} {T:List Nat} (h:IsO A f T) (hs:szF f≤1000):qd (cvO A) T=some ((),cvO A,preF (-1) 0 f):=flat_spec f _ _ T (cvO_is h) hs
set_option maxHeartbeats 2000000

theorem qkN (L:List Nat) (v:Nat) (g:((Int×Unit)×Unit)→Option (((Int×Unit)×Unit) ⊕ ((Unit×Unit) ⊕ ((Int×Unit)×Unit)))) (hg:∀i:Int,g ((i,()),())=bif (decide (i<((L.length:Nat):Int))) then(req (inb i L.length) (bif (Nat.beq v (getD' L (i.toNat) 0)) then some (Sum.inr (Sum.inr ((i,()),()))) else some (Sum.inl (((w64 (i+(1:Int))),()),())))) else some (Sum.inr (Sum.inl ((),()))))
    {T1 T2:List Nat} (hL:L=T1++v::T2) (hn:v∉T1) (hl:L.length≤1000):iterW g ((0,()),())=some (.inr ((((T1.length:Nat):Int),()),())):=by
  have hlen:L.length=T1.length+(T2.length+1):=by rw[hL];simp
  have key:∀n i:Nat,i+n=T1.length→iterW g ((((i:Nat):Int),()),())=some (.inr ((((T1.length:Nat):Int),()),())):=by
    intro n
    induction n with
    | zero =>
      intro i hi
      have hi:i=T1.length:=by omega
      subst hi;refine qj ?_;have e:getD' L (((T1.length:Nat):Int)).toNat 0=v:=by
        rw[Int.toNat_natCast,hL];unfold getD';rw[List.getD_eq_getElem?_getD,List.getElem?_append_right (Nat.le_refl _),Nat.sub_self];rfl
      rw[hg,e,show decide (((T1.length:Nat):Int)<((L.length:Nat):Int))=true by simp only[decide_eq_true_eq];omega,show inb ((T1.length:Nat):Int) L.length=true from inb_iff.2 ⟨by omega,by omega⟩];simp[req]
    | succ n ih =>
      intro i hi
      have hi1:i<T1.length:=by omega
      have e:getD' L (((i:Nat):Int)).toNat 0=T1[i]:=by
        rw[Int.toNat_natCast,hL];unfold getD';rw[List.getD_eq_getElem?_getD,List.getElem?_append_left hi1,List.getElem?_eq_getElem hi1];rfl
      have hne:Nat.beq v T1[i]=false:=Bool.eq_false_iff.2 fun h=>hn (by rw[Nat.eq_of_beq_eq_true h];exact List.getElem_mem hi1);rw[qo (y:=((((i+1:Nat):Int),()),()))]
      · exact ih (i+1) (by omega)
      · rw[hg,e,show decide (((i:Nat):Int)<((L.length:Nat):Int))=true by simp only[decide_eq_true_eq];omega,show inb ((i:Nat):Int) L.length=true from inb_iff.2 ⟨by omega,by omega⟩,hne,qg (n:=((i:Nat):Int)+1) (by omega) (by omega)];simp[req]
  exact key T1.length 0 (by omega)
theorem qoa {A:ArO'}:∀ {f:Fo} {T:List Nat},IsO A f T→T.length≤szF f
  | .nil,_,h=>by rw[show _=[] from h];simp
  | .cons m c k r,T,⟨x,xs,e,_,_,_,h3⟩=>by have:=qoa h3;rw[e,List.length_cons];simp only[szF];omega
theorem sp_len {A:ArO'} {m' m:Mv} {q x:Nat}:∀ {s:List (Mv×Nat)} {f:Fo} {T:List Nat},Sp A f T (s++[(m',q),(m,x)])→(kdP A dBo q).length≤szF f
  | [],f,T,⟨f1,c,k,f2,S1,S2,e1,e2,h1,h2,h3,h4,h5⟩=>by
    have:=qoa (sp_is h5);subst e1;simp only[qj3,szF];omega
  | (m0,x0)::s,f,T,⟨f1,c,k,f2,S1,S2,e1,e2,h1,h2,h3,h4,h5⟩=>by
    have:=sp_len h5;subst e1;simp only[qj3,szF];omega
theorem qqS {ns:List RNode} {m' m:Mv} {q x:Nat}:∀ {s:List (Mv×Nat)} {par:Int},ChN ns par (s++[(m',q),(m,x)])→(0<q∧0<x∧rpar ns (x-1)=(q:Int)-1)∧ChN ns par (s++[(m',q)])
  | [],par,⟨h1,h2,h3,h4,h5,h6,_⟩=>⟨⟨h1,h4,h5⟩,h1,h2,h3,trivial⟩
  | (m0,x0)::s,par,⟨h1,h2,h3,h4⟩=>by
    obtain⟨g1,g2⟩:=qqS h4;exact⟨g1,h1,h2,h3,g2⟩
theorem chN_way {ns:List RNode} (hd:Down ns ns.length) {m:Mv} {x:Nat}:∀ {s:List (Mv×Nat)} {par:Int},ChN ns par (s++[(m,x)])→(∀q∈s++[(m,x)],q.2≤ns.length)→wayM ns ((x:Int)-1)=wayM ns par++(s.map (·.1)++[m])
  | [],par,⟨h1,h2,h3,_⟩,hb=>by
    have hx:=hb (m,x) (by simp);have:=qh5 hd (i:=x-1) (by simp at hx;omega);rw[show(((x-1:Nat)):Int)=(x:Int)-1 by omega] at this;rw[this,h2,h3];rfl
  | (m0,x0)::s,par,⟨h1,h2,h3,h4⟩,hb=>by
    have hx:=hb (m0,x0) (by simp);have:=qh5 hd (i:=x0-1) (by simp at hx;omega);rw[show(((x0-1:Nat)):Int)=(x0:Int)-1 by omega] at this;rw[chN_way hd h4 (fun q hq=>hb q (by simp at hq ⊢;exact .inr hq)),this,h2,h3];simp
theorem getW {w:List Nat} {n j:Nat} (hw:∀j,j<n→w[j]?=some (j+1)) (hj:j<n):getD' w j 0=j+1:=by
  unfold getD';rw[List.getD_eq_getElem?_getD,hw j hj];rfl
theorem qkH {T1 T2:List Nat} {x:Nat}:(T1++x::T2).take (((T1.length:Nat):Int)).toNat++(T1++x::T2).drop ((((T1.length:Nat):Int)+1)).toNat=T1++T2:=by
  rw[Int.toNat_natCast,show(((T1.length:Nat):Int)+1).toNat=T1.length+1 by omega,List.take_left];rw[show T1++x::T2=(T1++[x])++T2 by simp,show T1.length+1=(T1++[x]).length by simp,List.drop_left]
section
variable {r : Rules} (hr : Rng qR r) (x : Rec) (hx : Rng tyRec x) (h30 : x.2.2.1.length ≤ 30)
include hr hx h30
theorem qf7 (node:Int):qX r x node=some (if qaX r x≠0 then qaX r x else if node<0∨((x.2.2.1.length:Nat):Int)≤node then 1 else 0):=by
  unfold qX;rw[qlB hr x hx h30,Option.bind_some];by_cases c:qaX r x=0
  rotate_left
  · rw[bne_t c,cond_true,if_pos c]
  rw[bne_f c,cond_false,if_neg (fun h=>h c)];by_cases c1:node<0∨((x.2.2.1.length:Nat):Int)≤node
  · rw[if_pos c1,show(decide (node<0)||decide (node≥((x.2.2.1.length:Nat):Int)))=true by simp only[Bool.or_eq_true,decide_eq_true_eq];omega];rfl
  · rw[if_neg c1,show(decide (node<0)||decide (node≥((x.2.2.1.length:Nat):Int)))=false by simp only[Bool.or_eq_false_iff,decide_eq_false_iff_not];omega];rfl
end
def zeroK:Rec:=([],(ByteArray.mk #[],([],(0,()))))
def wiK (x:Rec) (f:Fo):Rec:=(x.1,(x.2.1,(preF (-1) 0 f,x.2.2.2)))
theorem room_n (n:Nat) (hn:n≤1000):(decide (0≤((n:Nat):Int))&&((((n:Nat):Int)==((n:Nat):Int))&&room (((n:Nat):Int)).toNat 8))=true:=by
  rw[beq_self_eq_true,qZ (by omega)];simp
theorem qrP {x:Rec} {f:Fo} (hf:x.2.2.1=preF (-1) 0 f) (h30:x.2.2.1.length≤30) {n:Nat} (hn:n<x.2.2.1.length) :
    ∃w' A xs s m,qcG (List.replicate (((x.2.2.1.length:Nat):Int)).toNat (0:Nat)) ([]:ArO') x (-1:Int)=some (w',A,xs)∧A.length=x.2.2.1.length∧w'.length=x.2.2.1.length∧(∀j,j<x.2.2.1.length→w'[j]?=some (j+1))∧Sp A f xs (s++[(m,n+1)])∧(labO A f xs).Nodup∧ChN x.2.2.1 (-1) (s++[(m,n+1)])∧wayM x.2.2.1 ((n:Nat):Int)=s.map (·.1)++[m]:=by
  have hlen:x.2.2.1.length=szF f:=by rw[hf,qB]
  obtain⟨w',A,xs,e1,e2,e3,e4,e5⟩:=qsG x f hf (List.replicate (((x.2.2.1.length:Nat):Int)).toNat (0:Nat)) (by rw[List.length_replicate];omega) (by omega)
  have hd:Down x.2.2.1 x.2.2.1.length:=by rw[hf];exact qdd f
  obtain⟨s,m,g1,g2⟩:=qk1 e5 (ns:=x.2.2.1) (par := -1) ⟨[],by rw[hf];simp⟩ n (Nat.zero_le _) (by omega);refine⟨w',A,xs,s,m,e1,by omega,by omega,fun j hj=>e4 j (by omega),g1,by rw[qqT e5];exact List.nodup_range',g2,?_⟩
  have:=chN_way hd g2 (fun q hq=>by
    have:=(qgN (sp_is g1) q.2 (qrU g1 q hq)).2
    omega)
  rw[show(((n+1:Nat)):Int)-1=((n:Nat):Int) by omega] at this;rw[this];have:wayM x.2.2.1 (-1)=[]:=by
    unfold wayM;rw[qbm _ (by omega)];rfl
  rw[this,List.nil_append]
theorem cut_spec {r:Rules} (hr:Rng qR r) (x:Rec) (hx:Rng tyRec x) (h30:x.2.2.1.length≤30) (c:qaX r x=0) {f:Fo} (hf:x.2.2.1=preF (-1) 0 f) {n:Nat} (hn:n<x.2.2.1.length) :
    ∃t m f',wayM x.2.2.1 ((n:Nat):Int)=t++[m]∧ChF (RemF m) t f f'∧szF f'≤szF f∧qbE r x ((n:Nat):Int)=some (wiK x f',(0,())):=by
  obtain⟨w,A,T,s,m,e1,e2,e3,e4,e5,e6,e7,e8⟩:=qrP hf h30 hn
  have hlen:x.2.2.1.length=szF f:=by rw[hf,qB]
  have k1:=qmN x.1 (by have:=qkX c;omega);have hat:at? x.2.2.1 ((n:Nat):Int)=some x.2.2.1[n]:=qbM _ _ hn
  have hpar:x.2.2.1[n].1=rpar x.2.2.1 n:=by simp[rpar,hn]
  have hck:=qf7 hr x hx h30 ((n:Nat):Int);rw[if_neg (fun h=>h c),if_neg (by omega)] at hck
  have hgn:getD' w (((n:Nat):Int)).toNat 0=n+1:=by rw[Int.toNat_natCast];exact getW e4 hn
  have hin:inb ((n:Nat):Int) w.length=true:=inb_iff.2 ⟨by omega,by omega⟩;rcases List.eq_nil_or_concat s with rfl | ⟨s',⟨m',q⟩,rfl⟩
  · obtain⟨T1,T2,t1,t2,_,f',t3,t4,_⟩:=sp_top e5 e6;have hsz:szF f'≤szF f:=by
      obtain⟨f1,c',k,f2,rfl,rfl⟩:=t3;simp only[qj3,szF];omega
    refine⟨[],m,f',e8,t3,hsz,?_⟩
    have hp:rpar x.2.2.1 n = -1:=by have:=e7.2.1;simpa using this
    have hTl:=qoa (sp_is e5);have hidx:=qkN T (n+1) (qeo (w,A,T) ((n:Nat):Int)) (fun i=>by unfold qeo;simp only[hgn]) t1 t2 (by omega)
    have hTT:T.length=T1.length+(T2.length+1):=by rw[t1];simp
    have hfl:=qjk t4 (by omega);unfold qbE;rw[hck,Option.bind_some,bne_self_eq_false,cond_false,room_n _ (by omega),qb,e1,Option.bind_some,hat,Option.bind_some,hpar,hp,show decide ((-1:Int)≥0)=false by rfl,cond_false];simp only[hin,qb,hidx,Option.bind_some,Sum.elim_inr];rw[qg (n:=((T1.length:Nat):Int)+1) (by omega) (by omega)];rw[show(decide (0≤((T1.length:Nat):Int))&&(decide (((T1.length:Nat):Int)≤((T1.length:Nat):Int)+1)&&decide (((T1.length:Nat):Int)+1≤((T.length:Nat):Int))))=true by simp only[Bool.and_eq_true,decide_eq_true_eq];omega,qb];have hcut:=@qkH T1 T2 (n+1);rw[←t1] at hcut;rw[hcut]
    have hfl':qd (List.map (fun (x:((Int×Int×Int×Unit)×ByteArray×Unit)×Option (List Nat))=>((x.1.1,(x.1.2.1,(x.2.getD [],()))),(none:Option (List Nat)))) A) (T1++T2)=_:=hfl;simp only[hfl',k1,Option.bind_some,agree_self];rfl
  · rw[List.concat_eq_append] at e5 e7 e8;rw[List.append_assoc] at e5 e7;have e5:Sp A f T (s'++[(m',q),(m,n+1)]):=e5;have e7:ChN x.2.2.1 (-1) (s'++[(m',q),(m,n+1)]):=e7;obtain⟨T1,T2,t1,t2,t0,_,f',t3,t4,_⟩:=qqi e5 e6;obtain⟨⟨q0,_,hp⟩,_⟩:=qqS e7;rw[Nat.add_sub_cancel] at hp
    have hq:q≤x.2.2.1.length:=by omega
    have hgq:getD' w (((q:Nat):Int)-1).toNat 0=q:=by
      rw[show(((q:Nat):Int)-1).toNat=q-1 by omega,getW e4 (by omega)];omega
    have hinq:inb (((q:Nat):Int)-1) w.length=true:=inb_iff.2 ⟨by omega,by omega⟩;have hKl:=sp_len e5;have hidx:=qkN (kdP A dBo q) (n+1) (qeq (w,A,T) x.2.2.1[n] ((n:Nat):Int)) (fun i=>by unfold qeq;simp only[hgn,hpar,hp,hgq]) t1 t2 (by omega)
    have hTT:(kdP A dBo q).length=T1.length+(T2.length+1):=by rw[t1];simp
    have hsz:szF f'≤szF f:=by
      have key:∀ {t:List Mv} {f f':Fo},ChF (RemF m) t f f'→szF f'≤szF f:=by
        intro t
        induction t with
        | nil =>
          rintro f f' ⟨f1,c',k,f2,rfl,rfl⟩
          simp only[qj3,szF];omega
        | cons y t ih =>
          rintro f f' ⟨f1,c',k,k',f2,rfl,rfl,h⟩
          have:=ih h;simp only[qj3,szF];omega
      exact key t3
    refine⟨s'.map (·.1)++[m'],m,f',by rw[e8];simp,t3,hsz,?_⟩;have hfl:=qjk t4 (by omega);unfold qbE;rw[hck,Option.bind_some,bne_self_eq_false,cond_false,room_n _ (by omega),qb,e1,Option.bind_some,hat,Option.bind_some,hpar,hp,show decide (((q:Nat):Int)-1≥0)=true by simp only[decide_eq_true_eq];omega,cond_true];simp only[hgq];rw[hinq,qb,show Nat.blt 0 q=true by simpa[Nat.blt_eq] using q0,qb];simp only[hin,qb,hidx,Option.bind_some,Sum.elim_inr];rw[qg (n:=((T1.length:Nat):Int)+1) (by omega) (by omega)]
    rw[show(decide (0≤((T1.length:Nat):Int))&&(decide (((T1.length:Nat):Int)≤((T1.length:Nat):Int)+1)&&decide (((T1.length:Nat):Int)+1≤(((kdP A dBo q).length:Nat):Int))))=true by simp only[Bool.and_eq_true,decide_eq_true_eq];omega,qb,show Nat.beq (q-1) (q-1)=true by simp,qb];have hcut:=@qkH T1 T2 (n+1);rw[←t1] at hcut;rw[hcut];have hfl':qd (List.map (fun (x:((Int×Int×Int×Unit)×ByteArray×Unit)×Option (List Nat))=>((x.1.1,(x.1.2.1,(x.2.getD [],()))),(none:Option (List Nat)))) (putP A dBo q (T1++T2))) T=_:=hfl;simp only[hfl',k1,Option.bind_some,agree_self];rfl
end Go.Proofs.YthidcmjpbokeeaaGreat
namespace Go.Proofs.YthidcmjpbokeeaaGreat
open Go.Den
set_option linter.unusedVariables false
set_option linter.unusedSimpArgs false
set_option maxRecDepth 100000
set_option maxHeartbeats 2000000

theorem qng {T1 T2:List Nat} {x:Nat}:(T1++T2).take 0++([x]++(T1++T2).drop 0)=x::(T1++T2):=by simp
theorem ins_req {T1 T2:List Nat} {x:Nat} (h:T1.length+T2.length≤1000):(decide (0≤(0:Int))&&(decide ((0:Int)≤(((T1++T2).length:Nat):Int))&&(Nat.blt 0 [x].length&&room ((T1++T2).length+[x].length) 8)))=true:=by
  rw[qZ (by simp only[List.length_append,List.length_singleton];omega)];simp[Nat.blt_eq];omega
theorem del_req {L T1 T2:List Nat} {x:Nat} (hL:L=T1++x::T2):(decide (0≤((T1.length:Nat):Int))&&(decide (((T1.length:Nat):Int)≤((T1.length:Nat):Int)+1)&&decide (((T1.length:Nat):Int)+1≤((L.length:Nat):Int))))=true:=by
  have:L.length=T1.length+(T2.length+1):=by rw[hL];simp
  simp only[Bool.and_eq_true,decide_eq_true_eq];omega
theorem qfT (x:Rec) (hl:x.2.2.1.length≤30) (w:List Nat) (B:ArO'×List Nat) (hw:∀j,j<x.2.2.1.length→w[j]?=some (j+1)) (hwl:w.length=x.2.2.1.length) :
    ∀(N:Nat) (s:List (Mv×Nat)) (A:ArO') (f:Fo) (T:List Nat) (n:Int),s.length=N→Sp A f T s→(labO A f T).Nodup→A.length=x.2.2.1.length→Dis f→szF f≤1000→ChN x.2.2.1 (-1) s→(s=[]→n = -1)→(∀s' m y,s=s'++[(m,y)]→n=((y:Nat):Int)-1) →
      ∃A' T' f',iterW (qC x (w,B)) ((n,()),(A,(T,()),()))=some ((),(A',(T',()),()))∧ProF (s.map (·.1)) f f'∧IsO A' f' T'
  | 0,s,A,f,T,n,hN,h1,h2,h3,h4,h5,h6,h7,h8=>by
    have:s=[]:=List.eq_nil_of_length_eq_zero hN;subst this;have:=h7 rfl;subst this;refine⟨A,T,f,qj ?_,.nil f,h1⟩;unfold qC;rfl
  | N+1,s,A,f,T,n,hN,h1,h2,h3,h4,h5,h6,h7,h8=>by
    rcases List.eq_nil_or_concat s with rfl | ⟨s',⟨m,y⟩,rfl⟩
    · simp at hN
    rw[List.concat_eq_append] at hN h1 h6 h8;rw[List.concat_eq_append];have hn:=h8 s' m y rfl;subst hn
    have hN':s'.length=N:=by simpa using hN
    have hy:=qgN (sp_is h1) y (qrU h1 (m,y) (by simp))
    have hyl:y-1<x.2.2.1.length:=by omega
    have hgy:getD' w (((y:Nat):Int)-1).toNat 0=y:=by
      rw[show(((y:Nat):Int)-1).toNat=y-1 by omega,getW hw hyl];omega
    have hin:inb (((y:Nat):Int)-1) w.length=true:=inb_iff.2 ⟨by omega,by omega⟩;have hat:at? x.2.2.1 (((y:Nat):Int)-1)=some x.2.2.1[y-1]:=by
      rw[show((y:Nat):Int)-1=((y-1:Nat):Int) by omega];exact qbM _ _ hyl
    have hpar:x.2.2.1[y-1].1=rpar x.2.2.1 (y-1):=by simp[rpar,hyl]
    have hge:decide (((y:Nat):Int)-1≥0)=true:=by simp only[decide_eq_true_eq];omega
    rcases List.eq_nil_or_concat s' with rfl | ⟨s2,⟨m',q⟩,rfl⟩
    · have h1:Sp A f T [(m,y)]:=h1;have h6:ChN x.2.2.1 (-1) [(m,y)]:=h6;obtain⟨T1,T2,t1,t2,⟨f',t3,t4,t5⟩,_⟩:=sp_top h1 h2;have hp:rpar x.2.2.1 (y-1) = -1:=h6.2.1;have hTl:=qoa (sp_is h1);obtain⟨d1,d2,_,_⟩:=qiD (t:=[]) h4 t3;have hidx:=qkN T y (qbZ ((((y:Nat):Int)-1,()),(A,(T,()),())) (w,B)) (fun i=>by unfold qbZ;simp only[hgy]) t1 t2 (by omega)
      have hTT:T.length=T1.length+(T2.length+1):=by rw[t1];simp
      have hcut:=@qkH T1 T2 y;rw[←t1] at hcut;have hstep:qC x (w,B) ((((y:Nat):Int)-1,()),(A,(T,()),()))=some (.inl ((-1,()),(A,(y::(T1++T2),()),()))):=by
        unfold qC;simp only[hge,cond_true,hat,Option.bind_some,hpar,hp,show decide ((-1:Int)≥0)=false by rfl,cond_false,hin,qb,hidx,Sum.elim_inr,hgy];rw[qg (n:=((T1.length:Nat):Int)+1) (by omega) (by omega)];simp only[del_req t1,qb,hcut,qng,agree_self]
        erw [ins_req (T1:=T1) (T2:=T2) (x:=y) (by omega)]
        rfl
      obtain⟨A',T',f2,g1,g2,g3⟩:=qfT x hl w B hw hwl N [] A f' (y::(T1++T2)) (-1) hN' t4 (t5.nodup_iff.2 h2) h3 d1 (by omega) trivial (fun _=>rfl) (fun s' m' y' e=>by simp at e);refine⟨A',T',f2,(qo hstep).trans g1,?_,g3⟩;exact .snoc (t:=[]) t3 g2
    · rw[List.concat_eq_append] at h1 h6 hN';rw[List.append_assoc] at h1 h6;rw[List.concat_eq_append];have h1:Sp A f T (s2++[(m',q),(m,y)]):=h1;have h6:ChN x.2.2.1 (-1) (s2++[(m',q),(m,y)]):=h6;obtain⟨T1,T2,t1,t2,t0,⟨f',t3,t4,t5⟩,_⟩:=qqi h1 h2;obtain⟨⟨q0,_,hp⟩,hch⟩:=qqS h6
      have hq:q≤x.2.2.1.length:=by omega
      obtain⟨d1,d2,_,_⟩:=qiD h4 t3;have hgq:getD' w (((q:Nat):Int)-1).toNat 0=q:=by
        rw[show(((q:Nat):Int)-1).toNat=q-1 by omega,getW hw (by omega)];omega
      have hinq:inb (((q:Nat):Int)-1) w.length=true:=inb_iff.2 ⟨by omega,by omega⟩;have hKl:=sp_len h1;have hidx:=qkN (kdP A dBo q) y (qbO ((((y:Nat):Int)-1,()),(A,(T,()),())) (w,B) x.2.2.1[y-1]) (fun i=>by unfold qbO;simp only[hgy,hpar,hp,hgq]) t1 t2 (by omega)
      have hTT:(kdP A dBo q).length=T1.length+(T2.length+1):=by rw[t1];simp
      have hcut:=@qkH T1 T2 y;rw[←t1] at hcut;have hstep:qC x (w,B) ((((y:Nat):Int)-1,()),(A,(T,()),()))=some (.inl ((((q:Nat):Int)-1,()),(putP A dBo q (y::(T1++T2)),(T,()),()))):=by
        unfold qC;simp only[hge,cond_true,hat,Option.bind_some,hpar,hp,show decide (((q:Nat):Int)-1≥0)=true by simp only[decide_eq_true_eq];omega,hgq,hinq,qb,show Nat.blt 0 q=true by simpa[Nat.blt_eq] using q0,hin,hidx,Sum.elim_inr,hgy];rw[qg (n:=((T1.length:Nat):Int)+1) (by omega) (by omega)];simp only[del_req t1,qb,hcut,qng,show Nat.beq (q-1) (q-1)=true by simp,agree_self]
        erw [ins_req (T1:=T1) (T2:=T2) (x:=y) (by omega)]
        rfl
      obtain⟨A',T',f2,g1,g2,g3⟩:=qfT x hl w B hw hwl N (s2++[(m',q)]) (putP A dBo q (y::(T1++T2))) f' T (((q:Nat):Int)-1) hN' t4 (t5.nodup_iff.2 h2) (by rw[qja];exact h3) d1 (by omega) hch (fun e=>by simp at e) (fun s' m2 y' e=>by
        have:=(List.append_inj' e rfl).2;simp at this
        omega)
      refine⟨A',T',f2,(qo hstep).trans g1,?_,g3⟩;rw[List.map_append] at g2 ⊢;rw[List.map_append];exact .snoc (by simpa using t3) g2
theorem qpU {r:Rules} (hr:Rng qR r) (x:Rec) (hx:Rng tyRec x) (h30:x.2.2.1.length≤30) (c:qaX r x=0) {f:Fo} (hf:x.2.2.1=preF (-1) 0 f) (hd:Dis f) {n:Nat} (hn:n<x.2.2.1.length) :
    ∃f',ProF (wayM x.2.2.1 ((n:Nat):Int)) f f'∧(Rng tyRec (wiK x f')→qaC r x ((n:Nat):Int)=some (if qbq r (wiK x f')≠0 then(zeroK,(qbq r (wiK x f'),())) else(wiK x f',(0,())))):=by
  obtain⟨w,A,T,s,m,e1,e2,e3,e4,e5,e6,e7,e8⟩:=qrP hf h30 hn
  have hlen:x.2.2.1.length=szF f:=by rw[hf,qB]
  have k1:=qmN x.1 (by have:=qkX c;omega);have hck:=qf7 hr x hx h30 ((n:Nat):Int);rw[if_neg (fun h=>h c),if_neg (by omega)] at hck
  obtain⟨A',T',f',g1,g2,g3⟩:=qfT x h30 w (A,T) e4 e3 _ (s++[(m,n+1)]) A f T ((n:Nat):Int) rfl e5 e6 e2 hd (by omega) e7 (fun e=>by simp at e) (fun s' m' y' e=>by
    have:=(List.append_inj' e rfl).2;simp at this
    omega)
  have hpro:ProF (wayM x.2.2.1 ((n:Nat):Int)) f f':=by
    rw[e8];simpa using g2
  refine⟨f',hpro,fun hz=>?_⟩;obtain⟨_,hsz,_⟩:=qrh hpro hd;have hfl:=qjk g3 (by omega);have hfl':qd (List.map (fun (x:((Int×Int×Int×Unit)×ByteArray×Unit)×Option (List Nat))=>((x.1.1,(x.1.2.1,(x.2.getD [],()))),(none:Option (List Nat)))) A') T'=_:=hfl;have hsp:=qpA hr (wiK x f') hz (by show(preF (-1) 0 f').length≤200;rw[qB];omega);unfold qaC;rw[hck,Option.bind_some,bne_self_eq_false,cond_false,room_n _ (by omega),qb,e1,Option.bind_some];have g1:iterW (qC x (w,A,T)) ((((n:Nat):Int),()),(A,(T,()),()))=_:=g1;simp only[g1,Option.bind_some,hfl',k1,agree_self];have hwk:(x.1,(x.2.1,(preF (-1) 0 f',x.2.2.2)))=wiK x f':=rfl;simp only[hwk]
  have hsd:qbj r (wiK x f')=some (if qbq r (wiK x f')≠0 then(zeroK,(qbq r (wiK x f'),())) else(wiK x f',(0,()))):=by
    unfold qbj;rw[hsp,Option.bind_some];by_cases e:qbq r (wiK x f')=0
    · rw[if_neg (fun h=>h e),e];rfl
    · rw[if_pos e,bne_t e,cond_true];rfl
  have hsd':qbj r ((wiK x f').1,((wiK x f').2.1,((wiK x f').2.2.1,(wiK x f').2.2.2)))=_:=hsd;rw[hsd];simp only[Option.bind_some]
end Go.Proofs.YthidcmjpbokeeaaGreat
