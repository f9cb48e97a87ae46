/- AnnotateCuts: the plain law. No condition of its own. -/
import Derived.Test.YthidcmjpbokeeaaGreatMAF
namespace Go.Proofs.YthidcmjpbokeeaaGreat
open Go.Den
set_option linter.unusedVariables false
set_option linter.unusedSimpArgs false
set_option maxRecDepth 100000
set_option maxHeartbeats 2000000

theorem qoO {A:Type} (d:A) (p:A→Bool) (xs:List A):(List.range xs.length).flatMap (fun i=>bif p (getD' xs i d) then [getD' xs i d] else [])=xs.filter p:=by
  have e:xs=(List.range xs.length).map (fun i=>getD' xs i d):=by
    apply List.ext_getElem?;intro i;rw[List.getElem?_map];by_cases h:i<xs.length
    · simp[h,getD']
    · simp[h]
  conv=>rhs;rw[e]
  rw[List.filter_map,List.map_eq_flatMap];generalize List.range xs.length=l
  induction l with
  | nil=>rfl
  | cons i l ih =>
    rw[List.flatMap_cons,ih,List.filter_cons];simp only[Function.comp];by_cases h:p (getD' xs i d)=true
    · rw[if_pos h,h];simp
    · rw[if_neg h,Bool.eq_false_iff.2 h];simp
theorem left_loop (l:List (List Mv)) (w:List Mv) (b:Bool×Unit) (hl:l.length≤1000) (hm:∀v∈l,v.length≤1000) (hw:w.length≤1000):iterW (qap l (w,b)) (([],(0:Int),()),())=some ((l.filter (fun v=>!begB w v),()),()):=by
  have:=qd0 l.length 1 (qap l (w,b)) (fun i=>bif !begB w (getD' l i []) then [getD' l i []] else []) (fun a=>((a,()),())) [] (fun i _=>by cases !begB w (getD' l i [])<;>simp) (fun i hi a ha=>by
    simp only[List.length_nil] at ha;have hmem:getD' l i []∈l:=by
      unfold getD';rw[List.getD_eq_getElem?_getD,List.getElem?_eq_getElem hi];exact List.getElem_mem hi
    have hvl:=hm _ hmem;unfold qap;simp only[show decide ((i:Int)<((l.length:Nat):Int))=true by simp;omega,cond_true,Int.toNat_natCast,show inb ((i:Nat):Int) l.length=true from inb_iff.2 ⟨by omega,by omega⟩,qb];obtain⟨v,hv⟩:∃v,getD' l i []=v:=⟨_,rfl⟩;simp only[hv] at hmem hvl ⊢;have hbeg:(decide (((v.length:Nat):Int)<((w.length:Nat):Int)) || !decide (v.take w.length=w)) = !begB w v:=by
      unfold begB;by_cases h:v.length<w.length
      · rw[show decide (((v.length:Nat):Int)<((w.length:Nat):Int))=true by simp only[decide_eq_true_eq];omega,Bool.true_or]
        have:¬w=v.take w.length:=fun e=>by have:=congrArg List.length e;rw[List.length_take] at this;omega
        rw[decide_eq_false this];rfl
      · rw[show decide (((v.length:Nat):Int)<((w.length:Nat):Int))=false by simp only[decide_eq_false_iff_not];omega,Bool.false_or];congr 1;exact decide_eq_decide.2 ⟨Eq.symm,Eq.symm⟩
    have hb:imp (!decide (((v.length:Nat):Int)<((w.length:Nat):Int))) (qm 0 ((w.length:Nat):Int) v.length)=true:=by
      by_cases h:v.length<w.length
      · rw[show decide (((v.length:Nat):Int)<((w.length:Nat):Int))=true by simp only[decide_eq_true_eq];omega];rfl
      · rw[show decide (((v.length:Nat):Int)<((w.length:Nat):Int))=false by simp only[decide_eq_false_iff_not];omega];simp only[imp,Bool.not_false,cond_true,qm,Bool.and_eq_true,decide_eq_true_eq];omega
    rw[hb,qb];obtain⟨q,hq,hqe⟩:∃q,gopt (!decide (((v.length:Nat):Int)<((w.length:Nat):Int))) false (qav ((v.take w.length).drop 0) w)=some q∧(decide (((v.length:Nat):Int)<((w.length:Nat):Int)) || !q) = !begB w v:=by
      by_cases h:v.length<w.length
      · refine⟨false,?_,?_⟩
        · rw[show decide (((v.length:Nat):Int)<((w.length:Nat):Int))=true by simp only[decide_eq_true_eq];omega];rfl
        · rw[←hbeg,show decide (((v.length:Nat):Int)<((w.length:Nat):Int))=true by simp only[decide_eq_true_eq];omega];rfl
      · refine⟨decide (v.take w.length=w),?_,hbeg⟩;rw[show decide (((v.length:Nat):Int)<((w.length:Nat):Int))=false by simp only[decide_eq_false_iff_not];omega];show qav ((v.take w.length).drop 0) w=_;rw[List.drop_zero,qc0 _ _ (by rw[List.length_take];omega)]
    rw[hq,Option.bind_some,hqe,qg (n:=(i:Int)+1) (by omega) (by omega)];cases !begB w v
    · simp
    · rw[cond_true,qZ (by simp only[List.length_singleton];omega),qb]
      rfl) (fun a=>by unfold qap;simp)
  have hf:=qoO (A:=List Mv) [] (fun v=>!begB w v) l;rw[this,List.nil_append];exact congrArg (fun q=>some ((q,()),())) hf
theorem same_loop (l:List (List Mv)) (u v:Unit) (hl:l.length≤1000) (hm:∀v∈l,v.length≤1000):iterW (qan l ((l,u),v)) ((0,()),())=some (.inl ((),())):=by
  have:=qt l (fun _=>false) (qan l ((l,u),v)) (.inr false) (.inl ((),())) (fun i hi=>by
    have hmem:getD' l (((i:Nat):Int)).toNat []∈l:=by
      rw[Int.toNat_natCast];unfold getD';rw[List.getD_eq_getElem?_getD,List.getElem?_eq_getElem hi];exact List.getElem_mem hi
    unfold qan;simp only[show decide ((i:Int)<((l.length:Nat):Int))=true by simp only[decide_eq_true_eq];omega,cond_true];rw[show inb (i:Int) l.length=true from inb_iff.2 ⟨by omega,by omega⟩,qb,qb,qc0 _ _ (Nat.le_trans (hm _ hmem) (by decide)),Option.bind_some,qg (n:=(i:Int)+1) (by omega) (by omega)]
    simp) (by unfold qan;simp)
  rw[this,show l.any (fun _=>false)=false from List.any_eq_false.2 (fun _ _ h=>by cases h)];rfl
theorem qsY (l:List (List Mv)) (w:List Mv) (b:Bool×Unit) (hl:l.length≤1000) (hm:∀v∈l,v.length≤1000) (hw:∀i,i<w.length→l[i]?=some (w.take (i+1))) (hw2:w.length≤1000):iterW (qak (w,b) l) ((0,()),())=some (.inl ((),())):=by
  have:=qt w (fun _=>false) (qak (w,b) l) (.inr false) (.inl ((),())) (fun i hi=>by
    have h1:=hw i hi;have hil:=(List.getElem?_eq_some_iff.1 h1).1;have hg:getD' l (((i:Nat):Int)).toNat []=w.take (i+1):=by
      rw[Int.toNat_natCast];unfold getD';rw[List.getD_eq_getElem?_getD,h1];rfl
    unfold qak;simp only[show decide ((i:Int)<((w.length:Nat):Int))=true by simp only[decide_eq_true_eq];omega,cond_true];rw[show inb (i:Int) l.length=true from inb_iff.2 ⟨by omega,by omega⟩,qb,qg (n:=(i:Int)+1) (by omega) (by omega),show qm 0 ((i:Int)+1) w.length=true by simp only[qm,Bool.and_eq_true,decide_eq_true_eq];omega,qb,hg,show((i:Int)+1).toNat=i+1 by omega,List.drop_zero,qc0 _ _ (by rw[List.length_take];omega),Option.bind_some]
    simp) (by unfold qak;simp)
  rw[this,show w.any (fun _=>false)=false from List.any_eq_false.2 (fun _ _ h=>by cases h)];rfl
theorem kept_loop (l a:List (List Mv)) (hl:l.length≤1000) (ha:a.length≤1000) (hm:∀v∈a,v.length≤1000) (h:∀v∈l,v∈a):iterW (qao l a) ((0,()),())=some (.inl ((),())):=by
  have:=qt l (fun _=>false) (qao l a) (.inr false) (.inl ((),())) (fun i hi=>by
    have hmem:getD' l (((i:Nat):Int)).toNat []∈a:=by
      rw[Int.toNat_natCast];unfold getD';rw[List.getD_eq_getElem?_getD,List.getElem?_eq_getElem hi];exact h _ (List.getElem_mem hi)
    unfold qao;simp only[show decide ((i:Int)<((l.length:Nat):Int))=true by simp only[decide_eq_true_eq];omega,cond_true];rw[show inb (i:Int) l.length=true from inb_iff.2 ⟨by omega,by omega⟩,qb,qo3 a _ (by omega) (fun v hv=>Nat.le_trans (hm v hv) (by decide)),Option.bind_some,decide_eq_true hmem,qg (n:=(i:Int)+1) (by omega) (by omega)]
    rfl) (by unfold qao;simp)
  rw[this,show l.any (fun _=>false)=false from List.any_eq_false.2 (fun _ _ h=>by cases h)];rfl
theorem qp8 {r:Rules} {x:Rec} {f f':Fo} (gx:RecG r x) (ex:x.2.2.1=preF (-1) 0 f) (hd:Dis f') (hm:∀w c,(w,c)∈wfF [] f'→(w,c)∈wfF [] f):qbq r (wiK x f')=0∨qbq r (wiK x f')=2:=by
  have hn:∀i,i<szF f'→nErr r (preF (-1) 0 f') i=0:=fun i hi=>by
    have h:=hm _ _ ((qoZ f' _ _).2 ⟨i,hi,rfl,rfl⟩);have ho:=qqg f' i (by rw[qB];exact hi);have ht:=pre_twin f' hd i hi;obtain⟨t,h1,h2,h3⟩:=(qoZ f _ _).1 h;obtain⟨p1,p2,_⟩:=qnh (gx.nodes t (by rw[ex,qB];exact h1));rw[ex,←h3] at p1;rw[ex,←h2] at p2;unfold nErr;rw[if_neg (fun h=>h p1),if_neg (by rw[ho];decide),if_neg (by rw[ht];decide)];exact p2
  unfold qbq;rw[if_neg (fun h=>h gx.rule)];by_cases c2:10<(wiK x f').1.length
  · rw[if_pos c2];exact .inr rfl
  have ht:qr (tErr (wiK x f').1) (wiK x f').1.length=0:=okT_firstNZ.2 gx.tags;have hres:¬((wiK x f').2.2.2.1<0∨3<(wiK x f').2.2.2.1):=by
    have h1:=gx.res;show ¬(x.2.2.2.1<0∨3<x.2.2.2.1);omega
  have hcom:cErr (wiK x f').2.1=0:=gx.com;rw[if_neg c2,if_neg (fun h=>h ht),if_neg hres,if_neg (fun h=>h hcom)];rcases qsT (nErrX r (wiK x f').2.2.1) (wiK x f').2.2.1.length with h | ⟨i,hi,h⟩
  · exact .inl h
  · rw[h];have hi:i<szF f':=by
      have:i<(preF (-1) 0 f').length:=hi
      rwa [qB] at this
    have h0:nErr r (wiK x f').2.2.1 i=0:=hn i hi;unfold nErrX;rw[if_neg (fun h=>h h0)];split
    · exact .inr rfl
    · exact .inl rfl
theorem rng_pro {x:Rec} {f f':Fo} (rx:Rng tyRec x) (h30:x.2.2.1.length≤30) (ex:x.2.2.1=preF (-1) 0 f) (hs:szF f'=szF f) (hm:∀w c,(w,c)∈wfF [] f'→(w,c)∈wfF [] f):Rng tyRec (wiK x f'):=by
  have lx:szF f=x.2.2.1.length:=by rw[ex,qB]
  refine⟨rx.1,rx.2.1,⟨?_,fun d hd=>?_⟩,rx.2.2.2⟩
  · show(preF (-1) 0 f').length≤Go.maxLen;rw[qB];exact Nat.le_trans (show _≤60 by omega) (by decide)
  · have hd:d∈preF (-1) 0 f':=hd;obtain⟨i,hi,rfl⟩:=List.mem_iff_getElem.1 hd;have hi':i<szF f':=by
      have h9:i<List.length (α:=RNode) (preF (-1) 0 f'):=hi;rw[qB] at h9;exact h9
    obtain⟨n1,n2,n3⟩:=qch hi;have ho:=qqg f';have hdn:=ho.down i hi;have hlo:=ho.low i hi;have h:=hm _ _ ((qoZ f' _ _).2 ⟨i,hi',rfl,rfl⟩);obtain⟨t,h1,h2,h3⟩:=(qoZ f _ _).1 h;have hl:=qh5 (qdd f') (i:=i) hi;rw[hl,qh5 (qdd f) (i:=t) (by rw[qB];exact h1)] at h2
    have h2:rmv (preF (-1) 0 f') i=rmv (preF (-1) 0 f) t:=by simpa using (List.append_inj' h2 rfl).2
    have hlt:t<(preF (-1) 0 f).length:=by rw[qB];exact h1
    have hr:Rng tyNode (preF (-1) 0 f)[t]:=by
      have:=rx.2.2.1.2;rw[ex] at this;exact this _ (List.getElem_mem hlt)
    obtain⟨q1,q2,q3⟩:=qch hlt;have key:Rng tyMv (preF (-1) 0 f')[i].2.1∧(preF (-1) 0 f')[i].2.2.1.size≤Go.maxLen:=by
      rw[n2,n3,h2,h3,←q2,←q3];exact⟨hr.2.1,hr.2.2.1⟩
    have hp:Rng (.int .i64) (preF (-1) 0 f')[i].1:=by
      rw[n1];refine⟨?_,?_⟩
      · show IntKind.min .i64≤_;rw[show IntKind.min .i64 = -9223372036854775808 from rfl];omega
      · show _≤IntKind.max .i64;rw[show IntKind.max .i64=9223372036854775807 from rfl];omega
    exact⟨hp,key.1,key.2,trivial⟩
theorem law3AnnotateCuts_true (r:Rules) (x:Rec) (node:Int) (hr:Rng qR r) (hx:Rng tyRec x) (hnode:Rng (.int .i64) node):qcN r x node=some true:=by
  obtain⟨x',ex,x30,xr⟩:∃y:Rec,qf0 x=some y∧y.2.2.1.length≤30∧Rng tyRec y:=by
    refine⟨_,qsO x,?_,⟨hx.1,hx.2.1,⟨?_,fun d hd=>hx.2.2.1.2 d (List.mem_of_mem_take hd)⟩,hx.2.2.2⟩⟩
    · show(x.2.2.1.take 30).length≤30;rw[List.length_take];omega
    · have:=hx.2.2.1.1;show(x.2.2.1.take 30).length≤_;rw[List.length_take];exact Nat.le_trans (Nat.min_le_right _ _) this
  unfold qcN;rw[qmB,Option.bind_some,ex];simp only[Bool.not_true,cond_false,Option.bind_some];cases hg:qgb r
  rotate_left
  · rfl
  simp only[cond_false];have hck:=qf7 hr x' xr x30 node;have hfa:=qs0 hr x' xr x30;have herr:∀e:Int,e≠0→qX r x' node=some e→qbE r x' node=some (zeroK,(e,()))∧qaC r x' node=some (zeroK,(e,())):=fun e he h=>by
    constructor
    · unfold qbE;rw[h,Option.bind_some,bne_t he,cond_true];rfl
    · unfold qaC;rw[h,Option.bind_some,bne_t he,cond_true];rfl
  by_cases c:qaX r x'=0
  rotate_left
  · rw[if_pos c] at hck;obtain⟨g1,g2⟩:=herr _ c hck;rw[g1,g2,hfa];simp only[Option.bind_some];rw[show(qaX r x'==0)=false by simpa using c,Bool.false_and,cond_false];simp only[Option.bind_some];rw[bne_t c,cond_true,beq_self_eq_true];rfl
  rw[if_neg (fun h=>h c)] at hck;by_cases c1:node<0∨((x'.2.2.1.length:Nat):Int)≤node
  · rw[if_pos c1] at hck;obtain⟨g1,g2⟩:=herr _ (by decide) hck;rw[g1,g2,hfa,c];simp only[Option.bind_some];rw[show(decide (node<0)||decide (node≥((x'.2.2.1.length:Nat):Int)))=true by simp only[Bool.or_eq_true,decide_eq_true_eq];omega];rfl
  obtain⟨n,rfl⟩:∃n:Nat,node=(n:Int):=⟨node.toNat,by omega⟩
  have hn:n<x'.2.2.1.length:=by omega
  have gx:=recG_of c;obtain⟨f,nx,dx⟩:=qsL (qri gx) (fun j hj=>(qnh (gx.nodes j hj)).2.2)
  have sx:szF f=x'.2.2.1.length:=by have:=qB f (-1) 0;rw[←nx] at this;omega
  obtain⟨t,m,f1,w1,w2,w3,w4⟩:=cut_spec hr x' xr x30 c nx hn;obtain⟨f2,p1,p2⟩:=qpU hr x' xr x30 c nx dx hn;obtain⟨d2,s2,m2⟩:=qrh p1 dx;have hrz:=rng_pro xr x30 nx s2 (fun w c h=>(m2 [] w c).1 h);have p2:=p2 hrz;have h02:=qp8 gx nx d2 (fun w c h=>(m2 [] w c).1 h)
  have hd:Down x'.2.2.1 x'.2.2.1.length:=by rw[nx];exact qdd f
  have ho:Ord x'.2.2.1 x'.2.2.1.length:=qri gx;have hway:=way3 x'.2.2.1 (by omega) (n:=((n:Nat):Int)) (by omega) (by omega) (hd.mono (by omega)) (fun j hj=>ho.low j (by omega));have q1:=qjH f (by omega);have q2:=qjH f1 (by omega);have q3:=qjH f2 (by omega);rw[←nx] at q1;have l1:=kyF_sz f;have l2:=kyF_sz f1;have l3:=kyF_sz f2;have hwl:(wayM x'.2.2.1 ((n:Nat):Int)).length≤1000:=by
    refine qlc f (by omega) _ ?_;unfold kyF;refine List.mem_map.2 ⟨(wayM x'.2.2.1 ((n:Nat):Int),rcom x'.2.2.1 n),?_,rfl⟩;rw[nx];exact(qoZ f _ _).2 ⟨n,by omega,rfl,rfl⟩
  have hrem:=qr4 (p:=[]) dx w2;rw[List.nil_append,←w1] at hrem;have hleft:=left_loop (kyF [] f) (wayM x'.2.2.1 ((n:Nat):Int)) (true,()) (by omega) (qlc f (by omega)) hwl;rw[←hrem] at hleft;have hsame:=same_loop (kyF [] f1) () () (by omega) (qlc f1 (by omega));rw[w4,p2,hfa,c];simp only[Option.bind_some];rw[show(decide (((n:Nat):Int)<0)||decide (((n:Nat):Int)≥((x'.2.2.1.length:Nat):Int)))=false by simp only[Bool.or_eq_false_iff,decide_eq_false_iff_not];omega,Bool.and_false,cond_false];simp only[Option.bind_some,bne_self_eq_false,cond_false,hway,q1,hleft];have q2':qc2 (wiK x' f1).2.2.1=some (kyF [] f1):=q2;have q3':qc2 (wiK x' f2).2.2.1=some (kyF [] f2):=q3;rw[q2'];simp only[Option.bind_some,bne_self_eq_false,Bool.or_self,cond_false,hsame,Sum.elim_inl];rcases h02 with h0 | h2
  rotate_left
  · rw[h2,if_pos (by decide)];rfl
  rw[h0,if_neg (fun h=>h rfl)];simp only[bne_self_eq_false,cond_false];rw[q3']
  have hzl:(wiK x' f2).2.2.1.length≤200:=by show(preF (-1) 0 f2).length≤200;rw[qB];omega
  have hfz:=qq2 hr (wiK x' f2) hrz hzl h0;have hln:(((((kyF [] f2).length:Nat):Int))!=((x'.2.2.1.length:Nat):Int))=false:=by
    rw[show(kyF [] f2).length=x'.2.2.1.length by omega];exact bne_self_eq_false _
  simp only[Option.bind_some,hln,Bool.not_false];have hgo:gopt true (0:Int) (qM r (wiK x' f2))=some 0:=hfz;rw[hgo]
  have hfirst:=qsY (kyF [] f2) (wayM x'.2.2.1 ((n:Nat):Int)) (true,()) (by omega) (qlc f2 (by omega)) (fun i hi=>by
    have:=qrF [] dx p1 i hi
    rwa [List.nil_append] at this) hwl
  have hkept:=kept_loop (kyF [] f) (kyF [] f2) (by omega) (by omega) (qlc f2 (by omega)) (fun v hv=>by
    unfold kyF at hv ⊢;obtain⟨⟨w,c⟩,h1,rfl⟩:=List.mem_map.1 hv
    exact List.mem_map.2 ⟨(w,c),(m2 [] w c).2 h1,rfl⟩)
  simp only[Option.bind_some,bne_self_eq_false,Bool.or_self,cond_false,hfirst,Sum.elim_inl,hkept]
end Go.Proofs.YthidcmjpbokeeaaGreat

