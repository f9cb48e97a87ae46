/- Several texts in one: AnnL, AnnM, AnnotateMergesL. -/
import Derived.Test.YthidcmjpbokeeaaGreatMAG
import Derived.Test.YthidcmjpbokeeaaGreatMAF
namespace Go.Proofs.YthidcmjpbokeeaaGreat
open Go.Den
set_option linter.unusedVariables false
set_option linter.unusedSimpArgs false
set_option maxRecDepth 100000
set_option maxHeartbeats 1000000

theorem qeA (f:Fo) (h:szF f≤1000):qL (preF (-1) 0 f)=some (kyF [] f):=by
  have hl:=qu f (-1) 0;have ho:=qp9 f;generalize hns:preF (-1) 0 f=ns at *;unfold qL
  have:=qfe ns.length 1 (qft ns) (fun (i:Nat)=>[wayM ns (i:Int)]) (fun a=>((a,()),())) [] (fun _ _=>Nat.le_refl _) (fun i hi a ha=>by
    simp only[List.length_nil] at ha;unfold qft;simp only[show decide ((i:Int)<((ns.length:Nat):Int))=true by simp;omega,cond_true]
    rw[way3 ns (by omega) (n:=(i:Int)) (by omega) (by omega) (ho.down.mono (by omega)) (fun j hj=>ho.low j (by omega)),Option.bind_some,qR (by simp only[List.length_cons,List.length_nil];omega),qd,qg (n:=(i:Int)+1) (by omega) (by omega)]) (fun a=>by unfold qft;simp)
  rw[this,Option.bind_some];simp only[List.nil_append,←List.map_eq_flatMap];rw[hl];congr 1;unfold kyF;rw[←qe2 f,List.map_map,hns];rfl
theorem qlP (f:Fo) (h:szF f≤1000):∀w∈kyF [] f,w.length≤1000:=fun w hw=>by
  unfold kyF at hw;rw[←qe2 f,List.map_map] at hw;obtain⟨t,ht,rfl⟩:=List.mem_map.1 hw;have ht:=List.mem_range.1 ht;simp only[Function.comp];unfold wayM;rw[List.length_reverse,List.length_map];have hd:=qea f;rw[qu] at hd;have:=qdg _ (t:Int) (Nat.le_refl _) (hd.mono (j:=((t:Int)+1).toNat) (by omega));omega
theorem qis (f:Fo):(kyF [] f).length=szF f:=by
  unfold kyF;rw[List.length_map,←qe2 f,List.length_map,List.length_range]
theorem qgg (l:List (List Mv)) (w:List Mv) (hl:l.length≤1000000) (hm:∀v∈l,v.length≤1000000):qcr l w=some (decide (w∈l)):=by
  unfold qcr
  have:=qt l (fun v=>decide (v=w)) (qcB l w) (.inr true) (.inl ((),())) (fun i hi=>by
    unfold qcB;simp only[show decide ((i:Int)<((l.length:Nat):Int))=true by simp;omega,cond_true];rw[qbj _ _ hi,Option.bind_some,qfl _ _ (Nat.le_trans (hm _ (List.getElem_mem hi)) (by decide)),Option.bind_some,qg (n:=(i:Int)+1) (by omega) (by omega)]
    rfl) (by unfold qcB;simp)
  rw[this,Option.bind_some];have e:l.any (fun v=>decide (v=w))=decide (w∈l):=by
    rw[Bool.eq_iff_iff,List.any_eq_true];simp
  rw[e]
  cases decide (w∈l)<;>rfl
theorem qfv {r:Rules} (hr:Rng qX r) (x y z:Rec) (e:Int) (hx:Rng tyRec x) (hy:Rng tyRec y) (h30:x.2.2.1.length≤30) (h31:y.2.2.1.length≤30) :
    iterW (qaf ((),(x,(y,()))) r (z,(e,()))) ((0,()),())=some (if qP r x≠0 then .inr ((e==qP r x)&&((w64 (((z.2.2.1.length:Nat):Int)+((z.1.length:Nat):Int)))==0)) else if qP r y≠0 then .inr ((e==qP r y)&&((w64 (((z.2.2.1.length:Nat):Int)+((z.1.length:Nat):Int)))==0)) else .inl ((),())):=by
  have ex:=qm7 hr x hx h30;have ey:=qm7 hr y hy h31;have s0:qaf ((),(x,(y,()))) r (z,(e,())) ((0,()),())=Option.bind (qA r x) fun r12=>bif (r12 !=0) then some (.inr (.inr ((e==r12)&&((w64 (((z.2.2.1.length:Nat):Int)+((z.1.length:Nat):Int)))==0)))) else some (.inl ((w64 (0+1),()),())):=rfl;have s1:qaf ((),(x,(y,()))) r (z,(e,())) ((1,()),())=Option.bind (qA r y) fun r12=>bif (r12 !=0) then some (.inr (.inr ((e==r12)&&((w64 (((z.2.2.1.length:Nat):Int)+((z.1.length:Nat):Int)))==0)))) else some (.inl ((w64 (1+1),()),())):=rfl;have s2:qaf ((),(x,(y,()))) r (z,(e,())) ((2,()),())=some (.inr (.inl ((),()))):=rfl;rw[ex,Option.bind_some] at s0;rw[ey,Option.bind_some] at s1;by_cases c:qP r x=0
  · rw[if_neg (fun h=>h c)];rw[c] at s0;rw[ql (y:=((1,()),())) (by rw[s0];rfl)];by_cases d:qP r y=0
    · rw[if_neg (fun h=>h d)];rw[d] at s1;rw[ql (y:=((2,()),())) (by rw[s1];rfl),qh s2]
    · rw[if_pos d];rw[bne_t d,cond_true] at s1;rw[qh s1]
  · rw[if_pos c];rw[bne_t c,cond_true] at s0;rw[qh s0]
theorem all_loop (a b c:List (List Mv)) (ha:a.length+b.length≤1000) (hc:c.length≤1000) (hm:∀v∈c,v.length≤1000) (h:∀v∈a++b,v∈c):iterW (qah ((a,(b,(c,()))),())) ((0,()),())=some (.inl ((),())):=by
  have hlen:((([]:List (List Mv))++a)++b).length=a.length+b.length:=by simp
  have:=qt ((([]:List (List Mv))++a)++b) (fun _=>false) (qah ((a,(b,(c,()))),())) (.inr false) (.inl ((),())) (fun i hi=>by
    have hmem:getD' ((([]:List (List Mv))++a)++b) (((i:Nat):Int)).toNat []∈c:=by
      rw[Int.toNat_natCast];unfold getD';rw[List.getD_eq_getElem?_getD,List.getElem?_eq_getElem hi];refine h _ ?_;simp
    unfold qah;simp only[show decide ((i:Int)<((((([]:List (List Mv))++a)++b).length:Nat):Int))=true by simp only[decide_eq_true_eq];omega,cond_true];rw[show inb (i:Int) ((([]:List (List Mv))++a)++b).length=true from inb_iff.2 ⟨by omega,by omega⟩,qd,qgg c _ (by omega) (fun v hv=>Nat.le_trans (hm v hv) (by decide)),Option.bind_some,decide_eq_true hmem,qg (n:=(i:Int)+1) (by omega) (by omega)]
    rfl) (by
    unfold qah
    simp)
  rw[this,show((([]:List (List Mv))++a)++b).any (fun _=>false)=false from List.any_eq_false.2 (fun _ _ h=>by cases h)];rfl

theorem wfF_sz (f:Fo):(wfF [] f).length=szF f:=by rw[←qe2 f,List.length_map,List.length_range]
theorem wfF_at (f:Fo) {i:Nat} (h:i<(wfF [] f).length):(wfF [] f)[i]=(wayM (preF (-1) 0 f) (i:Int),rcom (preF (-1) 0 f) i):=by
  have:(wfF [] f)[i]?=some (wayM (preF (-1) 0 f) (i:Int),rcom (preF (-1) 0 f) i):=by
    rw[←qe2 f,List.getElem?_map,List.getElem?_range (by rw[wfF_sz] at h;exact h)];rfl
  rw[List.getElem?_eq_getElem h] at this;exact Option.some.inj this
def sd1 (f:Fo) (w:List Mv):Option ByteArray:=match lookF f w with
  | some c=>if c.toList=[] then none else some c
  | none=>none
theorem said_in (x y:Rec) (w:List Mv) (x1:(Int×Unit)×Unit) (f:Fo) (hd:Dis f) (hs:szF f≤1000) (hn:(getD' ([x,y]) ((x1.1.1).toNat) ([],(ByteArray.empty,([],((0:Int),()))))).2.2.1=preF (-1) 0 f) :
    iterW (qbK (kyF [] f) w x y x1) ((0,()),())=some (match sd1 f w with | some c => .inr (.inr (.inr (.inr c))) | none => .inl ((),())):=by
  have hl:=qu f (-1) 0;have hz:=wfF_sz f
  have key:=qt (wfF [] f) (fun v=>decide (v.1=w) && !(v.2.toList==[])) (qbK (kyF [] f) w x y x1) (.inr (.inr (.inr (.inr ((lookF f w).getD ByteArray.empty))))) (.inl ((),())) (fun i hi=>by
    have hi':i<szF f:=by rw[hz] at hi;exact hi
    have hat:=wfF_at f hi;have hg:getD' (kyF [] f) (((i:Nat):Int)).toNat []=(wfF [] f)[i].1:=by
      rw[Int.toNat_natCast];unfold getD' kyF;rw[List.getD_eq_getElem?_getD,List.getElem?_map,List.getElem?_eq_getElem hi];rfl
    have hwl:(wfF [] f)[i].1.length≤1000:=qlP f hs _ (List.mem_map.2 ⟨_,List.getElem_mem hi,rfl⟩);have hns:at? (preF (-1) 0 f) (i:Int)=some ((preF (-1) 0 f)[i]'(by omega)):=qbj _ _ (by omega)
    have hcm:((preF (-1) 0 f)[i]'(by omega)).2.2.1=(wfF [] f)[i].2:=by rw[hat];exact(qbN (by omega)).2.2
    unfold qbK;simp only[show decide ((i:Int)<(((kyF [] f).length:Nat):Int))=true by simp only[decide_eq_true_eq,qis];omega,cond_true];rw[show inb (i:Int) (kyF [] f).length=true from inb_iff.2 ⟨by omega,by rw[qis];omega⟩,qd,hg,qfl _ _ (by omega),Option.bind_some,hn];by_cases e:(wfF [] f)[i].1=w
    · have hlook:lookF f w=some (wfF [] f)[i].2:=by
        obtain⟨t,ht,h2⟩:=(qcy f [] (wfF [] f)[i].1 (wfF [] f)[i].2 hd).1 (List.getElem_mem hi);rw[List.nil_append] at ht;rw[←e,ht];exact h2
      have he:(ByteArray.mk #[]).toList=[]:=by decide +kernel
      rw[decide_eq_true e,he];have hgat:∀z,gat true z (preF (-1) 0 f) (i:Int)=at? (preF (-1) 0 f) (i:Int):=fun z=>rfl;rw[hgat,hns,Option.bind_some,hcm,hlook];cases ((wfF [] f)[i].2.toList==[])
      · simp only[Bool.true_and,Bool.not_false,cond_true,Option.bind_some,hcm,Option.getD_some]
      · simp only[Bool.true_and,Bool.not_true,cond_false];rw[qg (n:=(i:Int)+1) (by omega) (by omega)];rfl
    · rw[decide_eq_false e];have hgat:∀z:RNode,gat false z (preF (-1) 0 f) (i:Int)=some z:=fun z=>rfl;rw[hgat,Option.bind_some,qg (n:=(i:Int)+1) (by omega) (by omega)]
      rfl) (by
    unfold qbK
    simp only[show decide ((((wfF [] f).length:Nat):Int)<(((kyF [] f).length:Nat):Int))=false by simp only[decide_eq_false_iff_not,qis,hz];omega,cond_false])
  rw[key];have hany:(wfF [] f).any (fun v=>decide (v.1=w) && !(v.2.toList==[]))=(sd1 f w).isSome:=by
    rw[Bool.eq_iff_iff,List.any_eq_true];unfold sd1;constructor
    · rintro ⟨⟨v,c⟩,hv,hp⟩
      simp only[Bool.and_eq_true,decide_eq_true_eq,Bool.not_eq_true'] at hp;obtain⟨rfl,hp⟩:=hp;obtain⟨t,ht,h2⟩:=(qcy f [] v c hd).1 hv;rw[List.nil_append] at ht;rw[ht,h2]
      have:c.toList≠[]:=by simpa using hp
      simp[this]
    · intro h
      cases h2:lookF f w with
      | none=>rw[h2] at h;cases h
      | some c =>
        rw[h2] at h;by_cases e:c.toList=[]
        · simp[e] at h
        · exact⟨(w,c),(qcy f [] w c hd).2 ⟨w,rfl,h2⟩,by simp[e]⟩
  rw[hany];unfold sd1
  cases lookF f w with
  | none=>rfl
  | some c =>
    by_cases e:c.toList=[]
    · simp[e]
    · simp[e]
theorem said_spec (x y:Rec) (w:List Mv) (fx fy:Fo) (hx:Dis fx) (hy:Dis fy) (sx:szF fx≤1000) (sy:szF fy≤1000) (ex:x.2.2.1=preF (-1) 0 fx) (ey:y.2.2.1=preF (-1) 0 fy) :
    qiR x y w=some (match sd1 fx w with | some c=>c | none=>match sd1 fy w with | some c=>c | none=>ByteArray.mk #[]):=by
  have wx:=qeA fx sx;have wy:=qeA fy sy;rw[←ex] at wx;rw[←ey] at wy;have i0:=said_in x y w ((0,()),()) fx hx sx ex;have i1:=said_in x y w ((1,()),()) fy hy sy ey;have s0:qck x y w ((0,()),())=some (match sd1 fx w with | some c => .inr (.inr c) | none => .inl ((1,()),())):=by
    have:qck x y w ((0,()),())=Option.bind (α:=(Unit×Unit) ⊕ (((Int×Unit)×Unit) ⊕ ((Unit×Unit) ⊕ ByteArray))) (Option.bind (qL x.2.2.1) fun r2=>Option.bind (iterW (qbK r2 w x y ((0,()),())) ((0,()),())) (Sum.elim (fun x7=>some (.inl ((),()))) some)) (Sum.elim (fun x8=>some (.inl ((w64 (0+1),()),()))) some):=rfl;rw[this,wx,Option.bind_some,i0]
    cases sd1 fx w<;>rfl
  have s1:qck x y w ((1,()),())=some (match sd1 fy w with | some c => .inr (.inr c) | none => .inl ((2,()),())):=by
    have:qck x y w ((1,()),())=Option.bind (α:=(Unit×Unit) ⊕ (((Int×Unit)×Unit) ⊕ ((Unit×Unit) ⊕ ByteArray))) (Option.bind (qL y.2.2.1) fun r2=>Option.bind (iterW (qbK r2 w x y ((1,()),())) ((0,()),())) (Sum.elim (fun x7=>some (.inl ((),()))) some)) (Sum.elim (fun x8=>some (.inl ((w64 (1+1),()),()))) some):=rfl;rw[this,wy,Option.bind_some,i1]
    cases sd1 fy w<;>rfl
  have s2:qck x y w ((2,()),())=some (.inr (.inl ((),()))):=rfl;unfold qiR
  cases h1:sd1 fx w with
  | some c =>
    rw[h1] at s0;rw[qh s0];rfl
  | none =>
    rw[h1] at s0;rw[ql s0]
    cases h2:sd1 fy w with
    | some c =>
      rw[h2] at s1;rw[qh s1];rfl
    | none =>
      rw[h2] at s1;rw[ql s1,qh s2];rfl
theorem said_eq {fx fy:Fo} {w:List Mv} {c:ByteArray} (h:combF (lookF fx w) (lookF fy w)=some c):c.toList=(match sd1 fx w with | some c=>c | none=>match sd1 fy w with | some c=>c | none=>ByteArray.mk #[]).toList:=by
  have he:(ByteArray.mk #[]).toList=[]:=by decide +kernel
  unfold sd1
  cases h1:lookF fx w with
  | none =>
    rw[h1] at h;have h:lookF fy w=some c:=h;rw[h];by_cases e:c.toList=[]
    · simp[e,he]
    · simp[e]
  | some a =>
    cases h2:lookF fy w with
    | none =>
      rw[h1,h2] at h;simp only[combF,Option.some.injEq] at h;subst h;by_cases e:a.toList=[]
      · simp[e,he]
      · simp[e]
    | some b =>
      rw[h1,h2] at h;simp only[combF,Option.some.injEq] at h;by_cases e:a.toList=[]
      · rw[if_pos e] at h;subst h;by_cases e2:b.toList=[]
        · simp[e,e2,he]
        · simp[e,e2]
      · rw[if_neg e] at h;subst h;simp[e]
set_option maxHeartbeats 2000000

theorem qqy {a c pre suf:List (List Mv)} {w:List Mv} (hc:c=pre++w::suf) (hf:c.filter (fun v=>decide (v∈a))=a) (hw:w∈a):a[(pre.filter (fun v=>decide (v∈a))).length]?=some w:=by
  have:a=pre.filter (fun v=>decide (v∈a))++w::suf.filter (fun v=>decide (v∈a)):=by
    conv=>lhs;rw[←hf,hc,List.filter_append,List.filter_cons,if_pos (by simpa using hw)]
  conv=>lhs;rw[this]
  rw[List.getElem?_append_right (Nat.le_of_eq (by rw[←this])),←this];simp
theorem qsL (x y z:Rec) (e:Int) (fx fy:Fo) (hx:Dis fx) (hy:Dis fy) (sx:szF fx≤30) (sy:szF fy≤30) (ex:x.2.2.1=preF (-1) 0 fx) (ey:y.2.2.1=preF (-1) 0 fy) (ez:z.2.2.1=preF (-1) 0 (mgF fy fx)) :
    iterW (qae ((kyF [] fx,(kyF [] fy,(kyF [] (mgF fy fx),()))),()) (z,(e,())) ((),(x,(y,())))) ((0,0,()),())=some (.inl (((((kyF [] fx).length:Nat):Int),()),())):=by
  have lz:=ql4 fy fx;have hdz:=qjw fy fx hy hx;have hf:(kyF [] (mgF fy fx)).filter (fun v=>decide (v∈kyF [] fx))=kyF [] fx:=by
    refine Eq.trans (List.filter_congr fun v _=>?_) (qgC (qqb fy [] fx) (qip (mgF fy fx) [] hdz));exact decide_eq_decide.2 Iff.rfl
  have hsz:=wfF_sz (mgF fy fx);have la:=qis fx;have lb:=qis fy;have lc:=qis (mgF fy fx);have hnl:=qu (mgF fy fx) (-1) 0;obtain⟨cnt,hcnt⟩:∃cnt:Nat→Nat,∀i,cnt i=(((kyF [] (mgF fy fx)).take i).filter (fun v=>decide (v∈kyF [] fx))).length:=⟨_,fun _=>rfl⟩;have key:∀n i:Nat,i+n=(wfF [] (mgF fy fx)).length→iterW (qae ((kyF [] fx,(kyF [] fy,(kyF [] (mgF fy fx),()))),()) (z,(e,())) ((),(x,(y,())))) (((((cnt i:Nat):Int),((i:Nat):Int),()),()))=some (.inl (((((kyF [] fx).length:Nat):Int),()),())):=by
    intro n
    induction n with
    | zero =>
      intro i hi;refine qh ?_;unfold qae;simp only[show decide (((i:Nat):Int)<(((kyF [] (mgF fy fx)).length:Nat):Int))=false by simp only[decide_eq_false_iff_not];omega,cond_false];rw[hcnt,List.take_of_length_le (by omega),hf]
    | succ n ih =>
      intro i hi
      have hil:i<(wfF [] (mgF fy fx)).length:=by omega
      have hik:i<(kyF [] (mgF fy fx)).length:=by omega
      obtain⟨⟨w,cz⟩,hwc⟩:∃p,(wfF [] (mgF fy fx))[i]=p:=⟨_,rfl⟩;have hkw:(kyF [] (mgF fy fx))[i]=w:=by
        have h1:(kyF [] (mgF fy fx))[i]?=some w:=by
          unfold kyF;rw[List.getElem?_map,List.getElem?_eq_getElem hil,hwc];rfl
        rw[List.getElem?_eq_getElem hik] at h1;exact Option.some.inj h1
      have hmem:(w,cz)∈wfF [] (mgF fy fx):=hwc▸List.getElem_mem hil;have hwm:w∈kyF [] (mgF fy fx):=hkw▸List.getElem_mem hik;have hwl:w.length≤1000:=qlP _ (by omega) w hwm;have hg:getD' (kyF [] (mgF fy fx)) (((i:Nat):Int)).toNat []=w:=by
        rw[Int.toNat_natCast];unfold getD';rw[List.getD_eq_getElem?_getD,List.getElem?_eq_getElem hik,hkw];rfl
      have hlook:combF (lookF fx w) (lookF fy w)=some cz:=by
        obtain⟨t,ht,h2⟩:=(qcy _ [] w cz hdz).1 hmem;rw[List.nil_append] at ht;rw[ht,←qkM fy fx t hy hx];exact h2
      have hsaid:=said_spec x y w fx fy hx hy (by omega) (by omega) ex ey;have hseq:=said_eq hlook
      have hns:at? z.2.2.1 (i:Int)=some ((preF (-1) 0 (mgF fy fx))[i]'(by omega)):=by rw[ez];exact qbj _ _ (by omega)
      have hcm:((preF (-1) 0 (mgF fy fx))[i]'(by omega)).2.2.1=cz:=by
        rw[(qbN (by omega)).2.2];have:=wfF_at (mgF fy fx) hil;rw[hwc] at this;exact(congrArg Prod.snd this).symm
      have hha:=qgg (kyF [] fx) w (by omega) (fun v hv=>Nat.le_trans (qlP fx (by omega) v hv) (by decide));have hhb:=qgg (kyF [] fy) w (by omega) (fun v hv=>Nat.le_trans (qlP fy (by omega) v hv) (by decide));have htake:(kyF [] (mgF fy fx)).take (i+1)=(kyF [] (mgF fy fx)).take i++[w]:=by
        rw[List.take_add_one,List.getElem?_eq_getElem hik,hkw];rfl
      obtain⟨k,hk⟩:∃k,(((kyF [] (mgF fy fx)).take i).filter (fun v=>decide (v∈kyF [] fx))).length=k:=⟨_,rfl⟩;have hkle:k≤60:=by
        rw[←hk];refine Nat.le_trans (List.length_filter_le _ _) ?_;rw[List.length_take];omega
      obtain⟨k',hk'⟩:∃k',(((kyF [] (mgF fy fx)).take (i+1)).filter (fun v=>decide (v∈kyF [] fx))).length=k':=⟨_,rfl⟩;have hkk:k'=if w∈kyF [] fx then k+1 else k:=by
        rw[←hk',htake,List.filter_append,List.length_append,hk]
        by_cases h:w∈kyF [] fx<;>simp[h]
      have hih:=ih (i+1) (by omega);rw[hcnt,hk'] at hih;rw[hcnt,hk,ql (y:=((((k':Nat):Int),(((i+1:Nat)):Int),()),()))]
      · exact hih
      · have he:∀kk:Int,(Option.bind (at? z.2.2.1 (i:Int)) fun d42=>Option.bind (qiR x y w) fun r43=>bif (!(d42.2.2.1.toList==r43.toList)) then(some (.inr (.inr false)):Option (((Int×Int×Unit)×Unit) ⊕ (((Int×Unit)×Unit) ⊕ Bool))) else some (.inl ((kk,(w64 ((i:Int)+1)),()),())))=some (.inl ((kk,((i+1:Nat):Int),()),())):=fun kk=>by
          rw[hns,Option.bind_some,hsaid,Option.bind_some,hcm,hseq,beq_self_eq_true,qg (n:=(i:Int)+1) (by omega) (by omega)];rfl
        unfold qae;simp only[show decide (((i:Nat):Int)<(((kyF [] (mgF fy fx)).length:Nat):Int))=true by simp only[decide_eq_true_eq];omega,cond_true];rw[show inb (i:Int) (kyF [] (mgF fy fx)).length=true from inb_iff.2 ⟨by omega,by omega⟩,qd,hg,hha,Option.bind_some];by_cases h:w∈kyF [] fx
        · rw[if_pos h] at hkk;have hka:=qqy (a:=kyF [] fx) (c:=kyF [] (mgF fy fx)) (pre:=(kyF [] (mgF fy fx)).take i) (suf:=(kyF [] (mgF fy fx)).drop (i+1)) (w:=w) (by rw[←hkw,←List.drop_eq_getElem_cons hik,List.take_append_drop]) hf h;rw[hk] at hka;have hkl:k<(kyF [] fx).length:=(List.getElem?_eq_some_iff.1 hka).1;have hgk:getD' (kyF [] fx) (((k:Nat):Int)).toNat []=w:=by
            rw[Int.toNat_natCast];unfold getD';rw[List.getD_eq_getElem?_getD,hka];rfl
          rw[decide_eq_true h,cond_true,show decide (((k:Nat):Int)≥(((kyF [] fx).length:Nat):Int))=false by simp only[decide_eq_false_iff_not];omega,show inb ((k:Nat):Int) (kyF [] fx).length=true from inb_iff.2 ⟨by omega,by omega⟩];rw[show imp (!false) true=true by rfl,qd,hgk];have hgo:gopt (!false) false (qaO w w)=some true:=by
            show qaO w w=some true;rw[qfl _ _ (by omega)];simp
          rw[hgo];simp only[Option.bind_some,Bool.not_true,Bool.or_self,cond_false,Sum.elim_inl];rw[qg (n:=((k:Nat):Int)+1) (by omega) (by omega),hkk];exact he (((k:Nat):Int)+1)
        · rw[if_neg h] at hkk;have hb:w∈kyF [] fy:=((qog fy [] fx w).1 hwm).resolve_left h;rw[decide_eq_false h,cond_false,hhb,Option.bind_some,decide_eq_true hb];simp only[Bool.not_true,cond_false,Option.bind_some,Sum.elim_inl];rw[hkk];exact he ((k:Nat):Int)
  have:=key (wfF [] (mgF fy fx)).length 0 (by omega);rw[hcnt] at this;exact this
section
variable {r : Rules} (hr : Rng qX r) (x : Rec) (hx : Rng tyRec x) (h30 : x.2.2.1.length ≤ 30)
include hr hx h30
theorem path_spec (node:Int):qcR r x node=some (if qP r x≠0 then([],(qP r x,())) else if node<0∨((x.2.2.1.length:Nat):Int)≤node then([],(1,())) else(wayM x.2.2.1 node,(0,()))):=by
  unfold qcR qdO;rw[qhQ hr x hx h30,Option.bind_some];by_cases c:qP r x=0
  rotate_left
  · rw[bne_t c,cond_true,Option.bind_some,bne_t c,cond_true,if_pos c]
  rw[bne_f c,cond_false,if_neg (fun h=>h c)];by_cases c1:node<0∨((x.2.2.1.length:Nat):Int)≤node
  · rw[if_pos c1,show(decide (node<0)||decide (node≥((x.2.2.1.length:Nat):Int)))=true by simp only[Bool.or_eq_true,decide_eq_true_eq];omega];rfl
  · rw[if_neg c1,show(decide (node<0)||decide (node≥((x.2.2.1.length:Nat):Int)))=false by simp only[Bool.or_eq_false_iff,decide_eq_false_iff_not];omega];have ho:Ord x.2.2.1 x.2.2.1.length:=by
      unfold qP at c
      repeat (first | (split at c;· contradiction) | exact ord_of c)
    simp only[cond_false,Option.bind_some,bne_self_eq_false];rw[qq6 x (by omega) (by omega) (by omega) (ho.down.mono (by omega)),Option.bind_some]
end
theorem qss (x:Rec):qcP x=some (x.1,(x.2.1,(x.2.2.1.take 30,x.2.2.2))):=by
  unfold qcP;by_cases h:30<((x.2.2.1.length:Nat):Int)
  · simp only[if_pos h];rw[show qv 0 30 x.2.2.1.length=true by simp only[qv,Bool.and_eq_true,decide_eq_true_eq];omega,qd];rfl
  · simp only[if_neg h];rw[show qv 0 ((x.2.2.1.length:Nat):Int) x.2.2.1.length=true by simp only[qv,Bool.and_eq_true,decide_eq_true_eq];omega,qd,Int.toNat_natCast,List.take_length,List.drop_zero,List.take_of_length_le (by omega)]
def demoR:Rec:=([],(ByteArray.mk #[],([(-1,((-1,(0,(0,()))),(ByteArray.mk #[],())))],(0,()))))
theorem demo_rng:Rng tyRec demoR:=qh0 _ _ (by decide +kernel)
theorem demo_ok:qP qaa demoR=0:=by decide +kernel
theorem qmv:qc4=some true:=by
  unfold qc4;have h:=path_spec tic_rng demoR demo_rng (by decide) 0;rw[if_neg (fun h=>h demo_ok),if_neg (by decide)] at h;have h':qcR ((qaa).1,(((qaa).2).1,((((qaa).2).2).1,(((((qaa).2).2).2).1,((((((qaa).2).2).2).2).1,(((((((qaa).2).2).2).2).2).1,((((((((qaa).2).2).2).2).2).2).1,(((((((((qaa).2).2).2).2).2).2).2).1,((((((((((qaa).2).2).2).2).2).2).2).2).1,(((((((((((qaa).2).2).2).2).2).2).2).2).2).1,((((((((((((qaa).2).2).2).2).2).2).2).2).2).2).1,()))))))))))) ([],((ByteArray.mk #[]),([(-1,((qiB 0),((ByteArray.mk #[]),())))],(0,())))) 0=_:=h;rw[h',Option.bind_some];decide +kernel
theorem qnm {r:Rules} (hr:Rng qX r) (x y:Rec) (hx:Rng tyRec x) (hy:Rng tyRec y) (h30:x.2.2.1.length≤30) (h31:y.2.2.1.length≤30) {e:Int} (h:(if qP r x≠0 then Sum.inr (zeroR,(qP r x,())) else if qP r y≠0 then .inr (zeroR,(qP r y,())) else .inl ((),(zeroR,())))=(.inr (zeroR,(e,())):(Unit×Rec×Unit) ⊕ (Rec×Int×Unit))):qaJ r x y=some (zeroR,(e,())):=by
  have m1:=qrQ hr x y hx hy h30 h31 zeroR;rw[h] at m1;unfold qaJ;have m1:iterW (qD r x y) (((0:Int),()),((([]:List RTag),((ByteArray.mk #[]),(([]:List RNode),((0:Int),())))),()))=_:=m1;rw[m1];rfl
theorem qrx {r:Rules} {x:Rec} (g:RecG r x):Ord x.2.2.1 x.2.2.1.length:=fun i hi=>qgW (g.nodes i hi)
theorem law3AnnotateMerges_true (r:Rules) (x y:Rec) (hr:Rng qX r) (hx:Rng tyRec x) (hy:Rng tyRec y):qbS r x y=some true:=by
  have hsh:∀x:Rec,Rng tyRec x→∃y:Rec,qcP x=some y∧y.2.2.1.length≤30∧Rng tyRec y:=fun x hx=>by
    refine⟨_,qss x,?_,⟨hx.1,hx.2.1,⟨?_,fun d hd=>hx.2.2.1.2 d (List.mem_of_mem_take hd)⟩,hx.2.2.2⟩⟩
    · show(x.2.2.1.take 30).length≤30;rw[List.length_take];omega
    · have:=hx.2.2.1.1;show(x.2.2.1.take 30).length≤_;rw[List.length_take];exact Nat.le_trans (Nat.min_le_right _ _) this
  obtain⟨x',ex,x30,xr⟩:=hsh x hx;obtain⟨y',ey,y30,yr⟩:=hsh y hy;unfold qbS;rw[qmv,Option.bind_some,ex,ey];simp only[Bool.not_true,cond_false,Option.bind_some,agree_self];cases hg:qgn r
  rotate_left
  · rfl
  simp only[cond_false];by_cases c:qP r x'=0
  rotate_left
  · rw[qnm hr x' y' xr yr x30 y30 (e:=qP r x') (by rw[if_pos c]),Option.bind_some,qfv hr x' y' zeroR _ xr yr x30 y30,if_pos c,beq_self_eq_true];rfl
  by_cases d:qP r y'=0
  rotate_left
  · rw[qnm hr x' y' xr yr x30 y30 (e:=qP r y') (by rw[if_neg (fun h=>h c),if_pos d]),Option.bind_some,qfv hr x' y' zeroR _ xr yr x30 y30,if_neg (fun h=>h c),if_pos d,beq_self_eq_true];rfl
  have gx:=recG_of c;have gy:=recG_of d;obtain⟨fx,nx,dx⟩:=qnw (qrx gx) (fun j hj=>(qgH (gx.nodes j hj)).2.2);obtain⟨fy,ny,dy⟩:=qnw (qrx gy) (fun j hj=>(qgH (gy.nodes j hj)).2.2)
  have sx:szF fx≤30:=by have:=qu fx (-1) 0;rw[←nx] at this;omega
  have sy:szF fy≤30:=by have:=qu fy (-1) 0;rw[←ny] at this;omega
  have sz:=ql4 fy fx;have hrz:=rng_mg xr yr gx.few gy.few x30 y30 nx ny dx dy;rw[mergeI_ok hr x' y' xr yr x30 y30 c d fx fy nx ny hrz,Option.bind_some];obtain⟨z,hz⟩:∃z,mgR x' y' (mgF fy fx)=z:=⟨_,rfl⟩
  have hzn:z.2.2.1=preF (-1) 0 (mgF fy fx):=by rw[←hz];rfl
  have hzl:z.2.2.1.length≤200:=by rw[hzn,qu];omega
  have h02:=qsR gx gy nx ny dx dy;rw[hz] at h02 hrz ⊢;rcases h02 with h0 | h2
  rotate_left
  · rw[h2,if_pos (by decide),qfv hr x' y' zeroR 2 xr yr x30 y30,if_neg (fun h=>h c),if_neg (fun h=>h d)];rfl
  rw[h0,if_neg (fun h=>h rfl),qfv hr x' y' z 0 xr yr x30 y30,if_neg (fun h=>h c),if_neg (fun h=>h d)];simp only[Option.bind_some,Sum.elim_inl,bne_self_eq_false,cond_false];have hcond:(((decide (((z.1.length:Nat):Int)<((x'.1.length:Nat):Int)))||((z.2.2.2.1 !=x'.2.2.2.1)&&((x'.2.2.2.1 !=(0:Int))||(z.2.2.2.1 !=y'.2.2.2.1))))||((!(z.2.1.toList==x'.2.1.toList))&&((!(x'.2.1.toList==(ByteArray.mk #[]).toList))||(!(z.2.1.toList==y'.2.1.toList)))))=false:=by
    rw[←hz];unfold mgR;simp only[show decide ((((x'.1++y'.1.filter (qcJ x')).length:Nat):Int)<((x'.1.length:Nat):Int))=false by simp only[decide_eq_false_iff_not,List.length_append];omega,Bool.false_or];have e1:(((bif (x'.2.2.2.1==0) then y'.2.2.2.1 else x'.2.2.2.1)!=x'.2.2.2.1)&&((x'.2.2.2.1 !=(0:Int))||((bif (x'.2.2.2.1==0) then y'.2.2.2.1 else x'.2.2.2.1)!=y'.2.2.2.1)))=false:=by
      cases h:(x'.2.2.2.1==(0:Int))
      · simp
      · simp[bne,h]
    have e2:((!((bif (x'.2.1.toList==(ByteArray.mk #[]).toList) then y'.2.1 else x'.2.1).toList==x'.2.1.toList))&&((!(x'.2.1.toList==(ByteArray.mk #[]).toList))||(!((bif (x'.2.1.toList==(ByteArray.mk #[]).toList) then y'.2.1 else x'.2.1).toList==y'.2.1.toList))))=false:=by
      cases h:(x'.2.1.toList==(ByteArray.mk #[]).toList)
      · simp
      · simp
    rw[e1,e2];rfl
  rw[hcond];have w1:=qeA fx (by omega);have w2:=qeA fy (by omega);have w3:=qeA (mgF fy fx) (by omega);rw[←nx] at w1;rw[←ny] at w2;rw[←hzn] at w3;simp only[w1,w2,w3,cond_false,Option.bind_some,agree_self];have l1:=qis fx;have l2:=qis fy;have l3:=qis (mgF fy fx);rw[qR (by simp only[List.length_nil];omega),qd,qR (by simp only[List.length_append,List.length_nil];omega),qd];rw[all_loop (kyF [] fx) (kyF [] fy) (kyF [] (mgF fy fx)) (by omega) (by omega) (qlP _ (by omega)) (fun v hv=>(qog fy [] fx v).2 (List.mem_append.1 hv))];simp only[Option.bind_some,Sum.elim_inl];rw[qsL x' y' z 0 fx fy dx dy sx sy nx ny hzn];simp only[Option.bind_some,Sum.elim_inl,beq_self_eq_true];have hfz:=qq9 hr z hrz hzl h0
  have hgo:gopt true (0:Int) (qA r z)=some 0:=by
    show qA r z=some 0;exact hfz
  rw[hgo];rfl
end Go.Proofs.YthidcmjpbokeeaaGreat
