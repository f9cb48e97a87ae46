/- Several texts in one: TnG, RecD, HtenM, TnH, TnI, TnJ, MatchA, MatchB, MatchD, PremM, MatchE, ClaimA, ClaimM, MatchF, MatchG, MatchH, MatchI, HtenP, TopNotationL. -/
import Derived.Test.YthidcmjpbokeeaaGreatDoorMAG
import Derived.Test.YthidcmjpbokeeaaGreatDoorMAA
import Derived.Test.YthidcmjpbokeeaaGreatDoorMAF
import Derived.Lib.ItoaLen
import Derived.Lib.AtoiAll
import Derived.Lib.ItoaMem
import Derived.Laws.RangeString
namespace Go.Proofs.YthidcmjpbokeeaaGreatDoor
open Go.Den
set_option linter.unusedVariables false
set_option linter.unusedSimpArgs false
set_option maxRecDepth 100000
theorem qm8:∀(ms:List Mv) (q:Int) (k i:Nat) (h:i<ms.length),(linN ms q k)[i]?=some ((if i=0 then q else((k+i-1:Nat):Int)),(ms[i],(ByteArray.mk #[],())))
 | [],_,_,i,h=>by simp at h
 | m::ms,q,k,0,h=>rfl
 | m::ms,q,k,i+1,h=>by
  simp only[linN,List.getElem?_cons_succ];rw[qm8 ms (k:Int) (k+1) i (by simpa using h)];rw[if_neg (Nat.succ_ne_zero i)];by_cases h0:i=0
  ·subst h0;simp
  ·rw[if_neg h0];simp only[List.getElem_cons_succ];congr 2;omega
section
variable (ms : List Mv)
theorem qhN {i:Nat} (h:i<ms.length):rpar (linN ms (-1) 0) i=(i:Int)-1:=by
 unfold rpar;rw[qm8 ms (-1) 0 i h];simp only[Option.map_some,Option.getD_some];split
 ·subst_vars;rfl
 ·omega
theorem lin_mv {i:Nat} (h:i<ms.length):rmv (linN ms (-1) 0) i=ms[i]:=by
 unfold rmv;rw[qm8 ms (-1) 0 i h];rfl
theorem lin_com {i:Nat} (h:i<ms.length):rcom (linN ms (-1) 0) i=ByteArray.mk #[]:=by
 unfold rcom;rw[qm8 ms (-1) 0 i h];rfl
theorem qwF:Down (linN ms (-1) 0) ms.length:=fun i hi=>by rw[qhN ms hi];omega
theorem qsj:∀i:Nat,i<ms.length→wayN (linN ms (-1) 0) (i:Int)=(List.range (i+1)).reverse
 | 0,h=>by
  rw[qh0 (by omega) ((qwF ms).mono (by omega)),Int.toNat_natCast,qhN ms h,qf0 _ (by omega)];rfl
 | i+1,h=>by
  rw[qh0 (by omega) ((qwF ms).mono (by omega)),Int.toNat_natCast,qhN ms h,show((i+1:Nat):Int)-1=(i:Int) by omega,qsj i (by omega),List.range_succ (n:=i+1),List.reverse_append];rfl
theorem lin_wayM {i:Nat} (h:i<ms.length):wayM (linN ms (-1) 0) (i:Int)=ms.take (i+1):=by
 unfold wayM;rw[qsj ms i h,List.map_reverse,List.reverse_reverse];refine List.ext_getElem (by simp;omega) fun j h1 h2=>?_;simp at h1;rw[List.getElem_map,List.getElem_range,lin_mv ms (by omega)];simp
theorem lin_sib {i:Nat} (h:i<ms.length):sibB (linN ms (-1) 0) i=false:=by
 unfold sibB;refine Bool.eq_false_iff.2 fun e=>?_;obtain⟨k,hk,h2⟩:=List.any_eq_true.1 e;have hk:=List.mem_range.1 hk;rw[qhN ms h,qhN ms (by omega)] at h2
 have:=by simpa using h2
 omega
theorem lin_twin {i:Nat} (h:i<ms.length):twinB (linN ms (-1) 0) i=false:=by
 unfold twinB;refine Bool.eq_false_iff.2 fun e=>?_;obtain⟨k,hk,h2⟩:=List.any_eq_true.1 e;have hk:=List.mem_range.1 hk;rw[qhN ms h,qhN ms (by omega)] at h2;simp only[Bool.and_eq_true,beq_iff_eq] at h2;omega
theorem lin_deep {i:Nat} (h:i<ms.length):dpN (linN ms (-1) 0) (i:Int)=0:=by
 unfold dpN;rw[qsj ms i h];have:List.countP (sibB (linN ms (-1) 0)) (List.range (i+1)).reverse=0:=List.countP_eq_zero.2 fun k hk=>by
  have:=List.mem_range.1 (List.mem_reverse.1 hk);rw[lin_sib ms (by omega)];simp
 rw[this];rfl
theorem lin_ord {i:Nat} (h:i<ms.length):ordB (linN ms (-1) 0) i=true:=by
 unfold ordB;rw[qhN ms h];simp only[Bool.and_eq_true,Bool.or_eq_true,decide_eq_true_eq,beq_iff_eq];refine⟨by omega,?_⟩;by_cases h0:i=0
 ·exact .inr (by omega)
 ·refine .inl ⟨by omega,?_⟩;rw[show(i:Int)-1=((i-1:Nat):Int) by omega,qsj ms (i-1) (by omega),Int.toNat_natCast];exact List.mem_reverse.2 (List.mem_range.2 (by omega))
end
theorem qv2 {r:Rules}:∀(a b:List Mv) (s s':List Place×List Mv),runG r (a++b) s = .inl s'→∃t,runG r a s = .inl t
 | [],b,s,s',h=>⟨s,rfl⟩
 | m::a,b,s,s',h=>by
  simp only[List.cons_append,runG] at h ⊢;split at h
  ·rename_i c;rw[if_pos c];exact qv2 a b _ s' h
  ·cases h
theorem check_lin {r:Rules} (hr:Rng qae r) (c:qz r=0) {ms:List Mv} {i:Nat} (hi:i<4) {s:List Place×List Mv} (hg:qgD r ms = .inl s) (hm:ms.length≤200) (hx:Rng tyRec (recT ms i)):qax r (recT ms i)=some 0:=by
 rw[qnJ hr (recT ms i) hx (by show(linN ms (-1) 0).length≤200;rw[qe1];exact hm)];have hn:qaH (nErrX r (linN ms (-1) 0)) (linN ms (-1) 0).length=0:=quO fun j hj=>by
  rw[qe1] at hj;have hge:gErr r (ms.take (j+1))=0:=by
   unfold gErr;rw[if_pos c];obtain⟨t,ht⟩:=qv2 (ms.take (j+1)) (ms.drop (j+1)) ([qn r],[]) s (by rw[List.take_append_drop];exact hg);unfold qgD;rw[ht]
  have hce:cErr (ByteArray.mk #[])=0:=by decide
  have h0:nErr r (linN ms (-1) 0) j=0:=by
   unfold nErr;rw[lin_com ms hj,if_neg (by rw[hce];simp),lin_ord ms hj,if_neg (by simp),lin_twin ms hj,if_neg (by simp),lin_wayM ms hj,hge]
  unfold nErrX;rw[h0,if_neg (by simp),lin_deep ms hj,if_neg (by omega)]
 unfold qsI;rw[if_neg (by rw[c];simp)];have g1:(recT ms i).1.length=0:=rfl
 have g2:¬10<(recT ms i).1.length:=by rw[g1];omega
 have g3:qaH (tErr (recT ms i).1) (recT ms i).1.length=0:=rfl;have g4:¬((recT ms i).2.2.2.1<0∨3<(recT ms i).2.2.2.1):=by
  show ¬((i:Int)<0∨3<(i:Int));omega
 have g5:cErr (recT ms i).2.1=0:=by
  show cErr (ByteArray.mk #[])=0;decide
 rw[if_neg g2,if_neg (by rw[g3];simp),if_neg g4,if_neg (by rw[g5];simp)];show some (qaH (nErrX r (linN ms (-1) 0)) (linN ms (-1) 0).length)=some 0;rw[hn]
end Go.Proofs.YthidcmjpbokeeaaGreatDoor
namespace Go.Proofs.YthidcmjpbokeeaaGreatDoor
open Go.Den
set_option linter.unusedVariables false
set_option linter.unusedSimpArgs false
set_option maxRecDepth 100000

def kidsI (ns:List RNode) (p:Int):List Int:=(List.range ns.length).flatMap fun (k:Nat)=>bif rpar ns k==p then [(k:Int)] else []
theorem qg1 (x:Rec) (p:Int) (h30:x.2.2.1.length≤1000):qdy x p=some (kidsI x.2.2.1 p):=by
 unfold qdy kidsI
 have:=qjN x.2.2.1.length 1 (qeW x p) (fun k=>bif rpar x.2.2.1 k==p then [(k:Int)] else []) (fun a=>((a,()),())) [] (fun k _=>by
  cases (rpar x.2.2.1 k==p)
  ·exact Nat.zero_le _
  ·exact Nat.le_refl _) (fun i hi a ha=>by
  simp only[List.length_nil] at ha;unfold qeW;simp only[show decide ((i:Int)<((x.2.2.1.length:Nat):Int))=true by simp;omega,cond_true];rw[qmS _ _ hi,Option.bind_some,(qhZ hi).1,qf (n:=(i:Int)+1) (by omega) (by omega)];cases (rpar x.2.2.1 i==p)
  ·simp only[cond_false,Option.bind_some,List.append_nil]
  ·simp only[cond_true];rw[qO (by simp only[List.length_cons,List.length_nil];omega),qc]
   rfl) (fun a=>by unfold qeW;simp)
 rw[this];rfl
theorem qgQ (self self':Zv6→Option Zv10) (hself:∀x,Le (self x) (self' x)) (r3:List Int) (p:Zv79×Zv57×Int×Int×Unit) (x5:Zv60×Zv17):Le (qa3 r3 p self x5) (qa3 r3 p self' x5):=by
 unfold qa3
 repeat (first | exact Le.refl _ | assumption | apply hself | apply Le.cond | apply Le.req | apply Le.gopt | apply Le.map | apply Le.agreeW | refine Le.iterW (fun _=>?_) _ | refine Le.bind ?_ (Le.elim (fun _=>?_) (fun _=>?_)) | refine Le.bind ?_ (fun _=>?_))
theorem qdv:Mono qv:=by
 intro self self' hself x
 unfold qv qbo
 repeat (first | exact Le.refl _ | assumption | apply qgQ | apply hself | apply Le.cond | apply Le.req | apply Le.gopt | apply Le.map | apply Le.agreeW | refine Le.iterW (fun _=>?_) _ | refine Le.bind ?_ (Le.elim (fun _=>?_) (fun _=>?_)) | refine Le.bind ?_ (fun _=>?_))
def txs (r:Rules):Place→List Mv→List ByteArray
 | _,[]=>[]
 | p,m::ms=>moveT r p m::txs r (qT r p m) ms
theorem quT (r:Rules):∀(ms:List Mv) (p:Place),(txs r p ms).length=ms.length
 | [],_=>rfl
 | _::ms,_=>by simp[txs,quT r ms]
theorem one_kid (j:Nat):∀n:Nat,(List.range n).flatMap (fun (k:Nat)=>bif (k==j) then [(k:Int)] else [])=if j<n then [(j:Int)] else []
 | 0=>by simp
 | n+1=>by
  rw[List.range_succ,List.flatMap_append,one_kid j n];simp only[List.flatMap_cons,List.flatMap_nil,List.append_nil];by_cases h:n=j
  ·subst h;simp
  ·rw[show(n==j)=false from beq_f h,cond_false,List.append_nil];by_cases h2:j<n
   ·rw[if_pos h2,if_pos (by omega)]
   ·rw[if_neg h2,if_neg (by omega)]
theorem qvT {A B:Type} {f g:A→List B}:∀l:List A,(∀x∈l,f x=g x)→l.flatMap f=l.flatMap g
 | [],_=>rfl
 | x::l,h=>by
  rw[List.flatMap_cons,List.flatMap_cons,h x List.mem_cons_self,qvT l fun y hy=>h y (List.mem_cons_of_mem _ hy)]
theorem qoK (ms:List Mv) (i j:Nat) (hm:ms.length≤1000):qdy (recT ms i) ((j:Int)-1)=some (if j<ms.length then [(j:Int)] else []):=by
 rw[qg1 (recT ms i) _ (by show(linN ms (-1) 0).length≤1000;rw[qe1];exact hm)];show some (kidsI (linN ms (-1) 0) ((j:Int)-1))=_;unfold kidsI;rw[qe1,←one_kid j ms.length];congr 1;refine qvT _ fun k hk=>?_;have hk:=List.mem_range.1 hk;rw[qhN ms hk];by_cases h:k=j
 ·subst h;simp
 ·rw[show(((k:Int)-1==(j:Int)-1):Bool)=false from beq_f (by omega),show(k==j)=false from beq_f h]
theorem lin_at (ms:List Mv) (j:Nat) (h:j<ms.length):∃q,at? (linN ms (-1) 0) (j:Int)=some (q,(ms[j],(ByteArray.mk #[],()))):=by
 refine⟨if j=0 then -1 else((0+j-1:Nat):Int),?_⟩;rw[at?_eq _ _ (by omega) (by rw[qe1];omega)];have:=qm8 ms (-1) 0 j h;have h2:=(List.getElem?_eq_some_iff.1 this).2;simp only[Int.toNat_natCast];rw[h2]
abbrev wr (r:Rules) (x:TRec):Rules×TRec×Unit:=(r,(x,()))
theorem one_eq {r:Rules} (hr:Rng qae r) {ms:List Mv} {i j:Nat} (hj:j<ms.length) {p:Place} (h:Valid r p) (ha:ql r p ms[j]=true):qa7 (wr r (recT ms i)) p (j:Int)=some (wr r (recT ms i),[moveT r p ms[j]]):=by
 unfold qa7;obtain⟨q,hq⟩:=lin_at ms j hj;have hq:at? (recT ms i).2.2.1 (j:Int)=_:=hq;simp only[hq,Option.bind_some];rw[qhf h,Option.bind_some,quR (qjY hr) h ha,Option.bind_some];rw[show(!((ByteArray.mk #[]).toList==(ByteArray.mk #[]).toList))=false by rw[qnt];rfl,cond_false,Option.bind_some]
theorem quw {r:Rules} (hr:Rng qae r) {M:List Mv} {i:Nat} (hM:M.length≤100):∀(ms pre:List Mv) (p:Place) (n:Nat),M=pre++ms→Plays r p ms→ms.length<n →
  fixN qv n (wr r (recT M i),p,(pre.length:Int)-1,())=some (wr r (recT M i),txs r p ms)
 | [],pre,p,n,hpre,_,hn=>by
  obtain⟨n,rfl⟩:∃j,n=j+1:=⟨n-1,by simp at hn;omega⟩;rw[qhm];generalize fixN qv n=self;unfold qv qbo;have hk:=qoK M i pre.length (by omega);rw[if_neg (by rw[hpre];simp)] at hk;simp only[hk,Option.bind_some];rfl
 | m::ms,pre,p,n,hpre,hp,hn=>by
  obtain⟨n,rfl⟩:∃j,n=j+1:=⟨n-1,by simp at hn;omega⟩;obtain⟨hv,ha,h0,hp'⟩:=hp;simp only[List.length_cons] at hn
  have hlt:pre.length<M.length:=by rw[hpre];simp
  have hat:M[pre.length]=m:=by subst hpre;simp
  have ih:=quw (i:=i) hr hM ms (pre++[m]) (qT r p m) n (by rw[hpre];simp) hp' (by omega);rw[show(((pre++[m]).length:Nat):Int)-1=(pre.length:Int) by simp] at ih;have h1:=one_eq (i:=i) hr hlt hv (by rw[hat];exact ha);rw[hat] at h1;have hk:=qoK M i pre.length (by omega);rw[if_pos hlt] at hk;obtain⟨q,hq⟩:=lin_at M pre.length hlt;rw[hat] at hq;have hq:at? (recT M i).2.2.1 (pre.length:Int)=some (q,(m,(ByteArray.mk #[],()))):=hq;have hmk:=ql0 hv ha
  have htl:(txs r (qT r p m) ms).length≤100:=by rw[quT];rw[hpre] at hM;simp at hM;omega
  rw[qhm];generalize fixN qv n=self at ih ⊢;unfold qv qbo;simp only[hk,Option.bind_some];rw[show(((([((pre.length:Nat):Int)]:List Int).length:Nat):Int)==0)=false from rfl,cond_false];rw[show inb 0 ([((pre.length:Nat):Int)]:List Int).length=true from rfl];simp only[qc,show getD' ([((pre.length:Nat):Int)]:List Int) 0 0=((pre.length:Nat):Int) from rfl];rw[h1,Option.bind_some];rw[show qk 1 (((([((pre.length:Nat):Int)]:List Int).length:Nat):Int)) ([((pre.length:Nat):Int)]:List Int).length=true from rfl,qc]
  rw[qi (r:=(([moveT r p m],()),((r.1,(r.2.1,(r.2.2.1,(r.2.2.2.1,(r.2.2.2.2.1,(r.2.2.2.2.2.1,(r.2.2.2.2.2.2.1,(r.2.2.2.2.2.2.2.1,(r.2.2.2.2.2.2.2.2.1,(r.2.2.2.2.2.2.2.2.2.1,(r.2.2.2.2.2.2.2.2.2.2.1,recT M i))))))))))),()))) rfl,Option.bind_some];simp only[qjW,hq,Option.bind_some];rw[show qr (r.1,(r.2.1,(r.2.2.1,(r.2.2.2.1,(r.2.2.2.2.1,(r.2.2.2.2.2.1,(r.2.2.2.2.2.2.1,(r.2.2.2.2.2.2.2.1,(r.2.2.2.2.2.2.2.2.1,(r.2.2.2.2.2.2.2.2.2.1,(r.2.2.2.2.2.2.2.2.2.2.1,()))))))))))) p m=_ from hmk,Option.bind_some];rw[show self (((r.1,(r.2.1,(r.2.2.1,(r.2.2.2.1,(r.2.2.2.2.1,(r.2.2.2.2.2.1,(r.2.2.2.2.2.2.1,(r.2.2.2.2.2.2.2.1,(r.2.2.2.2.2.2.2.2.1,(r.2.2.2.2.2.2.2.2.2.1,(r.2.2.2.2.2.2.2.2.2.2.1,()))))))))))),(recT M i,())),_,((pre.length:Nat):Int),())=_ from ih,Option.bind_some];rw[qO (by simp;omega),qc];rfl
theorem writer_W {r:Rules} (hr:Rng qae r) {M:List Mv} {i:Nat} (hM:M.length≤100) (hp:Plays r (qn r) M):qcc (wr r (recT M i)) (qn r) (-1)=some (wr r (recT M i),txs r (qn r) M):=by
 have h:=quw (i:=i) hr hM M [] (qn r) (M.length+1) rfl hp (Nat.lt_succ_self _);exact Le.fix (fun φ ψ hs y=>qdv φ ψ hs y) qdv (M.length+1) _ _ h
theorem sO_app (ns:List Int):∀r:ByteArray,(ns.foldl (fun r n=>r.push (UInt8.ofNat n.toNat)) r).data.toList=r.data.toList++ns.map fun n=>UInt8.ofNat n.toNat:=by
 induction ns with
 | nil=>intro r;simp
 | cons n ns ih =>
  intro r;rw[List.foldl_cons,ih];simp[ByteArray.push]
theorem sO_data (ns:List Int):(strOf ns).data.toList=ns.map fun n=>UInt8.ofNat n.toNat:=by
 unfold strOf;rw[sO_app];rfl
theorem bo_of (s:ByteArray):strOf (qH s)=s:=qtf (by
 rw[sO_data];unfold qH;rw[List.map_map];have:((fun n:Int=>UInt8.ofNat n.toNat)∘fun c:UInt8=>(c.toNat:Int))=id:=by
  funext c;simp
 rw[this,List.map_id])
theorem bO_len (s:ByteArray):(qH s).length=s.size:=by unfold qH;rw[List.length_map,qgN]
theorem qwG (r:Rules) (R:List UInt8):∀(ms:List Mv) (p:Place),bl (joinB 32 (txs r p ms++[mkB R]))++[10]=tl r R p ms
 | [],p=>by
  show bl (joinB 32 [mkB R])++[10]=R++[10];rw[qiV,bl_mk]
 | m::ms,p=>by
  have ih:=qwG r R ms (qT r p m);obtain⟨y,l,e⟩:∃y l,txs r (qT r p m) ms++[mkB R]=y::l:=by
   cases txs r (qT r p m) ms with
   | nil=>exact⟨_,_,rfl⟩
   | cons a b=>exact⟨_,_,rfl⟩
  show bl (joinB 32 (moveT r p m::(txs r (qT r p m) ms++[mkB R])))++[10]=bl (moveT r p m)++32::tl r R (qT r p m) ms;rw[←ih,e,qhr,qb4,qb4,show bl (oneT 32)=[32] from rfl];simp
theorem res_at {i:Nat} (hi:i<4):getD' [(qt).1,((qt).2).1,(((qt).2).2).1,((((qt).2).2).2).1] ((i:Int)).toNat ByteArray.empty=mkB (resL.getD i []):=by
 obtain rfl | rfl | rfl | rfl:i=0∨i=1∨i=2∨i=3:=by omega
 all_goals rfl
theorem text_eq {r:Rules} (hr:Rng qae r) (c:qz r=0) {i:Nat} (hi:i<4) {ms:List Mv} (hp:Plays r (qn r) ms) (hm:ms.length≤100) (hck:qax r (recT ms i)=some 0) :
  qcM r (recT ms i)=some (mkB (tl r (resL.getD i []) (qn r) ms),(0,())):=by
 obtain⟨_,_,q7⟩:=qlZ c ⟨⟨i,hi,rfl⟩⟩ ms _ hp;have hj:=qwG r (resL.getD i []) ms (qn r);have hw:joinB 32 (txs r (qn r) ms++[mkB (resL.getD i [])])++ByteArray.mk #[10]=mkB (tl r (resL.getD i []) (qn r) ms):=qt4 (by rw[qb4,bl_mk,←hj];rfl);have hsz:(joinB 32 (txs r (qn r) ms++[mkB (resL.getD i [])])).size+1=(tl r (resL.getD i []) (qn r) ms).length:=by
  rw[←hj,List.length_append,qgN];rfl
 have htl:=quT r ms (qn r);unfold qcM;rw[hck,Option.bind_some];simp only[bne_self_eq_false,cond_false];rw[qi (r:=((),(([]:List Int),()))) rfl,Option.bind_some]
 rw[show(!((recT ms i).2.1.toList==(ByteArray.mk #[]).toList))=false by
  show(!((ByteArray.mk #[]).toList==(ByteArray.mk #[]).toList))=false
  rw[qnt];rfl,cond_false,Option.bind_some]
 rw[qe5 r hr,if_pos c,Option.bind_some];show Option.bind (qcc (wr r (recT ms i)) (qn r) (-1)) _=_;rw[writer_W hr hm hp,Option.bind_some];simp only[List.nil_append,List.length_nil,Nat.zero_add];rw[show(recT ms i).2.2.2.1=(i:Int) from rfl,res_at hi];rw[qO (by omega),qc];rw[show inb (i:Int) 4=true by simp[inb];omega,qc];rw[qO (by simp only[List.length_cons,List.length_nil];omega),qc];rw[qnF 32 _ (by rw[List.length_append];simp only[List.length_cons,List.length_nil];omega) (by omega),Option.bind_some]
 rw[show qY (joinB 32 (txs r (qn r) ms++[mkB (resL.getD i [])])) (ByteArray.mk #[10])=true from Nat.ble_eq_true_of_le (by
  have:(ByteArray.mk #[10]).size=1:=rfl
  omega),qc]
 rw[hw];rw[qO (by rw[qeu];omega),qc];rw[show Nat.blt 0 (qH (mkB (tl r (resL.getD i []) (qn r) ms))).length=true from Nat.ble_eq_true_of_le (by rw[bO_len,qeu];omega),qc];rw[decide_eq_false (by rw[bO_len,qeu];omega),cond_false,bo_of]
theorem end_res {r:Rules} {l:List Place} (h:qaa r l=0):qan r (lastP l)=0:=by
 unfold qaa at h;by_cases w:((qan r (lastP l)==0)&&(r.repeats !=0))&&decide (((qjA l:Nat):Int)≥r.repeats)
 ·rw[w,cond_true] at h;cases h
 ·rw[show(((qan r (lastP l)==0)&&(r.repeats !=0))&&decide (((qjA l:Nat):Int)≥r.repeats))=false by simpa using w,cond_false] at h;exact h
theorem qua {r:Rules}:∀(ms:List Mv) (s s':List Place×List Mv),OKG r s→runG r ms s = .inl s'→Plays r (lastP s.1) ms
 | [],s,s',_,_=>trivial
 | m::ms,s,s',hk,h=>by
  unfold runG at h;by_cases c:stepG r s m=0
  ·rw[if_pos c] at h;have ih:=qua ms _ s' (qpr hk c) h;have el:lastP (nextG r s m).1=qT r (lastP s.1) m:=by
    unfold nextG lastP;simp[getD']
   rw[el] at ih;exact⟨hk.last,(qwq c).2,end_res (qwq c).1,ih⟩
  ·rw[if_neg c] at h;cases h
theorem plays_of {r:Rules} (c:qz r=0) {ms:List Mv} {s:List Place×List Mv} (h:qgD r ms = .inl s):Plays r (qn r) ms :=
 qua ms ([qn r],[]) s (qeb c) h
theorem qv6 {B:Type} (f:Nat→Option B) (b:B) (P:B→Prop) (hb:P b) (hf:∀i x,f i=some x→P x):∀k i,P (scan f b i k)
 | 0,i=>hb
 | k+1,i=>by
  unfold scan
  cases h:f i with
  | none=>exact qv6 f b P hb hf k (i+1)
  | some x=>exact hf i x h
theorem res_range {r:Rules} {p:Place} (h:Valid r p):0≤qan r p∧qan r p≤3:=by
 have ht:=h.turn
 have hs:=qv6 (endE r p) (.inl ((),())) (fun x=>match x with
  | .inl _=>True
  | .inr v=>0≤v∧v≤3) trivial (fun i x hx=>by
   unfold endE at hx;split at hx
   ·rename_i y _;cases hm:metB r p y (1-p.turn)
    ·rw[hm] at hx;cases hx
    ·rw[hm,cond_true] at hx;cases hx;show 0≤(bif y.2.2.2.1 then 1+p.turn else 1+(1-p.turn))∧(bif y.2.2.2.1 then 1+p.turn else 1+(1-p.turn))≤3;cases y.2.2.2.1
     ·rw[cond_false];omega
     ·rw[cond_true];omega
   ·cases hx) r.2.2.2.2.2.2.2.1.length 0
 unfold qan;generalize scan (endE r p) (.inl ((),())) 0 r.2.2.2.2.2.2.2.1.length=z at hs
 cases z with
 | inr v=>exact hs
 | inl u =>
  show(0:Int)≤(bif (r.quiet !=0)&&decide (p.quiet≥r.quiet) then 3 else bif decide ((((qaA r p).length:Nat):Int)>0) then 0 else qmM r p)∧(bif (r.quiet !=0)&&decide (p.quiet≥r.quiet) then 3 else bif decide ((((qaA r p).length:Nat):Int)>0) then 0 else qmM r p)≤(3:Int);cases ((r.quiet !=0)&&decide (p.quiet≥r.quiet))
  ·rw[cond_false];cases decide ((((qaA r p).length:Nat):Int)>0)
   ·rw[cond_false];unfold qmM;cases (r.blocked==0)
    ·rw[cond_false];cases (r.blocked==1)
     ·rw[cond_false];omega
     ·rw[cond_true];omega
    ·rw[cond_true];omega
   ·rw[cond_true];omega
  ·rw[cond_true];omega
theorem qxg {r:Rules} {l:List Place} (h:Valid r (lastP l)):0≤qaa r l∧qaa r l≤3:=by
 have:=res_range h;unfold qaa;cases ((qan r (lastP l)==0)&&(r.repeats !=0))&&decide (((qjA l:Nat):Int)≥r.repeats)
 ·rw[cond_false];exact this
 ·rw[cond_true];omega
theorem lin_mem:∀(ms:List Mv) (q:Int) (k:Nat) (x:Int×Mv×ByteArray×Unit),x∈linN ms q k→(x.1=q∨∃j:Nat,x.1=(j:Int)∧j<k+ms.length)∧x.2.1∈ms∧x.2.2.1=ByteArray.mk #[]
 | [],_,_,x,h=>by cases h
 | m::ms,q,k,x,h=>by
  rcases List.mem_cons.1 h with rfl | h
  ·exact⟨.inl rfl,List.mem_cons_self,rfl⟩
  ·obtain⟨h1,h2,h3⟩:=lin_mem ms (k:Int) (k+1) x h;refine⟨.inr ?_,List.mem_cons_of_mem _ h2,h3⟩;rcases h1 with h1 | ⟨j,h1,h4⟩
   ·exact⟨k,h1,by simp⟩
   ·exact⟨j,h1,by simp;omega⟩
theorem rng_lin {ms:List Mv} {i:Nat} (hi:i<4) (hm:ms.length≤100) (hr:∀m∈ms,Rng tyMv m):Rng tyRec (recT ms i):=by
 have hn:∀x∈linN ms (-1) 0,Rng tyNode x:=fun x hx=>by
  obtain⟨h1,h2,h3⟩:=lin_mem ms (-1) 0 x hx;refine⟨?_,hr _ h2,?_,trivial⟩
  ·show(-9223372036854775808:Int)≤x.1∧x.1≤9223372036854775807
   rcases h1 with h1 | ⟨j,h1,h4⟩<;>omega
  ·rw[h3];exact Nat.zero_le _
 refine⟨⟨Nat.zero_le _,fun t ht=>by cases ht⟩,Nat.zero_le _,⟨?_,hn⟩,?_,trivial⟩
 ·show(linN ms (-1) 0).length≤Go.maxLen;rw[qe1];exact Nat.le_trans hm (by decide)
 ·show(-9223372036854775808:Int)≤(i:Int)∧(i:Int)≤9223372036854775807;omega
theorem line_lin (ms:List Mv) (i:Nat) (hm:ms.length≤100):qgk (recT ms i)=some ((List.range ms.length).map fun (t:Nat)=>(t:Int)):=by
 unfold qgk;have hk:=qoK ms i 0 (by omega);rw[show((0:Nat):Int)-1 = -1 from rfl] at hk;rw[hk,Option.bind_some]
 have:=qaq (f:=qde (recT ms i)) ms.length (fun t=>(((List.range t).map fun (t:Nat)=>(t:Int),(if t<ms.length then [(t:Int)] else []),()),())) (((List.range ms.length).map fun (t:Nat)=>(t:Int),()),()) (fun t ht=>by
  have hk:=qoK ms i (t+1) (by omega);rw[show((t+1:Nat):Int)-1=(t:Int) by omega] at hk;unfold qde;simp only[if_pos ht];rw[show decide (((([(t:Int)]:List Int).length:Nat):Int)>0)=true from rfl,cond_true,show inb 0 ([(t:Int)]:List Int).length=true from rfl,qc,qO (by simp only[List.length_map,List.length_range,List.length_cons,List.length_nil];omega),qc,qc,show getD' ([(t:Int)]:List Int) 0 0=(t:Int) from rfl,hk,Option.bind_some,List.range_succ,List.map_append]
  rfl) (by
  unfold qde;simp only[if_neg (Nat.lt_irrefl _)]
  rfl)
 simp only[List.range_zero,List.map_nil] at this;rw[this,Option.bind_some]
theorem main_lin {r:Rules} {ms:List Mv} {i:Nat} (hm:ms.length≤100) (hck:qax r (recT ms i)=some 0):qd8 r (recT ms i)=some (ms,(0,())):=by
 unfold qd8;rw[hck,Option.bind_some];simp only[bne_self_eq_false,cond_false];rw[line_lin ms i hm,Option.bind_some]
 have:=qaq (f:=qbU ((List.range ms.length).map fun (t:Nat)=>(t:Int)) (recT ms i)) ms.length (fun t=>((ms.take t,(t:Int),()),())) ((ms,()),()) (fun t ht=>by
  have hg:getD' ((List.range ms.length).map fun (t:Nat)=>(t:Int)) ((t:Int)).toNat 0=(t:Int):=by
   rw[Int.toNat_natCast];simp[getD',List.getD_eq_getElem?_getD,ht]
  obtain⟨q,hq⟩:=lin_at ms t ht;have hq:at? (recT ms i).2.2.1 (t:Int)=some (q,(ms[t],(ByteArray.mk #[],()))):=hq
  have hl:(ms.take t).length≤100:=by rw[List.length_take];omega
  unfold qbU;simp only[List.length_map,List.length_range];rw[decide_eq_true (show(t:Int)<((ms.length:Nat):Int) by omega),cond_true,inb_iff.2 ⟨by omega,by omega⟩,qc,hg,hq,Option.bind_some,qO (by simp only[List.length_cons,List.length_nil];omega),qc,qf (n:=(t:Int)+1) (by omega) (by omega),List.take_succ_eq_append_getElem ht]
  rfl) (by
  unfold qbU;simp only[List.length_map,List.length_range]
  rw[decide_eq_false (by omega),cond_false,List.take_length])
 rw[show iterW (qbU ((List.range ms.length).map fun (t:Nat)=>(t:Int)) (recT ms i)) ((([]:List Mv),(0:Int),()),())=_ from this,Option.bind_some]

abbrev CRule:=List (Int×Int×Unit)×Int×Int×Unit
abbrev Clk:=(Int×Int×Unit)×(Int×Int×Unit)×(Int×Int×Unit)×Int×Int×Bool×Int×Unit
def dPer:Int×Int×Unit:=(0,(0,()))
theorem qsA {A:Type} (l:List A) (i:Nat) (d:A) (h:i<l.length):l.getD i d=l[i]:=by simp[List.getD_eq_getElem?_getD,h]
theorem qrO {A:Type} (xs:List A) (i:Nat) (h:i<xs.length):at? xs (i:Int)=some xs[i]:=by
 rw[at?_eq xs _ (Int.natCast_nonneg i) (Int.ofNat_lt.2 h)];simp only[Int.toNat_natCast]
theorem qdA (n low high:Int):qg n low high=true↔low≤n∧n≤high:=by
 unfold qg;simp only[ge_iff_le,Bool.and_eq_true,decide_eq_true_eq]
def qvR (cr:CRule) (i:Nat):Int:=if (!(qg (cr.1.getD i dPer).1 0 400) || !(qg (cr.1.getD i dPer).2.1 1 100000000))=true then 4 else if (!(((cr.1.getD i dPer).1==0)==((i:Int)==((cr.1.length:Nat):Int)-1)))=true then 3 else 0
def chkC (cr:CRule):Int:=if (!(qg ((cr.1.length:Nat):Int) 1 5))=true then 2 else if (!(qg cr.2.1 0 100000000) || !(qg cr.2.2.1 0 100000000))=true then 4 else qaH (qvR cr) cr.1.length
theorem qpP (cr:CRule) (hl:cr.1.length≤9223372036854775807):qho cr=some (chkC cr):=by
 unfold qho chkC
 cases (!(qg ((cr.1.length:Nat):Int) 1 5)) with
 | true=>rfl
 | false =>
 cases (!(qg cr.2.1 0 100000000) || !(qg cr.2.2.1 0 100000000)) with
 | true=>rfl
 | false =>
  simp only[cond_false,Bool.false_eq_true,if_false];rw[qui cr.1.length (qe0 cr) (qvR cr) ((),()) (some 0) (fun i hi=>?_) (by unfold qe0;simp)]
  ·split
   ·rename_i h;rw[h]
   ·rfl
  ·unfold qe0 qvR;simp only[ltd cr.1 i hi,cond_true];rw[qrO cr.1 i hi,Option.bind_some,qsA cr.1 i dPer hi,qf (n:=(i:Int)+1) (by omega) (by omega),qf (n:=((cr.1.length:Nat):Int)-1) (by omega) (by omega)]
   cases (!(qg cr.1[i].1 0 400) || !(qg cr.1[i].2.1 1 100000000)) with
   | true=>simp
   | false =>
    simp only[cond_false,Bool.false_eq_true,if_false]
    cases (!((cr.1[i].1==0)==((i:Int)==((cr.1.length:Nat):Int)-1))) with
    | true=>simp
    | false=>simp
structure CROK (cr:CRule):Prop where
 len:1≤cr.1.length∧cr.1.length≤5
 inc:0≤cr.2.1∧cr.2.1≤100000000
 del:0≤cr.2.2.1∧cr.2.2.1≤100000000
 per:∀i (hi:i<cr.1.length),(0≤cr.1[i].1∧cr.1[i].1≤400)∧(1≤cr.1[i].2.1∧cr.1[i].2.1≤100000000)∧(cr.1[i].1=0↔i+1=cr.1.length)
theorem qnz {cr:CRule} (h:chkC cr=0):CROK cr:=by
 unfold chkC at h;split at h
 ·cases h
 ·rename_i h1;split at h
  ·cases h
  ·rename_i h2;simp only[Bool.or_eq_true,Bool.not_eq_true',not_or,Bool.not_eq_false,qdA] at h1 h2;refine⟨by omega,h2.1,h2.2,fun i hi=>?_⟩;have h3:=qd4 h i hi;unfold qvR at h3;rw[qsA cr.1 i dPer hi] at h3;split at h3
   ·cases h3
   ·rename_i h4;split at h3
    ·cases h3
    ·rename_i h5;simp only[Bool.or_eq_true,Bool.not_eq_true',not_or,Bool.not_eq_false,qdA] at h4;refine⟨h4.1,h4.2,?_⟩;simp only[Bool.not_eq_true',Bool.not_eq_false,beq_iff_eq] at h5;by_cases c:cr.1[i].1=0
     ·rw[beq_t c] at h5;have:=(beq_iff_eq.1 h5.symm)
      constructor<;>intro _<;>omega
     ·rw[beq_f c] at h5;have h6:=beq_eq_false_iff_ne.1 h5.symm;constructor
      ·intro e;exact absurd e c
      ·intro e;exact absurd (by omega) h6
structure VC (cr:CRule) (c:Clk):Prop where
 turn:0≤c.2.2.2.1∧c.2.2.2.1≤1
 fallen : -1≤c.2.2.2.2.2.2.1∧c.2.2.2.2.2.2.1≤1
 since:0≤c.2.2.2.2.1∧c.2.2.2.2.1≤100000000
 p0:0≤c.2.2.1.1∧c.2.2.1.1≤((cr.1.length:Nat):Int)-1
 p1:0≤c.2.2.1.2.1∧c.2.2.1.2.1≤((cr.1.length:Nat):Int)-1
 m0:0≤c.2.1.1∧c.2.1.1≤400
 m1:0≤c.2.1.2.1∧c.2.1.2.1≤400
 l0:0≤c.1.1∧c.1.1≤100000000000
 l1:0≤c.1.2.1∧c.1.2.1≤100000000000
def vcB (cr:CRule) (c:Clk):Bool:=((((((((qg c.2.2.2.1 0 1&&qg c.2.2.2.2.2.2.1 (-1) 1)&&qg c.2.2.2.2.1 0 100000000)&&qg c.2.2.1.1 0 (((cr.1.length:Nat):Int)-1))&&qg c.2.1.1 0 400)&&qg c.1.1 0 100000000000)&&qg c.2.2.1.2.1 0 (((cr.1.length:Nat):Int)-1))&&qg c.2.1.2.1 0 400)&&qg c.1.2.1 0 100000000000)
theorem quQ (cr:CRule) (c:Clk):vcB cr c=true↔VC cr c:=by
 unfold vcB;simp only[Bool.and_eq_true,qdA];constructor
 ·rintro ⟨⟨⟨⟨⟨⟨⟨⟨h1,h2⟩,h3⟩,h4⟩,h5⟩,h6⟩,h7⟩,h8⟩,h9⟩
  exact⟨h1,h2,h3,h4,h7,h5,h8,h6,h9⟩
 ·rintro ⟨h1,h2,h3,h4,h7,h5,h8,h6,h9⟩
  exact⟨⟨⟨⟨⟨⟨⟨⟨h1,h2⟩,h3⟩,h4⟩,h5⟩,h6⟩,h7⟩,h8⟩,h9⟩
theorem qlt (cr:CRule) (c:Clk) (hl:cr.1.length≤9223372036854775807):qjZ cr c=some (if chkC cr=0 then if vcB cr c=true then 0 else 4 else chkC cr):=by
 unfold qjZ;rw[qpP cr hl,Option.bind_some];by_cases c0:chkC cr=0
 ·rw[bne_f c0,cond_false,if_pos c0];have hw:=qf (n:=((cr.1.length:Nat):Int)-1) (by omega) (by omega);have s0:∀b:Bool,qci c cr ((b,(0:Int),()),())=some (.inl ((((b&&qg c.2.2.1.1 0 (((cr.1.length:Nat):Int)-1))&&qg c.2.1.1 0 400)&&qg c.1.1 0 100000000000,(1:Int),()),())):=fun b=>by
   unfold qci;simp only[hw,imp,show decide ((0:Int)<2)=true from rfl,cond_true,show inb (0:Int) 2=true from rfl];simp only[Bool.cond_self,qc];rfl
  have s1:∀b:Bool,qci c cr ((b,(1:Int),()),())=some (.inl ((((b&&qg c.2.2.1.2.1 0 (((cr.1.length:Nat):Int)-1))&&qg c.2.1.2.1 0 400)&&qg c.1.2.1 0 100000000000,(2:Int),()),())):=fun b=>by
   unfold qci;simp only[hw,imp,show decide ((1:Int)<2)=true from rfl,cond_true,show inb (1:Int) 2=true from rfl];simp only[Bool.cond_self,qc];rfl
  have s2:∀b:Bool,qci c cr ((b,(2:Int),()),())=some (.inr ((b,()),())):=fun b=>rfl;rw[qx (s0 _),qx (s1 _),qi (s2 _),Option.bind_some];show(bif !vcB cr c then some (4:Int) else some 0)=_
  cases vcB cr c<;>rfl
 ·rw[bne_t c0,cond_true,if_neg c0]
theorem qvg (cr:CRule) (c:Clk) (now:Int) (h1 : -1000000000≤now-c.2.2.2.2.1) (h2:now-c.2.2.2.2.1≤1000000000) (hd:0≤cr.2.2.1∧cr.2.2.1≤100000000):qu cr c now=bif c.2.2.2.2.2.1 then 0 else max 0 (now-c.2.2.2.2.1-cr.2.2.1):=by
 unfold qu;rw[qf (n:=now-c.2.2.2.2.1) (by omega) (by omega),qf (by omega) (by omega)];cases c.2.2.2.2.2.1
 ·simp only[cond_false]
  split<;>omega
 ·rfl
def leftT (c:Clk):Int:=if c.2.2.2.1=0 then c.1.1 else c.1.2.1
theorem look_some (cr:CRule) (c:Clk) (now:Int) (hl:cr.1.length≤9223372036854775807):∃c' e,qb2 cr c now=some (c',e,())∧(e=0∨c'.2.2.2.2.2.2.1=0):=by
 unfold qb2;rw[qlt cr c hl,Option.bind_some];by_cases c0:chkC cr=0
 ·rw[if_pos c0];by_cases cv:vcB cr c=true
  ·rw[if_pos cv,show((0:Int)!=0)=false from rfl,cond_false];have hv:=(quQ cr c).1 cv
   cases (!(qg now c.2.2.2.2.1 100000000)) with
   | true=>exact⟨_,_,rfl,.inr rfl⟩
   | false =>
    rw[cond_false];have hi:inb c.2.2.2.1 2=true:=inb_iff.2 ⟨hv.turn.1,by have:=hv.turn.2;omega⟩
    rw[hi,show imp (decide (c.2.2.2.2.2.2.1<0)) true=true by unfold imp;cases decide (c.2.2.2.2.2.2.1<0)<;>rfl,qc,qc]
    cases (decide (c.2.2.2.2.2.2.1<0)&&decide (qu cr c now>getD' [c.1.1,c.1.2.1] (c.2.2.2.1).toNat 0)) with
    | true=>exact⟨_,_,rfl,.inl rfl⟩
    | false=>exact⟨_,_,rfl,.inl rfl⟩
  ·rw[if_neg cv];exact⟨_,_,rfl,.inr rfl⟩
 ·rw[if_neg c0,bne_t c0,cond_true];exact⟨_,_,rfl,.inr rfl⟩
structure GoodC (cr:CRule) (c:Clk) (now:Int):Prop where
 ok:chkC cr=0
 v:VC cr c
 now0:c.2.2.2.2.1≤now
 now1:now≤100000000
 up:c.2.2.2.2.2.2.1 = -1
 run:c.2.2.2.2.2.1=false
 used:max 0 (now-c.2.2.2.2.1-cr.2.2.1)≤leftT c
theorem left_eq {cr:CRule} {c:Clk} (hv:VC cr c):getD' [c.1.1,c.1.2.1] (c.2.2.2.1).toNat 0=leftT c:=by
 have h:=hv.turn;unfold leftT;by_cases h0:c.2.2.2.1=0
 ·rw[if_pos h0,h0];rfl
 ·rw[if_neg h0,show c.2.2.2.1=1 by omega];rfl
theorem qth {cr:CRule} {c:Clk} {now:Int} (hl:cr.1.length≤9223372036854775807) (h:GoodC cr c now):qb2 cr c now=some (c,0,()):=by
 unfold qb2;have hcr:=qnz h.ok;have hs:=h.v.since;have h0:=h.now0;have h1:=h.now1;rw[qlt cr c hl,Option.bind_some,if_pos h.ok,if_pos ((quQ cr c).2 h.v),show((0:Int)!=0)=false from rfl,cond_false,(qdA now _ _).2 ⟨h0,h1⟩,Bool.not_true,cond_false];have hi:inb c.2.2.2.1 2=true:=inb_iff.2 ⟨h.v.turn.1,by have:=h.v.turn.2;omega⟩
 rw[hi,show imp (decide (c.2.2.2.2.2.2.1<0)) true=true by unfold imp;cases decide (c.2.2.2.2.2.2.1<0)<;>rfl,qc,qc,left_eq h.v,qvg cr c now (by omega) (by omega) hcr.del,h.run,cond_false]
 have hu:=h.used;rw[show decide (max 0 (now-c.2.2.2.2.1-cr.2.2.1)>leftT c)=false by rw[decide_eq_false_iff_not];omega,Bool.and_false,cond_false,Option.bind_some]
theorem good_of {cr:CRule} {c c':Clk} {now e:Int} (hl:cr.1.length≤9223372036854775807) (h:qb2 cr c now=some (c',e,())) (hf:c'.2.2.2.2.2.2.1<0) (hr:c.2.2.2.2.2.1=false):GoodC cr c now:=by
 unfold qb2 at h;rw[qlt cr c hl,Option.bind_some] at h;by_cases c0:chkC cr=0
 ·rw[if_pos c0] at h;by_cases cv:vcB cr c=true
  ·rw[if_pos cv,show((0:Int)!=0)=false from rfl,cond_false] at h;have hv:=(quQ cr c).1 cv;have hs:=hv.since;have hcr:=qnz c0
   cases hw:qg now c.2.2.2.2.1 100000000 with
   | false =>
    rw[hw,Bool.not_false,cond_true] at h;cases h;exact absurd hf (by decide)
   | true =>
    obtain⟨w0,w1⟩:=(qdA _ _ _).1 hw;rw[hw,Bool.not_true,cond_false] at h;have hi:inb c.2.2.2.1 2=true:=inb_iff.2 ⟨hv.turn.1,by have:=hv.turn.2;omega⟩
    rw[hi,show imp (decide (c.2.2.2.2.2.2.1<0)) true=true by unfold imp;cases decide (c.2.2.2.2.2.2.1<0)<;>rfl,qc,qc,left_eq hv,qvg cr c now (by omega) (by omega) hcr.del,hr,cond_false] at h
    by_cases hc:c.2.2.2.2.2.2.1<0
    ·by_cases hu:max 0 (now-c.2.2.2.2.1-cr.2.2.1)>leftT c
     ·rw[decide_eq_true hc,decide_eq_true hu,Bool.and_self,cond_true,Option.bind_some] at h;cases h;have:c.2.2.2.1<0:=hf;have:=hv.turn.1;omega
     ·exact⟨c0,hv,w0,w1,by have:=hv.fallen.1;omega,hr,by omega⟩
    ·rw[decide_eq_false hc,Bool.false_and,cond_false,Option.bind_some] at h;cases h;exact absurd hf hc
  ·rw[if_neg cv] at h;cases h;exact absurd hf (by decide)
 ·rw[if_neg c0,bne_t c0,cond_true] at h;cases h;exact absurd hf (by decide)
theorem qxs {cr:CRule} {c:Clk} {now:Int} (hl:cr.1.length≤9223372036854775807) (h:GoodC cr c now):qjE cr c now false=some (c,0,()):=by
 unfold qjE;rw[qth hl h,Option.bind_some];simp only[show((0:Int)!=0)=false from rfl,cond_false,h.up,show decide ((-1:Int)≥0)=false from rfl,h.run,show(!(false==false))=false from rfl]
def perAt (cr:CRule) (k:Int):Int×Int×Unit:=cr.1.getD k.toNat dPer
def qf2 (cr:CRule) (c:Clk) (now:Int):Clk :=
 if c.2.2.2.1=0 then
  let L:=min 100000000000 (c.1.1-max 0 (now-c.2.2.2.2.1-cr.2.2.1)+cr.2.1)
  let M:=min 400 (c.2.1.1+1)
  if 0<(perAt cr c.2.2.1.1).1∧(perAt cr c.2.2.1.1).1≤M then((min 100000000000 (L+(perAt cr (c.2.2.1.1+1)).2.1),(c.1.2.1,())),((0,(c.2.1.2.1,())),((c.2.2.1.1+1,(c.2.2.1.2.1,())),(1,(now,(false,(-1,())))))))
  else((L,(c.1.2.1,())),((M,(c.2.1.2.1,())),((c.2.2.1.1,(c.2.2.1.2.1,())),(1,(now,(false,(-1,())))))))
 else
  let L:=min 100000000000 (c.1.2.1-max 0 (now-c.2.2.2.2.1-cr.2.2.1)+cr.2.1)
  let M:=min 400 (c.2.1.2.1+1)
  if 0<(perAt cr c.2.2.1.2.1).1∧(perAt cr c.2.2.1.2.1).1≤M then((c.1.1,(min 100000000000 (L+(perAt cr (c.2.2.1.2.1+1)).2.1),())),((c.2.1.1,(0,())),((c.2.2.1.1,(c.2.2.1.2.1+1,())),(0,(now,(false,(-1,())))))))
  else((c.1.1,(L,())),((c.2.1.1,(M,())),((c.2.2.1.1,(c.2.2.1.2.1,())),(0,(now,(false,(-1,())))))))
theorem qkA {cr:CRule} (hcr:CROK cr) {k:Int} (h0:0≤k) (h1:k≤((cr.1.length:Nat):Int)-1):at? cr.1 k=some (perAt cr k)∧(0≤(perAt cr k).1∧(perAt cr k).1≤400)∧(1≤(perAt cr k).2.1∧(perAt cr k).2.1≤100000000)∧(0<(perAt cr k).1→k+1≤((cr.1.length:Nat):Int)-1):=by
 obtain⟨n,rfl⟩:∃n:Nat,k=(n:Int):=⟨k.toNat,by omega⟩
 have hn:n<cr.1.length:=by omega
 have e:perAt cr (n:Int)=cr.1[n]:=by unfold perAt;rw[Int.toNat_natCast,qsA cr.1 n dPer hn]
 rw[qrO cr.1 n hn,e];obtain⟨p1,p2,p3⟩:=hcr.per n hn;refine⟨rfl,p1,p2,fun h=>?_⟩
 have:¬(n+1=cr.1.length):=fun q=>by rw[p3.2 q] at h;omega
 omega
theorem min_if (a b:Int):(if a<b then a else b)=min a b:=by omega
theorem left_nn {cr:CRule} {c:Clk} (hv:VC cr c):0≤leftT c:=by
 unfold leftT;have h0:=hv.l0;have h1:=hv.l1
 split<;>omega
theorem qrm {cr:CRule} {c:Clk} {now:Int} (hl:cr.1.length≤9223372036854775807) (h:GoodC cr c now):qjF cr c now=some (qf2 cr c now,0,())∧GoodC cr (qf2 cr c now) now∧(qf2 cr c now).2.2.2.1=1-c.2.2.2.1∧(qf2 cr c now).2.2.2.2.1=now:=by
 have hcr:=qnz h.ok;have hv:=h.v;have hs:=hv.since;have n0:=h.now0;have n1:=h.now1;have hi:=hcr.inc;have hd:=hcr.del;have hu:=h.used;have hlen:=hcr.len;have f1:GoodC cr (qf2 cr c now) now∧(qf2 cr c now).2.2.2.1=1-c.2.2.2.1∧(qf2 cr c now).2.2.2.2.1=now:=by
  have ht:=hv.turn;have a0:=hv.l0;have a1:=hv.l1;have b0:=hv.m0;have b1:=hv.m1;have c0:=hv.p0;have c1:=hv.p1;unfold leftT at hu;unfold qf2;by_cases t0:c.2.2.2.1=0
  ·rw[if_pos t0] at hu ⊢;obtain⟨_,q1,q2,q3⟩:=qkA hcr hv.p0.1 hv.p0.2;by_cases hm:0<(perAt cr c.2.2.1.1).1∧(perAt cr c.2.2.1.1).1≤min 400 (c.2.1.1+1)
   ·rw[if_pos hm];have hq:=q3 hm.1;obtain⟨_,r1,r2,r3⟩:=qkA hcr (k:=c.2.2.1.1+1) (by omega) (by omega);refine⟨⟨h.ok,⟨?_,?_,?_,?_,?_,?_,?_,?_,?_⟩,?_,n1,rfl,rfl,?_⟩,?_,rfl⟩
    all_goals try (unfold leftT)
    all_goals simp only
    all_goals omega
   ·rw[if_neg hm];refine⟨⟨h.ok,⟨?_,?_,?_,?_,?_,?_,?_,?_,?_⟩,?_,n1,rfl,rfl,?_⟩,?_,rfl⟩
    all_goals try (unfold leftT)
    all_goals simp only
    all_goals omega
  ·rw[if_neg t0] at hu ⊢;obtain⟨_,q1,q2,q3⟩:=qkA hcr hv.p1.1 hv.p1.2;by_cases hm:0<(perAt cr c.2.2.1.2.1).1∧(perAt cr c.2.2.1.2.1).1≤min 400 (c.2.1.2.1+1)
   ·rw[if_pos hm];have hq:=q3 hm.1;obtain⟨_,r1,r2,r3⟩:=qkA hcr (k:=c.2.2.1.2.1+1) (by omega) (by omega);refine⟨⟨h.ok,⟨?_,?_,?_,?_,?_,?_,?_,?_,?_⟩,?_,n1,rfl,rfl,?_⟩,?_,rfl⟩
    all_goals try (unfold leftT)
    all_goals simp only
    all_goals omega
   ·rw[if_neg hm];refine⟨⟨h.ok,⟨?_,?_,?_,?_,?_,?_,?_,?_,?_⟩,?_,n1,rfl,rfl,?_⟩,?_,rfl⟩
    all_goals try (unfold leftT)
    all_goals simp only
    all_goals omega
 refine⟨?_,f1⟩;unfold qjF;rw[qxs hl h,Option.bind_some];simp only[show((0:Int)!=0)=false from rfl,cond_false,qvg cr c now (by omega) (by omega) hd,h.run];obtain⟨⟨l0,l1,u1⟩,⟨m0,m1,u2⟩,⟨p0,p1,u3⟩,turn,since,stopped,fallen,u4⟩:=c;have ht:=hv.turn;have a0:=hv.l0;have a1:=hv.l1;have b0:=hv.m0;have b1:=hv.m1;have c0:=hv.p0;have c1:=hv.p1;have hup:=h.up;have hrun:=h.run;unfold leftT at hu;simp only at ht a0 a1 b0 b1 c0 c1 hup hrun hs n0 hu;by_cases t0:turn=0
 ·subst t0;rw[if_pos rfl] at hu;obtain⟨q0,q1,q2,q3⟩:=qkA hcr c0.1 c0.2
  have e1:w64 (w64 (l0-max 0 (now-since-cr.2.2.1))+cr.2.1)=l0-max 0 (now-since-cr.2.2.1)+cr.2.1:=by rw[qf (n:=l0-max 0 (now-since-cr.2.2.1)) (by omega) (by omega),qf (by omega) (by omega)]
  have e2:w64 (m0+1)=m0+1:=qf (by omega) (by omega);have e3:w64 (p0+1)=p0+1:=qf (by omega) (by omega);have g0:∀a b:Int,getD' [a,b] (0:Int).toNat 0=a:=fun a b=>rfl;have i0:inb (0:Int) 2=true:=rfl;have b00:((0:Int)==0)=true:=rfl;have b01:((0:Int)==1)=false:=rfl
  have him:∀b:Bool,imp b true=true:=fun b=>by cases b<;>rfl
  simp only[g0,i0,b00,b01,cond_true,cond_false,qc,q0,Option.bind_some,e1,e2,e3,min_if,him];unfold qf2;simp only[if_true];by_cases hm:0<(perAt cr p0).1∧(perAt cr p0).1≤min 400 (m0+1)
  ·have hq:=q3 hm.1;obtain⟨r0,r1,r2,r3⟩:=qkA hcr (k:=p0+1) (by omega) (by omega)
   have hb:(decide ((perAt cr p0).1>0)&&decide (min 400 (m0+1)≥(perAt cr p0).1))=true:=by simp only[Bool.and_eq_true,decide_eq_true_eq];omega
   have e4:w64 (min 100000000000 (l0-max 0 (now-since-cr.2.2.1)+cr.2.1)+(perAt cr (p0+1)).2.1)=min 100000000000 (l0-max 0 (now-since-cr.2.2.1)+cr.2.1)+(perAt cr (p0+1)).2.1:=qf (by omega) (by omega);rw[if_pos hm];simp only[hb,cond_true,r0,Option.bind_some,e4];subst hup hrun;rfl
  ·have hb:(decide ((perAt cr p0).1>0)&&decide (min 400 (m0+1)≥(perAt cr p0).1))=false:=by
    rw[Bool.eq_false_iff];intro q;simp only[Bool.and_eq_true,decide_eq_true_eq] at q;omega
   rw[if_neg hm];simp only[hb,cond_false,Option.bind_some];subst hup hrun;rfl
 ·obtain rfl:turn=1:=by omega
  rw[if_neg t0] at hu;obtain⟨q0,q1,q2,q3⟩:=qkA hcr c1.1 c1.2
  have e1:w64 (w64 (l1-max 0 (now-since-cr.2.2.1))+cr.2.1)=l1-max 0 (now-since-cr.2.2.1)+cr.2.1:=by rw[qf (n:=l1-max 0 (now-since-cr.2.2.1)) (by omega) (by omega),qf (by omega) (by omega)]
  have e2:w64 (m1+1)=m1+1:=qf (by omega) (by omega);have e3:w64 (p1+1)=p1+1:=qf (by omega) (by omega);have g0:∀a b:Int,getD' [a,b] (1:Int).toNat 0=b:=fun a b=>rfl;have i0:inb (1:Int) 2=true:=rfl;have b00:((1:Int)==0)=false:=rfl;have b01:((1:Int)==1)=true:=rfl
  have him:∀b:Bool,imp b true=true:=fun b=>by cases b<;>rfl
  simp only[g0,i0,b00,b01,cond_true,cond_false,qc,q0,Option.bind_some,e1,e2,e3,min_if,him];unfold qf2;simp only[show((1:Int)=0)=False from by simp,if_false];by_cases hm:0<(perAt cr p1).1∧(perAt cr p1).1≤min 400 (m1+1)
  ·have hq:=q3 hm.1;obtain⟨r0,r1,r2,r3⟩:=qkA hcr (k:=p1+1) (by omega) (by omega)
   have hb:(decide ((perAt cr p1).1>0)&&decide (min 400 (m1+1)≥(perAt cr p1).1))=true:=by simp only[Bool.and_eq_true,decide_eq_true_eq];omega
   have e4:w64 (min 100000000000 (l1-max 0 (now-since-cr.2.2.1)+cr.2.1)+(perAt cr (p1+1)).2.1)=min 100000000000 (l1-max 0 (now-since-cr.2.2.1)+cr.2.1)+(perAt cr (p1+1)).2.1:=qf (by omega) (by omega);rw[if_pos hm];simp only[hb,cond_true,r0,Option.bind_some,e4];subst hup hrun;rfl
  ·have hb:(decide ((perAt cr p1).1>0)&&decide (min 400 (m1+1)≥(perAt cr p1).1))=false:=by
    rw[Bool.eq_false_iff];intro q;simp only[Bool.and_eq_true,decide_eq_true_eq] at q;omega
   rw[if_neg hm];simp only[hb,cond_false,Option.bind_some];subst hup hrun;rfl

abbrev Offs:=(Int×Int×Unit)×((Int×Int×Unit)×(Int×Int×Unit)×Unit)×Unit
def offL (p:Int×Int×Unit):Bool:=(decide (p.1 < -1)||decide (p.1>400))||(decide (p.2.1 < -1)||decide (p.2.1>400))
theorem ocheckL2 (p:Int×Int×Unit):iterW (qce ((p,(0:Int),()),())) (((0:Int),()),())=some (bif offL p then .inr (.inr (.inr (.inr 4))) else .inl ((),())):=by
 have s0:qce ((p,(0:Int),()),()) (((0:Int),()),())=bif (decide (p.1 < -1)||decide (p.1>400)) then some (.inr (.inr (.inr (.inr (.inr 4))))) else some (.inl (((1:Int),()),())):=rfl;have s1:qce ((p,(0:Int),()),()) (((1:Int),()),())=bif (decide (p.2.1 < -1)||decide (p.2.1>400)) then some (.inr (.inr (.inr (.inr (.inr 4))))) else some (.inl (((2:Int),()),())):=rfl;have s2:qce ((p,(0:Int),()),()) (((2:Int),()),())=some (.inr (.inl ((),()))):=rfl;unfold offL;cases h0:(decide (p.1 < -1)||decide (p.1>400))
 ·rw[h0,cond_false] at s0;rw[qx s0];cases h1:(decide (p.2.1 < -1)||decide (p.2.1>400))
  ·rw[h1,cond_false] at s1;rw[qx s1,qi s2];rfl
  ·rw[h1,cond_true] at s1;rw[qi s1];rfl
 ·rw[h0,cond_true] at s0;rw[qi s0];rfl
def offK (p:Int×Int×Unit) (b:Int):Int:=if offL p=true then 4 else if (decide (b < -1)||decide (b>1))=true then 4 else if b=0∧p.1 = -1∨b=1∧p.2.1 = -1 then 3 else 0
def offE (o:Offs):Int:=if offK o.2.1.1 o.1.1=0 then offK o.2.1.2.1 o.1.2.1 else offK o.2.1.1 o.1.1
theorem him (b:Bool):imp b true=true:=by cases b<;>rfl
theorem qux (o:Offs):qjV o=some (offE o):=by
 have step:∀(i:Int) (p:Int×Int×Unit) (b:Int),(i=0∧p=o.2.1.1∧b=o.1.1∨i=1∧p=o.2.1.2.1∧b=o.1.2.1)→qeO o ((i,()),())=some (if offK p b=0 then .inl ((i+1,()),()) else .inr (.inr (offK p b))):=by
  intro i p b h
  have e:qeO o ((i,()),())=(Option.bind (α:=((Unit)×(Unit)) ⊕ (((Int×Unit)×(Unit)) ⊕ (((Unit)×(Unit)) ⊕ Int))) (Option.bind (α:=((Unit)×(Unit)) ⊕ (((Unit)×(Unit)) ⊕ (((Int×Unit)×(Unit)) ⊕ (((Unit)×(Unit)) ⊕ Int)))) (iterW (qce ((p,(0:Int),()),())) (((0:Int),()),())) (Sum.elim (fun x4 =>
    bif ((decide (b<(-1:Int)))||(decide (b>(1:Int)))) then some (Sum.inr (Sum.inr (Sum.inr (4:Int))))
    else Option.bind (req (imp (decide (b≥(0:Int))) true) (req (imp (decide (b≥(0:Int))) (inb b 2)) (some ((((decide (b≥(0:Int)))&&((getD' [p.1,p.2.1] (b.toNat) 0)==(-1:Int))),()),())))) fun x5:(Bool×Unit)×Unit =>
    bif x5.1.1 then some (Sum.inr (Sum.inr (Sum.inr (3:Int))))
    else some (Sum.inl ((),()))) some)) (Sum.elim (fun x6=>some (Sum.inl ((w64 (i+(1:Int)),()),()))) some)):=by
   rcases h with ⟨rfl,rfl,rfl⟩ | ⟨rfl,rfl,rfl⟩
   ·rfl
   ·rfl
  have hi:w64 (i+1)=i+1:=by rcases h with ⟨rfl,_⟩ | ⟨rfl,_⟩<;>rfl
  rw[e,ocheckL2,hi];unfold offK;cases hL:offL p
  ·simp only[cond_false,Bool.false_eq_true,if_false,Option.bind_some,Sum.elim_inl];cases hb:(decide (b < -1)||decide (b>1))
   ·simp only[cond_false,Bool.false_eq_true,if_false];simp only[Bool.or_eq_false_iff,decide_eq_false_iff_not] at hb;by_cases b0:b = -1
    ·subst b0;rfl
    ·by_cases b1:b=0
     ·subst b1;have hg:getD' [p.1,p.2.1] ((0:Int).toNat) 0=p.1:=rfl;rw[hg];simp only[show decide ((0:Int)≥0)=true from rfl,show inb (0:Int) 2=true from rfl,him,qc,Option.bind_some,Bool.true_and];by_cases q:p.1 = -1
      ·rw[beq_t q];simp[q]
      ·rw[beq_f q];simp[q]
     ·obtain rfl:b=1:=by omega
      have hg:getD' [p.1,p.2.1] ((1:Int).toNat) 0=p.2.1:=rfl;rw[hg];simp only[show decide ((1:Int)≥0)=true from rfl,show inb (1:Int) 2=true from rfl,him,qc,Option.bind_some,Bool.true_and];by_cases q:p.2.1 = -1
      ·rw[beq_t q];simp[q]
      ·rw[beq_f q];simp[q]
   ·rfl
  ·rfl
 unfold qjV offE;have s0:=step 0 o.2.1.1 o.1.1 (.inl ⟨rfl,rfl,rfl⟩);have s1:=step 1 o.2.1.2.1 o.1.2.1 (.inr ⟨rfl,rfl,rfl⟩);have s2:qeO o (((2:Int),()),())=some (.inr (.inl ((),()))):=rfl;by_cases c0:offK o.2.1.1 o.1.1=0
 ·rw[if_pos c0] at s0 ⊢;rw[qx s0];by_cases c1:offK o.2.1.2.1 o.1.2.1=0
  ·rw[if_pos c1] at s1;rw[show(0:Int)+1=1 from rfl,qx s1,show(1:Int)+1=2 from rfl,qi s2,c1];rfl
  ·rw[if_neg c1] at s1;rw[show(0:Int)+1=1 from rfl,qi s1];rfl
 ·rw[if_neg c0] at s0 ⊢;rw[qi s0];rfl
def offEi (o:Offs) (kind player moves:Int):Int:=if offE o=0 then if (((((kind !=0)&&(kind !=1))||((player !=0)&&(player !=1)))||decide (moves<0))||decide (moves>400))=true then 1 else 0 else offE o
theorem qtF (o:Offs) (kind player moves:Int):qfX o kind player moves=some (offEi o kind player moves):=by
 unfold qfX offEi;rw[qux,Option.bind_some];by_cases c:offE o=0
 ·rw[bne_f c,cond_false,if_pos c]
  cases (((((kind !=0)&&(kind !=1))||((player !=0)&&(player !=1)))||decide (moves<0))||decide (moves>400))<;>rfl
 ·rw[bne_t c,cond_true,if_neg c]
theorem qw3 (o:Offs) (player:Int):∃o' e,qg7 o player=some (o',e,()):=by
 unfold qg7;rw[qtF,Option.bind_some];by_cases c:offEi o 0 player 0=0
 ·rw[bne_f c,cond_false]
  cases (o.1.1==w64 (1-player))<;>exact⟨_,_,rfl⟩
 ·rw[bne_t c,cond_true];exact⟨_,_,rfl⟩

theorem qwA {u:Nat} (h:u<10):(UInt8.ofNat (48+u)).toNat=48+u:=by
 rw[UInt8.toNat_ofNat'];omega
theorem dec_mem (u:Nat):∀c∈Go.Lib.decDigits u,48≤c.toNat∧c.toNat≤57:=by
 induction u using Nat.strongRecOn with
 | _ u ih =>
  intro c hc;rw[Go.Lib.decDigits] at hc;split at hc
  ·rename_i h;rw[List.mem_singleton.1 hc,qwA h];omega
  ·rename_i h;rcases List.mem_append.1 hc with hc | hc
   ·exact ih (u / 10) (by omega) c hc
   ·rw[List.mem_singleton.1 hc,qwA (by omega)];omega
def I64 (n:Int):Prop := -9223372036854775808≤n∧n≤9223372036854775807
def numS (n:Int):ByteArray:=⟨(Go.Lib.itoa n).toArray⟩
theorem qwg {n:Int} (h:I64 n):itoaS n=some (numS n):=by
 unfold itoaS;rw[decide_eq_true h.1,decide_eq_true h.2];rfl
theorem qwb (n:Int):(numS n).data.toList=Go.Lib.itoa n:=by unfold numS;simp
theorem num_mem (n:Int):∀c∈(numS n).data.toList,c.toNat=45∨48≤c.toNat∧c.toNat≤57:=by
 rw[qwb];intro c hc;unfold Go.Lib.itoa at hc;split at hc
 ·rcases List.mem_cons.1 hc with rfl | hc
  ·exact .inl rfl
  ·exact .inr (dec_mem _ c hc)
 ·exact .inr (dec_mem _ c hc)
theorem qwa {n:Int} (h:I64 n):(numS n).size≤21:=by
 rw[qgN,qwb];exact Go.Lib.itoa_length_le n h.1 h.2
def OKT (s:ByteArray):Prop:=s.size≤200∧∀c∈s.data.toList,32≤c.toNat∧c.toNat≤126
theorem qv4 {s:ByteArray} (h:OKT s):qay s=0:=by
 unfold qay;rw[if_neg (by have:=h.1;omega)];have:∀(f pos:Nat),Go.Lib.idxFuncFrom qjy true s f pos = -1:=by
  intro f
  induction f with
  | zero=>intro pos;rfl
  | succ f ih =>
   intro pos;unfold Go.Lib.idxFuncFrom;by_cases hp:pos<s.size
   ·have hm:=h.2 s[pos] (by
     rw[List.mem_iff_getElem]
     exact⟨pos,by rw[←qgN];exact hp,rfl⟩)
    have hd:=decode_ascii s pos hp (by omega);rw[if_pos hp,hd,ih];have:qjy (s[pos]'hp).toNat=false:=by
     unfold qjy;simp only[Bool.or_eq_false_iff,decide_eq_false_iff_not];omega
    rw[this];rfl
   ·rw[if_neg hp]
 unfold Go.Lib.idxFunc;rw[this];rfl
abbrev Ev:=Int×Int×Int×Int×Mv×Unit
structure EvR (e:Ev):Prop where
 kind:I64 e.1
 player:I64 e.2.1
 n:I64 e.2.2.1
 now:I64 e.2.2.2.1
 a:I64 e.2.2.2.2.1.1
 b:I64 e.2.2.2.2.1.2.1
 c:I64 e.2.2.2.2.1.2.2.1
def evL (e:Ev):List Int:=[e.1,e.2.1,e.2.2.1,e.2.2.2.1,e.2.2.2.2.1.1,e.2.2.2.2.1.2.1,e.2.2.2.2.1.2.2.1]
theorem EvR.all {e:Ev} (h:EvR e):∀n∈evL e,I64 n:=by
 intro n hn;simp only[evL,List.mem_cons,List.not_mem_nil,or_false] at hn;rcases hn with rfl | rfl | rfl | rfl | rfl | rfl | rfl
 ·exact h.kind
 ·exact h.player
 ·exact h.n
 ·exact h.now
 ·exact h.a
 ·exact h.b
 ·exact h.c
def qiK (e:Ev):ByteArray:=joinB 32 ((evL e).map numS)
theorem qlG (e:Ev) (h:EvR e):((evL e).map numS).length=7∧∀x∈(evL e).map numS,x.size≤21:=by
 refine⟨rfl,fun x hx=>?_⟩;obtain⟨n,hn,rfl⟩:=List.mem_map.1 hx;exact qwa (h.all n hn)
theorem qqT (e:Ev) (h:EvR e):(qiK e).size≤154:=by
 have:=qnx 32 21 ((evL e).map numS) (qlG e h).2;rw[(qlG e h).1] at this;exact this
theorem qwS (e:Ev) (h:EvR e):qjT e=some (qiK e):=by
 unfold qjT;have step:∀(i:Nat) (hi:i<7) (l:List ByteArray),l.length≤7→qc1 e ((l,(i:Int),()),())=some (.inl ((l++[numS ((evL e)[i]'hi)],((i+1:Nat):Int),()),())):=by
  intro i hi l hl;unfold qc1;have hg:getD' [e.1,e.2.1,e.2.2.1,e.2.2.2.1,e.2.2.2.2.1.1,e.2.2.2.2.1.2.1,e.2.2.2.2.1.2.2.1] ((i:Int)).toNat (0:Int)=(evL e)[i]'hi:=by
   rw[Int.toNat_natCast];show getD' (evL e) i 0=_;rw[gd_eq (evL e) i hi]
  have hn:I64 ((evL e)[i]'hi):=h.all _ (List.getElem_mem (l:=evL e) hi);simp only[show decide ((i:Int)<7)=true by simp;omega,cond_true];rw[show inb (i:Int) 7=true from inb_iff.2 ⟨by omega,by omega⟩,qc,hg,qwg hn,Option.bind_some,qO (by simp only[List.length_cons,List.length_nil];omega),qc,qf (by omega) (by omega)];rfl
 have all:∀(k i:Nat),i+k=7→iterW (qc1 e) ((((evL e).take i).map numS,(i:Int),()),())=some (((evL e).map numS,()),()):=by
  intro k
  induction k with
  | zero =>
   intro i hi
   have:i=7:=by omega
   subst this;refine qi ?_;rw[List.take_of_length_le (by exact Nat.le_refl _)];rfl
  | succ k ih =>
   intro i hi
   have hi7:i<7:=by omega
   rw[qx (step i hi7 _ (by rw[List.length_map,List.length_take];show min i 7≤7;omega))];have:=ih (i+1) (by omega);rw[List.take_succ_eq_append_getElem (show i<(evL e).length from hi7),List.map_append] at this;exact this
 have h0:=all 7 0 (by omega);rw[List.take_zero] at h0;have h0':iterW (qc1 e) ((([]:List ByteArray),(0:Int),()),())=_:=h0;rw[h0',Option.bind_some];have hsz:=qqT e h;have hj:=qnF 32 ((evL e).map numS) (by rw[(qlG e h).1];omega) (by unfold qiK at hsz;omega);have hj':joinS ((((evL e).map numS,()),()):(List ByteArray×Unit)×Unit).1.1 (ByteArray.mk #[32])=some (qiK e):=hj;rw[hj'];rfl
theorem qwI (c d:UInt8):∀l:List ByteArray,d∈(joinB c l).data.toList→d=c∨∃x∈l,d∈x.data.toList
 | [],h=>by rw[qo6] at h;cases h
 | [x],h=>by rw[qiV] at h;exact .inr ⟨x,by simp,h⟩
 | x::y::l,h=>by
  rw[qhr,qml,qml] at h;rcases List.mem_append.1 h with h | h
  ·rcases List.mem_append.1 h with h | h
   ·exact .inr ⟨x,by simp,h⟩
   ·exact .inl (List.mem_singleton.1 h)
  ·rcases qwI c d (y::l) h with h | ⟨z,hz,h⟩
   ·exact .inl h
   ·exact .inr ⟨z,List.mem_cons_of_mem _ hz,h⟩
theorem entry_ok (e:Ev) (h:EvR e):OKT (qiK e):=by
 refine⟨by have:=qqT e h;omega,fun c hc=>?_⟩;rcases qwI 32 c _ hc with rfl | ⟨x,hx,hc⟩
 ·decide
 ·obtain⟨n,_,rfl⟩:=List.mem_map.1 hx;have:=num_mem n c hc;omega
abbrev Jn:=List (ByteArray×Int×Unit)
noncomputable def sumJ (b:Int) (s:ByteArray):Int:=(qdK b s).getD 0
theorem qwD (b:Int) (s:ByteArray) (hs:s.size≤1000000):qdK b s=some (sumJ b s):=by
 have:∃v,qdK b s=some v:=by
  unfold qdK;have key:∀(k i:Nat) (h:Int),i+k=s.size→∃h',iterW (qcl s) ((h,(i:Int),()),())=some ((h',()),()):=by
   intro k
   induction k with
   | zero =>
    intro i h hi
    have:i=s.size:=by omega
    subst this;refine⟨h,qi ?_⟩;unfold qcl;simp
   | succ k ih =>
    intro i h hi;obtain⟨c,hc⟩:∃c,strAt s (i:Int)=some c:=by
     have hi2:i<s.size:=by omega
     refine⟨s[i],?_⟩;unfold strAt;rw[show decide ((0:Int)≤(i:Int))=true by simp,cond_true,Int.toNat_natCast];simp[hi2]
    have e:qcl s ((h,(i:Int),()),())=some (.inl ((wu64 ((ixor .u64 h (wu64 ((c.toNat:Nat):Int)))*1099511628211),((i+1:Nat):Int),()),())):=by
     unfold qcl;simp only[show decide ((i:Int)<((s.size:Nat):Int))=true by simp;omega,cond_true];rw[hc,Option.bind_some,qf (by omega) (by omega)];rfl
    rw[qx e];exact ih (i+1) _ (by omega)
  obtain⟨h',hh⟩:=key s.size 0 (ixor .u64 b 14695981039346656037) (by omega);have hh':iterW (qcl s) (((ixor .u64 b 14695981039346656037),(0:Int),()),())=_:=hh;rw[hh',Option.bind_some];exact⟨_,rfl⟩
 obtain⟨v,hv⟩:=this;unfold sumJ;rw[hv];rfl
def lastJ (l:Jn):Int:=match l.getLast? with
 | some x=>x.2.1
 | none=>0
theorem qrN (l:Jn) (hl:l.length≤1000000):qdI l=some (lastJ l):=by
 unfold qdI lastJ;by_cases h:l=[]
 ·subst h;rfl
 ·have h0:0<l.length:=List.length_pos_iff.2 h;rw[beq_f (by omega),cond_false,qf (by omega) (by omega),show((l.length:Nat):Int)-1=((l.length-1:Nat):Int) by omega,qrO l _ (by omega),Option.bind_some,List.getLast?_eq_getElem?,List.getElem?_eq_getElem (by omega)]
def JOK (l:Jn):Prop:=l.length≤1000∧∀i (hi:i<l.length),OKT l[i].1∧l[i].2.1=sumJ (lastJ (l.take i)) l[i].1
theorem good_ok {l:Jn} (h:JOK l):qhE l=some ((l.length:Nat):Int):=by
 unfold qhE;have hlen:=h.1;have step:∀i (hi:i<l.length),qby l (((i:Int),()),())=some (.inl ((((i+1:Nat):Int),()),())):=by
  intro i hi;obtain⟨h1,h2⟩:=h.2 i hi;unfold qby;have hne:((i:Int)==1000)=false:=beq_f (by omega);simp only[ltd l i hi,cond_true];rw[qrO l i hi,Option.bind_some];have hb:qk 0 (i:Int) l.length=true:=by
   simp only[qk,Bool.and_eq_true,decide_eq_true_eq];omega
  simp only[hne,Bool.not_false,imp,cond_true,hb,qc,gopt,Int.toNat_natCast,List.drop_zero];rw[qrN _ (by rw[List.length_take];omega),Option.bind_some];have hw:qd0 (lastJ (l.take i)) l[i]=some 0:=by
   unfold qd0;rw[qv4 h1,show((0:Int)!=0)=false from rfl,cond_false,qwD _ _ (by have:=h1.1;omega),Option.bind_some,h2,bne_f rfl,cond_false]
  rw[hw,Option.bind_some,qf (by omega) (by omega)];rfl
 have key:∀(k i:Nat),i+k=l.length→iterW (qby l) (((i:Int),()),())=some (.inl ((),())):=by
  intro k
  induction k with
  | zero =>
   intro i hi
   have:i=l.length:=by omega
   subst this;refine qi ?_;unfold qby;simp
  | succ k ih =>
   intro i hi;rw[qx (step i (by omega))];exact ih (i+1) (by omega)
 have h0:=key l.length 0 (by omega);have h0':iterW (qby l) (((0:Int),()),())=_:=h0;rw[h0',Option.bind_some,Sum.elim_inl]
theorem check_okJ {l:Jn} (h:JOK l):qgr l=some 0:=by
 unfold qgr;have:=h.1;rw[show decide (((l.length:Nat):Int)>1000)=false by rw[decide_eq_false_iff_not];omega,cond_false,good_ok h,Option.bind_some,show decide (((l.length:Nat):Int)<((l.length:Nat):Int))=false by simp,cond_false]
theorem cloneJ (s:Jn) (h:s.length≤1000000):qav s=some s:=by
 unfold qav;have:room (([]:Jn).length+s.length) 24=true:=qO (by simp;omega);rw[this]
 cases s with
 | nil=>simp[qc,agree_self]
 | cons a l=>simp[qc]
noncomputable def nextJ (l:Jn) (s:ByteArray):Jn:=l++[(s,(sumJ (lastJ l) s,()))]
theorem qrJ {l:Jn} (h:JOK l) (hl:l.length<1000) {s:ByteArray} (hs:OKT s):qbm l s=some (nextJ l s,(0,()))∧JOK (nextJ l s):=by
 have hlen:=h.1;constructor
 ·unfold qbm;rw[check_okJ h,Option.bind_some,show((0:Int)!=0)=false from rfl,cond_false,qv4 hs,show((0:Int)!=0)=false from rfl,cond_false,beq_f (by omega),cond_false,cloneJ l (by omega),Option.bind_some,qrN l (by omega),Option.bind_some,qwD _ _ (by have:=hs.1;omega),Option.bind_some,qO (by simp only[List.length_cons,List.length_nil];omega),qc];rfl
 ·refine⟨by unfold nextJ;rw[List.length_append,List.length_singleton];omega,fun i hi=>?_⟩;unfold nextJ at hi ⊢;rw[List.length_append,List.length_singleton] at hi;by_cases c:i<l.length
  ·rw[List.getElem_append_left c,List.take_append_of_le_length (by omega)];exact h.2 i c
  ·have:i=l.length:=by omega
   subst this;rw[List.getElem_append_right (by omega),List.take_left']
   ·simp only[Nat.sub_self,List.getElem_cons_zero];exact⟨hs,trivial⟩
   ·rfl

abbrev PM:=Int×Mv×Unit
abbrev dPM:PM:=(0,((0,(0,(0,()))),()))
def ofL (l:List PM) (pl:Int):List Mv:=l.flatMap fun x=>bif x.1==pl then [x.2.1] else []
def woL (l:List PM) (pl:Int):List PM:=l.filter fun x=>!(x.1==pl)
def odd1 (x:PM):Bool:=(x.1 !=0)&&(x.1 !=1)
def pmErr (l:List PM):Int:=if 4<(ofL l 0).length∨4<(ofL l 1).length then 2 else if l.any odd1=true then 4 else 0
theorem clonePM (s:List PM) (h:s.length≤1000000):qR s=some s:=by
 unfold qR;have:room (([]:List PM).length+s.length) 32=true:=qO (by simp;omega);rw[this]
 cases s with
 | nil=>simp[qc,agree_self]
 | cons a l=>simp[qc]
def fstI (p:Nat→Bool):Nat→Nat→Nat
 | i,0=>i
 | i,k+1=>bif p i then i else fstI p (i+1) k
def fstP (l:List PM) (pl:Int):Nat:=fstI (fun i=>(l.getD i dPM).1==pl) 0 l.length
def openM (r:Rules) (p:Place):List Mv:=if qan r p=0 then qaA r p else []
theorem qxd {r:Rules} {p:Place} (h:Valid r p):qhn r p=some (openM r p):=by
 unfold qhn openM;rw[qlo h,Option.bind_some];by_cases c:qan r p=0
 ·rw[bne_f c,cond_false,if_pos c,qhf h];rfl
 ·rw[bne_t c,cond_true,if_neg c]
theorem openM_mem {r:Rules} {p:Place} {m:Mv}:m∈openM r p↔qan r p=0∧ql r p m=true:=by
 unfold openM;by_cases c:qan r p=0
 ·rw[if_pos c,qbn];exact⟨fun h=>⟨c,h⟩,fun h=>h.2⟩
 ·rw[if_neg c];exact⟨fun h=>(by cases h),fun h=>absurd h.1 c⟩
theorem openM_len {r:Rules} {p:Place} (h:Valid r p):(openM r p).length≤100000:=by
 unfold openM;split
 ·exact qhQ h
 ·simp
def resN (r:Rules) (p:Place) (l:List PM) (i:Nat):Mv×Bool×List PM×Unit :=
 if (l.getD i dPM).2.1∈openM r p then((l.getD i dPM).2.1,(true,(l.take i++l.drop (i+1),()))) else((0,(0,(0,()))),(false,(woL l p.turn,())))
def nextP (r:Rules) (p:Place) (l:List PM):Mv×Bool×List PM×Unit :=
 if fstP l p.turn<l.length then resN r p l (fstP l p.turn) else((0,(0,(0,()))),(false,(woL l p.turn,())))

theorem qji {r:Rules} {s:List Place×List Mv} (h:OKG r s):qG (r,(s.1,(s.2,())))=some s.2:=by
 have hm:=h.most;have hc:qaN s.2=some s.2:=by
  unfold qaN
  cases hs:s.2 with
  | nil =>
   rw[show(([]:List Mv).isEmpty)=true from rfl,cond_true,qO (by simp),qc];exact agree_self _
  | cons m l =>
   rw[hs] at hm;rw[show(m::l).isEmpty=false from rfl,cond_false,qO (by simp at hm ⊢;omega),qc,List.nil_append]
 unfold qG;simp only[hc,Option.bind_some]
structure RG (r:Rules) (s:List Place×List Mv):Prop where
 ok:OKG r s
 reach:qgD r s.2 = .inl s
theorem qst {r:Rules} (m:Mv):∀(k:List Mv) (s:List Place×List Mv),runG r (k++[m]) s=match runG r k s with
  | .inl s'=>if stepG r s' m=0 then .inl (nextG r s' m) else .inr (stepG r s' m)
  | .inr e => .inr e
 | [],s=>rfl
 | x::k,s=>by
  rw[List.cons_append];unfold runG;split
  ·exact qst m k _
  ·rfl
theorem RG.next {r:Rules} {s:List Place×List Mv} {m:Mv} (h:RG r s) (c:stepG r s m=0):RG r (nextG r s m):=⟨qpr h.ok c,by
 show runG r (s.2++[m]) _=_;have:runG r s.2 ([qn r],[]) = .inl s:=h.reach;rw[qst,this]
 simp only[c,if_true]⟩
theorem RG.begin {r:Rules} (c:qz r=0):RG r ([qn r],[]):=⟨qeb c,rfl⟩
def backG (s:List Place×List Mv):List Place×List Mv:=(s.1.dropLast,s.2.dropLast)
theorem back_next (r:Rules) (s:List Place×List Mv) (m:Mv):backG (nextG r s m)=s:=by
 unfold backG nextG;simp
theorem RG.last_step {r:Rules} {s:List Place×List Mv} (h:RG r s) (h0:0<s.2.length):RG r (backG s)∧∃m,s=nextG r (backG s) m∧stepG r (backG s) m=0:=by
 have hne:s.2≠[]:=fun e=>by rw[e] at h0;simp at h0
 have hk:s.2=s.2.dropLast++[s.2.getLast hne]:=(List.dropLast_concat_getLast hne).symm;have hr:=h.reach;unfold qgD at hr;rw[hk,qst] at hr
 cases hq:runG r s.2.dropLast ([qn r],[]) with
 | inr e=>rw[hq] at hr;cases hr
 | inl s' =>
  rw[hq] at hr;simp only at hr;split at hr
  ·rename_i c;have e:nextG r s' (s.2.getLast hne)=s:=Sum.inl.inj hr
   have hb:backG s=s':=by rw[←e];exact back_next r s' _
   obtain⟨o1,o2⟩:=qtb _ _ _ (qeb h.ok.ok) hq;rw[List.nil_append] at o2;refine⟨⟨by rw[hb];exact o1,?_⟩,_,by rw[hb];exact e.symm,by rw[hb];exact c⟩;rw[hb,o2];exact hq
  ·cases hr
theorem back_len (s:List Place×List Mv):(backG s).2.length=s.2.length-1:=by unfold backG;simp
def par (n:Nat):Int:=((n % 2:Nat):Int)
theorem qwc (n:Nat):par (n+1)=1-par n:=by unfold par;omega
theorem par_rng (n:Nat):0≤par n∧par n≤1:=by unfold par;omega
theorem qw5 (r:Rules) (s:List Place×List Mv) (m:Mv):lastP (nextG r s m).1=qT r (lastP s.1) m:=by
 unfold nextG lastP;simp only[List.length_append,List.length_singleton,Nat.add_sub_cancel];exact gd_app2 _ _
theorem RG.turn {r:Rules}:∀(n:Nat) {s:List Place×List Mv},RG r s→s.2.length=n→(lastP s.1).turn=par n
 | 0,s,h,hn=>by
  have he:s.2=[]:=List.length_eq_zero_iff.1 hn;have hr:=h.reach;rw[he] at hr;have:s=([qn r],[]):=(Sum.inl.inj hr).symm;rw[this];rfl
 | n+1,s,h,hn=>by
  obtain⟨hb,m,e,_⟩:=h.last_step (by omega);have:=RG.turn n hb (by rw[back_len];omega);rw[e,qw5,qwc,←this];rfl

def tup {A:Type} (f:Nat→A):A×A×A×A×A×A×Unit:=(f 0,f 1,f 2,f 3,f 4,f 5,())

def ownB (pl c:Int):Bool:=decide (c>0)&&((w64 (c-1)).tmod 2==pl)
def kc (c:Int):Nat:=((c-1) / 2).toNat
def handP (p:Place) (pl:Int):List Int:=getD' [p.2.1.1,p.2.1.2.1] pl.toNat []
def hk (p:Place) (pl:Int) (k:Nat):Int:=getD' (handP p pl) k 0
set_option maxHeartbeats 0

structure MS where
 g:List Place×List Mv
 res:Int
 rea:Int
 c:Clk
 o:Offs
 pm:List PM
 last:Int
 j:Jn
abbrev StT:=List Mv×Int×Int×Clk×Offs×List PM×Unit
abbrev qjm:=Rules×CRule×Game×StT×Int×Jn×Unit
def tupM (r:Rules) (cr:CRule) (m:MS):qjm:=(r,(cr,(gm r m.g,(([],(m.res,(m.rea,(m.c,(m.o,(m.pm,())))))),(m.last,(m.j,()))))))
def dClk:Clk:=((0,(0,())),((0,(0,())),((0,(0,())),(0,(0,(false,(0,())))))))
def dOff:Offs:=((0,(0,())),(((0,(0,())),((0,(0,())),())),()))
noncomputable def ofMove (o:Offs) (pl:Int):Offs:=((qg7 o pl).getD (dOff,(0,()))).1
noncomputable def lookC (cr:CRule) (c:Clk) (now:Int):Clk:=((qb2 cr c now).getD (dClk,(0,()))).1
theorem qvu (o:Offs) (pl:Int):∃e,qg7 o pl=some (ofMove o pl,(e,())):=by
 obtain⟨o',e,h⟩:=qw3 o pl;exact⟨e,by unfold ofMove;rw[h];rfl⟩
theorem qxv (cr:CRule) (c:Clk) (now:Int) (hl:cr.1.length≤9223372036854775807):∃e,qb2 cr c now=some (lookC cr c now,(e,())):=by
 obtain⟨c',e,h,_⟩:=look_some cr c now hl;exact⟨e,by unfold lookC;rw[h];rfl⟩
noncomputable def moveM (r:Rules) (cr:CRule) (m:MS) (x:Mv) (now:Int):MS:={ m with g:=nextG r m.g x,c:=qf2 cr m.c now,o:=ofMove m.o (par m.g.2.length) }
noncomputable def annM (r:Rules) (cr:CRule) (now:Int):Nat→MS→MS
 | 0,m=>m
 | k+1,m=>if qaa r m.g.1=0∧m.g.2.length<400 then
   if (nextP r (lastP m.g.1) m.pm).2.1=true then annM r cr now k (moveM r cr { m with pm:=(nextP r (lastP m.g.1) m.pm).2.2.1 } (nextP r (lastP m.g.1) m.pm).1 now)
   else { m with pm:=(nextP r (lastP m.g.1) m.pm).2.2.1 }
  else m
noncomputable def qr8 (r:Rules) (cr:CRule) (m:MS) (e:Ev):MS×Int :=
 if par m.g.2.length≠e.2.1 then(m,12) else if e.2.2.2.2.1∉openM r (lastP m.g.1) then(m,13) else if m.g.2.length=400 then(m,2)
 else(annM r cr e.2.2.2.1 (m.pm.length+1) (moveM r cr m e.2.2.2.2.1 e.2.2.2.1),0)
noncomputable def kindM (r:Rules) (cr:CRule) (m:MS) (e:Ev):MS×Int :=
 if e.1=0 then qr8 r cr m e else(m,1)
def overM (r:Rules) (m:MS):MS:=if m.res=0∧qaa r m.g.1≠0 then { m with res:=qaa r m.g.1,rea:=1 } else m
noncomputable def doneM (r:Rules) (m:MS) (e:Ev):MS:=overM r { m with last:=e.2.2.2.1,j:=nextJ m.j (qiK e) }
noncomputable def doM (r:Rules) (cr:CRule) (m:MS) (e:Ev):MS×Int :=
 if (e.1<0∨6<e.1)∨(e.2.1≠0∧e.2.1≠1) then(m,1) else if e.2.2.2.1<m.last∨100000000<e.2.2.2.1 then(m,11) else if m.res≠0 then(m,14)
 else if m.j.length=1000 then(m,9)
 else if (0≤(lookC cr m.c e.2.2.2.1).2.2.2.2.2.2.1∧e.1≠4)∧¬(e.1=5∧e.2.2.1=2) then(m,11)
 else if (kindM r cr m e).2≠0 then(m,(kindM r cr m e).2) else(doneM r (kindM r cr m e).1 e,0)
structure MOK (r:Rules) (cr:CRule) (m:MS):Prop where
 rng:Rng qae r
 len:cr.1.length≤9223372036854775807
 g:RG r m.g
 cok:chkC cr=0
 clk:m.res=0→GoodC cr m.c m.last
 turn:m.res=0→m.c.2.2.2.1=par m.g.2.length
 opn:m.res=0→qaa r m.g.1=0
 pm:pmErr m.pm=0
 few:m.pm.length≤8
 j:JOK m.j
structure MID (r:Rules) (cr:CRule) (m:MS) (now:Int):Prop where
 rng:Rng qae r
 len:cr.1.length≤9223372036854775807
 g:RG r m.g
 clk:GoodC cr m.c now
 turn:m.c.2.2.2.1=par m.g.2.length
 pm:pmErr m.pm=0
 few:m.pm.length≤8
theorem qwR {r:Rules} {cr:CRule} {m:MS} {now:Int} (h:MID r cr m now) {x:Mv} (c:stepG r m.g x=0):qaY (tupM r cr m) x now=some (tupM r cr (moveM r cr m x now),()):=by
 obtain⟨e,he⟩:=qvu m.o (par m.g.2.length);obtain⟨hp,_⟩:=qrm h.len h.clk;have ht:=RG.turn m.g.2.length h.g rfl;unfold qaY tupM gm;simp only;rw[qcx h.g.ok,Option.bind_some,qo1 h.g.ok,Option.bind_some,if_pos c,hp,Option.bind_some];rw[show(lastP m.g.1).2.2.1=(lastP m.g.1).turn from rfl,ht,he,Option.bind_some];rfl
theorem mid_move {r:Rules} {cr:CRule} {m:MS} {now:Int} (h:MID r cr m now) {x:Mv} (c:stepG r m.g x=0):MID r cr (moveM r cr m x now) now:=by
 obtain⟨_,p1,p2,p3⟩:=qrm h.len h.clk
 have hlen:(moveM r cr m x now).g.2.length=m.g.2.length+1:=by unfold moveM nextG;simp
 refine⟨h.rng,h.len,h.g.next c,p1,?_,h.pm,h.few⟩;show(qf2 cr m.c now).2.2.2.1=_;rw[p2,h.turn,hlen,qwc]
theorem qqc (pl:Int):∀l:List PM,(ofL l pl).length=l.countP (fun x=>x.1==pl)
 | []=>rfl
 | x::l=>by
  have ih:=qqc pl l;unfold ofL at *;rw[List.flatMap_cons,List.length_append,ih,List.countP_cons];cases (x.1==pl)
  ·simp
  ·simp;omega
theorem qwz:∀l:List PM,l.length=l.countP (fun x=>x.1==0)+l.countP (fun x=>x.1==1)+l.countP odd1
 | []=>rfl
 | x::l=>by
  have ih:=qwz l;simp only[List.length_cons,List.countP_cons];rw[show odd1 x=((x.1 !=0)&&(x.1 !=1)) from rfl];by_cases h0:x.1=0
  ·simp only[h0];simp;omega
  ·by_cases h1:x.1=1
   ·simp only[h1];simp;omega
   ·simp[h0,h1];omega
theorem pm_iff (l:List PM):pmErr l=0↔l.countP (fun x=>x.1==0)≤4∧l.countP (fun x=>x.1==1)≤4∧l.countP odd1=0:=by
 unfold pmErr;rw[qqc,qqc];constructor
 ·intro h;split at h
  ·cases h
  ·rename_i c;split at h
   ·cases h
   ·rename_i d;refine⟨by omega,by omega,?_⟩;rw[List.countP_eq_zero];intro x hx q;exact d (List.any_eq_true.2 ⟨x,hx,q⟩)
 ·rintro ⟨a,b,c⟩
  rw[if_neg (by omega),if_neg];intro d;obtain⟨x,hx,q⟩:=List.any_eq_true.1 d;exact(List.countP_eq_zero.1 c x hx) q
theorem pm_len {l:List PM} (h:pmErr l=0):l.length≤8:=by
 have:=(pm_iff l).1 h;have:=qwz l;omega
theorem step_open {r:Rules} {s:List Place×List Mv} {m:Mv} (hr:qaa r s.1=0) (hm:m∈openM r (lastP s.1)) (hl:s.2.length<400):stepG r s m=0:=by
 unfold stepG;rw[if_pos hr,if_pos (openM_mem.1 hm).2,if_neg (by omega)]
def flatT (x:qjm):ByteArray×Int×Int×(List (Int×Int×Int×(List (Int×Int×Int×Int×Unit))×Unit))×(List Int)×Bool×Bool×(List (Int×Int×Int×Bool×Unit))×Int×Int×Int×(List (Int×Int×Unit))×Int×Int×Game×(List Mv)×Int×Int×Int×Int×Int×Int×Int×Int×Int×Int×Bool×Int×Int×Int×Int×Int×Int×Int×(List PM)×Int×Jn×Unit :=
 (x.1.1,(x.1.2.1,(x.1.2.2.1,(x.1.2.2.2.1,(x.1.2.2.2.2.1,(x.1.2.2.2.2.2.1,(x.1.2.2.2.2.2.2.1,(x.1.2.2.2.2.2.2.2.1,(x.1.2.2.2.2.2.2.2.2.1,(x.1.2.2.2.2.2.2.2.2.2.1,(x.1.2.2.2.2.2.2.2.2.2.2.1,(x.2.1.1,(x.2.1.2.1,(x.2.1.2.2.1,((x.2.2.1.1,(x.2.2.1.2.1,(x.2.2.1.2.2.1,()))),(x.2.2.2.1.1,(x.2.2.2.1.2.1,(x.2.2.2.1.2.2.1,
 (x.2.2.2.1.2.2.2.1.1.1,(x.2.2.2.1.2.2.2.1.1.2.1,(x.2.2.2.1.2.2.2.1.2.1.1,(x.2.2.2.1.2.2.2.1.2.1.2.1,(x.2.2.2.1.2.2.2.1.2.2.1.1,(x.2.2.2.1.2.2.2.1.2.2.1.2.1,(x.2.2.2.1.2.2.2.1.2.2.2.1,(x.2.2.2.1.2.2.2.1.2.2.2.2.1,(x.2.2.2.1.2.2.2.1.2.2.2.2.2.1,(x.2.2.2.1.2.2.2.1.2.2.2.2.2.2.1,
 (x.2.2.2.1.2.2.2.2.1.1.1,(x.2.2.2.1.2.2.2.2.1.1.2.1,(x.2.2.2.1.2.2.2.2.1.2.1.1.1,(x.2.2.2.1.2.2.2.2.1.2.1.1.2.1,(x.2.2.2.1.2.2.2.2.1.2.1.2.1.1,(x.2.2.2.1.2.2.2.2.1.2.1.2.1.2.1,(x.2.2.2.1.2.2.2.2.2.1,x.2.2.2.2)))))))))))))))))))))))))))))))))))
def withP (x:qjm) (l:List PM):qjm:=(x.1,(x.2.1,(x.2.2.1,((x.2.2.2.1.1,(x.2.2.2.1.2.1,(x.2.2.2.1.2.2.1,(x.2.2.2.1.2.2.2.1,(x.2.2.2.1.2.2.2.2.1,(l,())))))),x.2.2.2.2))))
theorem dm_L1 (e:Ev) (x:qjm):qaJ e ((),(flatT x,()))=Option.bind (Option.bind (qP x.2.2.1) fun a=>bif (a==(0:Int)) then(Option.bind (qG x.2.2.1) fun b=>some (((decide (((b.length:Nat):Int)<(400:Int))),()),())) else some ((false,()),())) fun b =>
  bif b.1.1 then(Option.bind (Option.bind (qm x.2.2.1) fun p=>Option.bind (qbe x.1 p x.2.2.2.1.2.2.2.2.2.1) fun y=>some ((y.1,(y.2.1,(y.2.2.1,()))),())) fun z=>bif (!z.1.2.1) then some (.inr ((),(flatT (withP x z.1.2.2.1),()))) else Option.bind (qaY (withP x z.1.2.2.1) z.1.1 e.2.2.2.1) fun w=>some (.inl ((),(flatT w.1,()))))
  else some (.inr ((),(flatT x,()))):=by
 unfold qaJ;simp only[qjW,agree_self];rfl

theorem next_nil (r:Rules) (p:Place) (hr:Rng qae r) (hv:Valid r p) (c:qz r=0):qbe r p []=some ((0,(0,(0,()))),(false,([],(0,())))):=by
 have ho:∀n:Int,qiN [] n=some []:=fun n=>by
  unfold qiN;rw[qi (r:=(([],()),())) rfl,Option.bind_some]
 have hck:qdM r p []=some 0:=by
  unfold qdM;rw[qqY r p hr (by have:=qcT hv;omega),Option.bind_some,qsB c hv,bne_f rfl,cond_false];unfold qjo;rw[ho,Option.bind_some];simp only[List.length_nil];rw[ho,Option.bind_some];simp only[List.length_nil];rw[show decide (((0:Nat):Int)>4)=false from rfl,cond_false,Option.bind_some];simp only[cond_false];rw[qi (r := .inl ((),())) rfl,Option.bind_some];rfl
 have hw:∀t:Int,qcv [] t=some []:=fun t=>by
  unfold qcv;rw[clonePM [] (by simp),Option.bind_some,qi (r := .inl ((),())) rfl,Option.bind_some];rfl
 unfold qbe;rw[hck,Option.bind_some,bne_f rfl,cond_false];unfold qlc;rw[qi (r := .inl ((),())) rfl,Option.bind_some];simp only[Sum.elim_inl,hw];rfl
theorem ann_nil {r:Rules} {cr:CRule} {now:Int} {m:MS} (h:m.pm=[]):annM r cr now 1 m=m:=by
 unfold annM;have hn:∀p:Place,nextP r p []=((0,(0,(0,()))),(false,([],()))):=fun p=>rfl;rw[h,hn];split
 ·rw[if_neg (by decide)];cases m;simp only at h;rw[h]
 ·rfl
theorem ann_loop {r:Rules} {cr:CRule} {now:Int} (e:Ev) {m:MS} (h:MID r cr m now) (hp:m.pm=[]):iterW (qaJ e) ((),(flatT (tupM r cr m),()))=some ((),(flatT (tupM r cr m),())):=by
 have hL:=dm_L1 e (tupM r cr m);rw[show(tupM r cr m).2.2.1=(r,(m.g.1,(m.g.2,()))) from rfl,show(tupM r cr m).1=r from rfl,show(tupM r cr m).2.2.2.1.2.2.2.2.2.1=m.pm from rfl,qea h.g.ok,qji h.g.ok,qcx h.g.ok] at hL;simp only[Option.bind_some] at hL;by_cases c0:qaa r m.g.1=0
 ·rw[c0] at hL;simp only[beq_self_eq_true,cond_true,Option.bind_some] at hL;by_cases c1:m.g.2.length<400
  ·rw[show decide (((m.g.2.length:Nat):Int)<400)=true by simp;omega,cond_true,hp,next_nil r _ h.rng h.g.ok.last h.g.ok.ok,Option.bind_some] at hL;simp only[Option.bind_some,Bool.not_false,cond_true] at hL;have e:withP (tupM r cr m) []=tupM r cr m:=by
    cases m;simp only at hp;subst hp;rfl
   rw[e] at hL;exact qi hL
  ·rw[show decide (((m.g.2.length:Nat):Int)<400)=false by simp;omega,cond_false] at hL;exact qi hL
 ·rw[beq_f c0,cond_false,Option.bind_some,cond_false] at hL;exact qi hL
def unflat (y:ByteArray×Int×Int×(List (Int×Int×Int×(List (Int×Int×Int×Int×Unit))×Unit))×(List Int)×Bool×Bool×(List (Int×Int×Int×Bool×Unit))×Int×Int×Int×(List (Int×Int×Unit))×Int×Int×Game×(List Mv)×Int×Int×Int×Int×Int×Int×Int×Int×Int×Int×Bool×Int×Int×Int×Int×Int×Int×Int×(List PM)×Int×Jn×Unit):qjm:=((y.1,(y.2.1,(y.2.2.1,(y.2.2.2.1,(y.2.2.2.2.1,(y.2.2.2.2.2.1,(y.2.2.2.2.2.2.1,(y.2.2.2.2.2.2.2.1,(y.2.2.2.2.2.2.2.2.1,(y.2.2.2.2.2.2.2.2.2.1,(y.2.2.2.2.2.2.2.2.2.2.1,()))))))))))),((y.2.2.2.2.2.2.2.2.2.2.2.1,(y.2.2.2.2.2.2.2.2.2.2.2.2.1,(y.2.2.2.2.2.2.2.2.2.2.2.2.2.1,()))),((y.2.2.2.2.2.2.2.2.2.2.2.2.2.2.1.1,(y.2.2.2.2.2.2.2.2.2.2.2.2.2.2.1.2.1,(y.2.2.2.2.2.2.2.2.2.2.2.2.2.2.1.2.2.1,()))),((y.2.2.2.2.2.2.2.2.2.2.2.2.2.2.2.1,(y.2.2.2.2.2.2.2.2.2.2.2.2.2.2.2.2.1,(y.2.2.2.2.2.2.2.2.2.2.2.2.2.2.2.2.2.1,(((y.2.2.2.2.2.2.2.2.2.2.2.2.2.2.2.2.2.2.1,(y.2.2.2.2.2.2.2.2.2.2.2.2.2.2.2.2.2.2.2.1,())),((y.2.2.2.2.2.2.2.2.2.2.2.2.2.2.2.2.2.2.2.2.1,(y.2.2.2.2.2.2.2.2.2.2.2.2.2.2.2.2.2.2.2.2.2.1,())),((y.2.2.2.2.2.2.2.2.2.2.2.2.2.2.2.2.2.2.2.2.2.2.1,(y.2.2.2.2.2.2.2.2.2.2.2.2.2.2.2.2.2.2.2.2.2.2.2.1,())),(y.2.2.2.2.2.2.2.2.2.2.2.2.2.2.2.2.2.2.2.2.2.2.2.2.1,(y.2.2.2.2.2.2.2.2.2.2.2.2.2.2.2.2.2.2.2.2.2.2.2.2.2.1,(y.2.2.2.2.2.2.2.2.2.2.2.2.2.2.2.2.2.2.2.2.2.2.2.2.2.2.1,(y.2.2.2.2.2.2.2.2.2.2.2.2.2.2.2.2.2.2.2.2.2.2.2.2.2.2.2.1,()))))))),(((y.2.2.2.2.2.2.2.2.2.2.2.2.2.2.2.2.2.2.2.2.2.2.2.2.2.2.2.2.1,(y.2.2.2.2.2.2.2.2.2.2.2.2.2.2.2.2.2.2.2.2.2.2.2.2.2.2.2.2.2.1,())),(((y.2.2.2.2.2.2.2.2.2.2.2.2.2.2.2.2.2.2.2.2.2.2.2.2.2.2.2.2.2.2.1,(y.2.2.2.2.2.2.2.2.2.2.2.2.2.2.2.2.2.2.2.2.2.2.2.2.2.2.2.2.2.2.2.1,())),((y.2.2.2.2.2.2.2.2.2.2.2.2.2.2.2.2.2.2.2.2.2.2.2.2.2.2.2.2.2.2.2.2.1,(y.2.2.2.2.2.2.2.2.2.2.2.2.2.2.2.2.2.2.2.2.2.2.2.2.2.2.2.2.2.2.2.2.2.1,())),())),())),(y.2.2.2.2.2.2.2.2.2.2.2.2.2.2.2.2.2.2.2.2.2.2.2.2.2.2.2.2.2.2.2.2.2.2.1,())))))),y.2.2.2.2.2.2.2.2.2.2.2.2.2.2.2.2.2.2.2.2.2.2.2.2.2.2.2.2.2.2.2.2.2.2.2))))
structure SpecK (r:Rules) (cr:CRule) (m:MS) (now:Int) (x:MS×Int) (y:Option (qjm×Int)):Prop where
 val:y=some (tupM r cr x.1,x.2)
 err:x.2≠0→x.1=m
 mid:x.2=0→x.1.res=0→MID r cr x.1 now
 g:RG r x.1.g
 pm:pmErr x.1.pm=0
 kept:x.1.last=m.last∧x.1.j=m.j
theorem SpecK.same {r:Rules} {cr:CRule} {m:MS} {now:Int} (h:MID r cr m now) {k:Int} (hk:k≠0) {y:Option (qjm×Int)} (hy:y=some (tupM r cr m,k)):SpecK r cr m now (m,k) y :=
 ⟨hy,fun _=>rfl,fun c=>absurd c hk,h.g,h.pm,⟨rfl,rfl⟩⟩
theorem SpecK.done {r:Rules} {cr:CRule} {m m':MS} {now:Int} (h:MID r cr m' now) (h1:m'.last=m.last) (h2:m'.j=m.j) {y:Option (qjm×Int)} (hy:y=some (tupM r cr m',0)):SpecK r cr m now (m',0) y :=
 ⟨hy,fun c=>absurd rfl c,fun _ _=>h,h.g,h.pm,⟨h1,h2⟩⟩
theorem bneI (a b:Int):(a !=b)=decide (a≠b):=by
 by_cases h:a=b
 ·rw[bne_f h,decide_eq_false (fun q=>q h)]
 ·rw[bne_t h,decide_eq_true h]
theorem dm_eq (x:qjm) (e:Ev):qaP x e=Option.bind (qm x.2.2.1) fun p=>bif (p.2.2.1 !=e.2.1) then some (x,12) else Option.bind (qhn x.1 p) fun l=>Option.bind (qp l e.2.2.2.2.1) fun b=>bif (!b) then some (x,13) else
  Option.bind (qG x.2.2.1) fun q=>bif (((q.length:Nat):Int)==(400:Int)) then some (x,2) else Option.bind (qaY x e.2.2.2.2.1 e.2.2.2.1) fun w=>Option.bind (iterW (qaJ e) ((),(flatT w.1,()))) fun y=>some (unflat y.2.1,0):=by
 unfold qaP;simp only[qjW,agree_self]
 cases qm x.2.2.1 with
 | none=>rfl
 | some p=>rfl
theorem qu5 {r:Rules} {cr:CRule} {m:MS} {e:Ev} (h:MID r cr m e.2.2.2.1) (h0:qaa r m.g.1=0) (hpm:m.pm=[]):SpecK r cr m e.2.2.2.1 (qr8 r cr m e) (qaP (tupM r cr m) e):=by
 have ht:=RG.turn m.g.2.length h.g rfl;have hv:=h.g.ok.last;rw[dm_eq,show(tupM r cr m).2.2.1=(r,(m.g.1,(m.g.2,()))) from rfl,show(tupM r cr m).1=r from rfl,qcx h.g.ok,qji h.g.ok];simp only[Option.bind_some];rw[show(lastP m.g.1).2.2.1=(lastP m.g.1).turn from rfl,ht,qxd hv];simp only[Option.bind_some];rw[qro _ _ (by have:=openM_len hv;omega)];simp only[Option.bind_some];unfold qr8;by_cases c1:par m.g.2.length=e.2.1
 rotate_left
 ·rw[if_pos c1,bne_t c1,cond_true];exact SpecK.same h (by decide) rfl
 rw[if_neg (fun q=>q c1),bne_f c1,cond_false];by_cases c2:e.2.2.2.2.1∈openM r (lastP m.g.1)
 rotate_left
 ·rw[if_pos c2,decide_eq_false c2,Bool.not_false,cond_true];exact SpecK.same h (by decide) rfl
 rw[if_neg (fun q=>q c2),decide_eq_true c2,Bool.not_true,cond_false];by_cases c3:m.g.2.length=400
 ·rw[if_pos c3,c3];exact SpecK.same h (by decide) rfl
 rw[if_neg c3,beq_f (show ¬((m.g.2.length:Nat):Int)=400 by omega),cond_false];have hst:stepG r m.g e.2.2.2.2.1=0:=step_open h0 c2 (by have:=h.g.ok.most;omega);rw[qwR h hst,Option.bind_some];have l2:=mid_move h hst;have l1:=ann_loop e l2 (by show m.pm=[];exact hpm);rw[l1,Option.bind_some,hpm,show([]:List PM).length+1=1 from rfl,ann_nil (by show m.pm=[];exact hpm)];exact SpecK.done (m:=m) l2 rfl rfl rfl
theorem kind_spec {r:Rules} {cr:CRule} {m:MS} {e:Ev} (h0:qaa r m.g.1=0) (h00:e.1=0) (hpm:m.pm=[]) (hm:MID r cr m e.2.2.2.1):SpecK r cr m e.2.2.2.1 (kindM r cr m e) (qcB (tupM r cr m) e):=by
 have et:∀y:Option (qjm×Int),(Option.bind y fun r6=>some ((r6.1.1,(r6.1.2.1,((r6.1.2.2.1.1,(r6.1.2.2.1.2.1,(r6.1.2.2.1.2.2.1,()))),r6.1.2.2.2))),r6.2))=y:=fun y=>by cases y<;>rfl
 have hy:qcB (tupM r cr m) e=qaP (tupM r cr m) e:=by
  unfold qcB;rw[beq_t h00,cond_true];exact et _
 rw[hy];unfold kindM;rw[if_pos h00];exact qu5 hm h0 hpm
theorem qt7 {r:Rules} {cr:CRule} {m:MS} (hg:RG r m.g):qbu (tupM r cr m)=some (tupM r cr (overM r m),()):=by
 unfold qbu overM;simp only[show(tupM r cr m).2.2.1.1=r from rfl,show(tupM r cr m).2.2.1.2.1=m.g.1 from rfl,show(tupM r cr m).2.2.1.2.2.1=m.g.2 from rfl,qea hg.ok,Option.bind_some,show(tupM r cr m).2.2.2.1.2.1=m.res from rfl];by_cases c:m.res=0
 ·by_cases d:qaa r m.g.1=0
  ·rw[if_neg (fun q=>q.2 d),beq_t c,bne_f d];rfl
  ·rw[if_pos ⟨c,d⟩,beq_t c,bne_t d];rfl
 ·rw[if_neg (fun q=>c q.1),beq_f c];rfl
theorem qtg (r:Rules) (m:MS):(overM r m).g=m.g∧(overM r m).pm=m.pm∧(overM r m).j=m.j∧(overM r m).last=m.last:=by
 unfold overM
 split<;>exact⟨rfl,rfl,rfl,rfl⟩
theorem do_spec {r:Rules} {cr:CRule} {m:MS} (h:MOK r cr m) {e:Ev} (he:EvR e) (h00:e.1=0) (hpm:m.pm=[]):qf5 (tupM r cr m) e=some (tupM r cr (doM r cr m e).1,(doM r cr m e).2)∧MOK r cr (doM r cr m e).1:=by
 have et:(tupM r cr m)=((tupM r cr m).1,((tupM r cr m).2.1,(((tupM r cr m).2.2.1.1,((tupM r cr m).2.2.1.2.1,((tupM r cr m).2.2.1.2.2.1,()))),(tupM r cr m).2.2.2))):=rfl;obtain⟨le,hle⟩:=qxv cr m.c e.2.2.2.1 h.len;unfold qf5 doM;rw[←et];simp only[show(tupM r cr m).2.1=cr from rfl,show(tupM r cr m).2.2.2.1.2.1=m.res from rfl,show(tupM r cr m).2.2.2.1.2.2.2.1=m.c from rfl,show(tupM r cr m).2.2.2.2.1=m.last from rfl,show(tupM r cr m).2.2.2.2.2.1=m.j from rfl];by_cases c1:(e.1<0∨6<e.1)∨(e.2.1≠0∧e.2.1≠1)
 ·rw[if_pos c1,show(((decide (e.1<(0:Int)))||(decide (e.1>(6:Int))))||((e.2.1 !=(0:Int))&&(e.2.1 !=(1:Int))))=true by
   simp only[bneI,Bool.or_eq_true,Bool.and_eq_true,decide_eq_true_eq];omega,cond_true]
  exact⟨rfl,h⟩
 rw[if_neg c1,show(((decide (e.1<(0:Int)))||(decide (e.1>(6:Int))))||((e.2.1 !=(0:Int))&&(e.2.1 !=(1:Int))))=false by
   rw[Bool.eq_false_iff];intro q;simp only[bneI,Bool.or_eq_true,Bool.and_eq_true,decide_eq_true_eq] at q;omega,cond_false]
 by_cases c2:e.2.2.2.1<m.last∨100000000<e.2.2.2.1
 ·rw[if_pos c2,show((decide (e.2.2.2.1<m.last))||(decide (e.2.2.2.1>(100000000:Int))))=true by simp only[Bool.or_eq_true,decide_eq_true_eq];omega,cond_true];exact⟨rfl,h⟩
 rw[if_neg c2,show((decide (e.2.2.2.1<m.last))||(decide (e.2.2.2.1>(100000000:Int))))=false by rw[Bool.eq_false_iff];intro q;simp only[Bool.or_eq_true,decide_eq_true_eq] at q;omega,cond_false];by_cases c3:m.res=0
 rotate_left
 ·rw[if_pos c3,bne_t c3,cond_true];exact⟨rfl,h⟩
 rw[if_neg (fun q=>q c3),bne_f c3,cond_false];by_cases c4:m.j.length=1000
 ·rw[if_pos c4,c4];exact⟨rfl,h⟩
 rw[if_neg c4,beq_f (show ¬((m.j.length:Nat):Int)=1000 by omega),cond_false,hle,Option.bind_some];simp only;have hk:=h.clk c3;by_cases c5:(0≤(lookC cr m.c e.2.2.2.1).2.2.2.2.2.2.1∧e.1≠4)∧¬(e.1=5∧e.2.2.1=2)
 ·rw[if_pos c5,show(((decide ((lookC cr m.c e.2.2.2.1).2.2.2.2.2.2.1≥(0:Int)))&&(e.1 !=(4:Int)))&&(!((e.1==(5:Int))&&(e.2.2.1==(2:Int)))))=true by
   simp only[bneI,Bool.and_eq_true,decide_eq_true_eq,Bool.not_eq_true',←Bool.not_eq_true,beq_iff_eq];exact c5,cond_true]
  exact⟨rfl,h⟩
 rw[if_neg c5,show(((decide ((lookC cr m.c e.2.2.2.1).2.2.2.2.2.2.1≥(0:Int)))&&(e.1 !=(4:Int)))&&(!((e.1==(5:Int))&&(e.2.2.1==(2:Int)))))=false by
   rw[Bool.eq_false_iff];intro q;simp only[bneI,Bool.and_eq_true,decide_eq_true_eq,Bool.not_eq_true',←Bool.not_eq_true,beq_iff_eq] at q;exact c5 q,cond_false]
 have hs:=kind_spec (e:=e) (h.opn c3) h00 hpm (by
  have hf:(lookC cr m.c e.2.2.2.1).2.2.2.2.2.2.1<0:=by
   have:=fun a=>c5 ⟨⟨a,by omega⟩,by omega⟩;omega
  exact⟨h.rng,h.len,h.g,good_of h.len hle hf hk.run,h.turn c3,h.pm,h.few⟩)
 obtain⟨s1,s2,s3,s4,s5,s6⟩:=hs;rw[s1,Option.bind_some];by_cases c6:(kindM r cr m e).2=0
 rotate_left
 ·rw[if_pos c6,bne_t c6,cond_true,s2 c6];exact⟨rfl,h⟩
 rw[if_neg (fun q=>q c6),bne_f c6,cond_false];simp only[show(tupM r cr (kindM r cr m e).1).2.2.2.2.2.1=(kindM r cr m e).1.j from rfl]
 have hj:JOK (kindM r cr m e).1.j:=by rw[s6.2];exact h.j
 obtain⟨j1,j2⟩:=qrJ hj (by rw[s6.2];have:=h.j.1;omega) (entry_ok e he);rw[qwS e he,Option.bind_some,j1,Option.bind_some];have ho:=qt7 (r:=r) (cr:=cr) (m:={ (kindM r cr m e).1 with last:=e.2.2.2.1,j:=nextJ (kindM r cr m e).1.j (qiK e) }) s4;rw[show((tupM r cr (kindM r cr m e).1).1,((tupM r cr (kindM r cr m e).1).2.1,(((tupM r cr (kindM r cr m e).1).2.2.1.1,((tupM r cr (kindM r cr m e).1).2.2.1.2.1,((tupM r cr (kindM r cr m e).1).2.2.1.2.2.1,()))),((tupM r cr (kindM r cr m e).1).2.2.2.1,(e.2.2.2.1,(nextJ (kindM r cr m e).1.j (qiK e),()))))))=tupM r cr { (kindM r cr m e).1 with last:=e.2.2.2.1,j:=nextJ (kindM r cr m e).1.j (qiK e) } from rfl,ho,Option.bind_some];refine⟨rfl,?_⟩;show MOK r cr (doneM r (kindM r cr m e).1 e);unfold doneM
 have hg':∀x:MS,(overM r x).g=x.g∧(overM r x).c=x.c∧(overM r x).pm=x.pm∧(overM r x).j=x.j∧(overM r x).last=x.last∧((overM r x).res=0→x.res=0∧qaa r x.g.1=0):=fun x=>by
  unfold overM;split
  ·rename_i q;exact⟨rfl,rfl,rfl,rfl,rfl,fun z=>absurd z q.2⟩
  ·rename_i q
   exact⟨rfl,rfl,rfl,rfl,rfl,fun z=>⟨z,by
    by_cases w:qaa r x.g.1=0
    ·exact w
    ·exact absurd ⟨z,w⟩ q⟩⟩
 obtain⟨g1,g2,g3,g4,g5,g6⟩:=hg' { (kindM r cr m e).1 with last:=e.2.2.2.1,j:=nextJ (kindM r cr m e).1.j (qiK e) };refine⟨h.rng,h.len,by rw[g1];exact s4,h.cok,fun q=>?_,fun q=>?_,fun q=>?_,by rw[g3];exact s5,by rw[g3];exact pm_len s5,by rw[g4];exact j2⟩
 ·rw[g2,g5];exact(s3 c6 (g6 q).1).clk
 ·rw[g1,g2];exact(s3 c6 (g6 q).1).turn
 ·rw[g1];exact(g6 q).2

noncomputable def startC (cr:CRule) (now:Int):Clk:=(((perAt cr 0).2.1,((perAt cr 0).2.1,())),((0,(0,())),((0,(0,())),(0,(now,(false,(-1,())))))))
theorem qxf (cr:CRule) (now:Int) (hl:cr.1.length≤9223372036854775807):qhd cr now=some (if chkC cr=0 then if 0≤now∧now≤100000000 then(startC cr now,(0,())) else(dClk,(11,())) else(dClk,(chkC cr,()))):=by
 unfold qhd;rw[qpP cr hl,Option.bind_some];by_cases c:chkC cr=0
 ·rw[if_pos c,bne_f c,cond_false];have hcr:=qnz c;have hw:qg now 0 100000000=decide (0≤now∧now≤100000000):=by
   rw[Bool.eq_iff_iff,qdA,decide_eq_true_eq]
  rw[hw];by_cases d:0≤now∧now≤100000000
  ·rw[if_pos d,decide_eq_true d,Bool.not_true,cond_false,(qkA hcr (k:=0) (by omega) (by have:=hcr.len;omega)).1,Option.bind_some];rfl
  ·rw[if_neg d,decide_eq_false d];rfl
 ·rw[if_neg c,bne_t c,cond_true];rfl
theorem qxE {cr:CRule} (h:chkC cr=0):qjx cr=some cr:=by
 have hcr:=(qnz h).len;unfold qjx;have:qaz cr.1=some cr.1:=by
  unfold qaz;have hr:room (([]:List (Int×Int×Unit)).length+cr.1.length) 16=true:=qO (by simp only[List.length_nil];omega);rw[hr]
  cases cr.1 with
  | nil=>simp[qc,agree_self]
  | cons a l=>simp[qc]
 rw[this,Option.bind_some]
theorem qrc {cr:CRule} {now:Int} (c:chkC cr=0) (h:0≤now∧now≤100000000):GoodC cr (startC cr now) now:=by
 have hcr:=qnz c;have hlen:=hcr.len;have hd:=hcr.del;obtain⟨_,_,h2,_⟩:=qkA hcr (k:=0) (by omega) (by omega)
 have hv:VC cr (startC cr now):=⟨⟨Int.le_refl _,by show(0:Int)≤1;omega⟩,⟨Int.le_refl _,by show(-1:Int)≤1;omega⟩,h,⟨Int.le_refl _,by show(0:Int)≤_;omega⟩,⟨Int.le_refl _,by show(0:Int)≤_;omega⟩,
  ⟨Int.le_refl _,by show(0:Int)≤400;omega⟩,⟨Int.le_refl _,by show(0:Int)≤400;omega⟩,⟨by show 0≤(perAt cr 0).2.1;omega,by show(perAt cr 0).2.1≤_;omega⟩,⟨by show 0≤(perAt cr 0).2.1;omega,by show(perAt cr 0).2.1≤_;omega⟩⟩
 refine⟨c,hv,Int.le_refl _,h.2,rfl,rfl,?_⟩;have hn:=left_nn hv;show max 0 (now-now-cr.2.2.1)≤_;omega
def startB:ByteArray:=ByteArray.mk #[115,116,97,114,116,32]
def qmf (now:Int):ByteArray:=startB++numS now
theorem qqV {n:Int} (h:I64 n):(qmf n).size≤27∧qY startB (numS n)=true:=by
 have h1:=qwa h;have h2:startB.size=6:=rfl;refine⟨by unfold qmf;rw[ByteArray.size_append];omega,?_⟩;unfold qY;rw[Nat.ble_eq];omega
theorem start_okt {n:Int} (h:I64 n):OKT (qmf n):=by
 refine⟨by have:=(qqV h).1;omega,fun c hc=>?_⟩;unfold qmf at hc;rw[qml] at hc;rcases List.mem_append.1 hc with hc | hc
 ·have:c∈[115,116,97,114,116,32]:=hc;simp only[List.mem_cons,List.not_mem_nil,or_false] at this
  rcases this with rfl | rfl | rfl | rfl | rfl | rfl<;>decide
 ·have:=num_mem n c hc;omega
theorem jok_nil:JOK []:=⟨Nat.zero_le _,fun i hi=>absurd hi (Nat.not_lt_zero _)⟩
theorem qn5 {n:Int} (h:I64 n):qbm [] (qmf n)=some (nextJ [] (qmf n),(0,()))∧JOK (nextJ [] (qmf n)):=qrJ jok_nil (Nat.zero_lt_succ _) (start_okt h)
def off0:Offs:=((-1,(-1,())),(((-1,(-1,())),((-1,(-1,())),())),()))
noncomputable def rawM (r:Rules) (cr:CRule) (now:Int):MS:={ g:=([qn r],[]),res:=0,rea:=0,c:=startC cr now,o:=off0,pm:=[],last:=now,j:=nextJ [] (qmf now) }
noncomputable def newM (r:Rules) (cr:CRule) (now:Int):MS:=overM r (rawM r cr now)
theorem new_over {r:Rules} {cr:CRule} {now:Int} (c:qz r=0):qbu (tupM r cr (rawM r cr now))=some (tupM r cr (newM r cr now),()):=qt7 (RG.begin c)
theorem over_ok {r:Rules} {m:MS}:(overM r m).c=m.c∧(overM r m).o=m.o∧((overM r m).res=0→m.res=0∧qaa r m.g.1=0):=by
 unfold overM;split
 ·rename_i q;exact⟨rfl,rfl,fun z=>absurd z q.2⟩
 ·rename_i q
  exact⟨rfl,rfl,fun z=>⟨z,by
   by_cases w:qaa r m.g.1=0
   ·exact w
   ·exact absurd ⟨z,w⟩ q⟩⟩
theorem new_mok {r:Rules} {cr:CRule} {now:Int} (hr:Rng qae r) (hl:cr.1.length≤9223372036854775807) (c:qz r=0) (c1:chkC cr=0) (h:0≤now∧now≤100000000):MOK r cr (newM r cr now):=by
 obtain⟨g1,g2,g3,g4⟩:=qtg r (rawM r cr now);obtain⟨g5,g6,g7⟩:=over_ok (r:=r) (m:=rawM r cr now);unfold newM;refine⟨hr,hl,by rw[g1];exact RG.begin c,c1,fun q=>?_,fun q=>?_,fun q=>?_,by rw[g2];rfl,by rw[g2];exact Nat.zero_le _,by rw[g3];exact(qn5 ⟨by omega,by omega⟩).2⟩
 ·rw[g5,g4];exact qrc c1 h
 ·rw[g5,g1];rfl
 ·rw[g1];exact(g7 q).2

theorem look_same {cr:CRule} {c:Clk} {now:Int} (hl:cr.1.length≤9223372036854775807) (h:GoodC cr c now):lookC cr c now=c:=by
 unfold lookC;rw[qth hl h];rfl
structure Moved (r:Rules) (cr:CRule) (m:MS) (x:Mv) (now:Int) (y:MS×Int):Prop where
 ok:y.2=0
 g:y.1.g=nextG r m.g x
 c:y.1.c=qf2 cr m.c now
 pm:y.1.pm=[]
 last:y.1.last=now
 j:y.1.j.length=m.j.length+1
 res:y.1.res=qaa r (nextG r m.g x).1
theorem do_moved {r:Rules} {cr:CRule} {m:MS} (h:MOK r cr m) {e:Ev} (h0:m.res=0) (h1:e.1=0) (h2:e.2.1=par m.g.2.length) (h3:m.last≤e.2.2.2.1) (hj:m.j.length<1000) (hg:GoodC cr m.c e.2.2.2.1)
  (hx:ql r (lastP m.g.1) e.2.2.2.2.1=true) (hl:m.g.2.length<400) (hpm:m.pm=[]):Moved r cr m e.2.2.2.2.1 e.2.2.2.1 (doM r cr m e):=by
 have hp:=par_rng m.g.2.length;have hn:=hg.now1;have ho:=h.opn h0
 have hmem:e.2.2.2.2.1∈openM r (lastP m.g.1):=openM_mem.2 ⟨by
  unfold qaa at ho;by_cases w:((qan r (lastP m.g.1)==0)&&(r.repeats !=0))&&decide (((qjA m.g.1:Nat):Int)≥r.repeats)
  ·rw[w,cond_true] at ho;cases ho
  ·rw[show(((qan r (lastP m.g.1)==0)&&(r.repeats !=0))&&decide (((qjA m.g.1:Nat):Int)≥r.repeats))=false by simpa using w,cond_false] at ho
   exact ho,hx⟩
 have hk:kindM r cr m e=(moveM r cr m e.2.2.2.2.1 e.2.2.2.1,0):=by
  unfold kindM qr8;rw[if_pos h1,if_neg (fun q=>q h2.symm),if_neg (fun q=>q hmem),if_neg (by omega),hpm];rw[show([]:List PM).length+1=1 from rfl,ann_nil (by exact hpm)]
 have hd:doM r cr m e=(doneM r (moveM r cr m e.2.2.2.2.1 e.2.2.2.1) e,0):=by
  unfold doM;rw[if_neg (by omega),if_neg (by omega),if_neg (fun q=>q h0),if_neg (by omega),look_same h.len hg,if_neg (by have:=hg.up;omega),hk,if_neg (fun q=>q rfl)]
 rw[hd];unfold doneM;obtain⟨g1,g2,g3,g4⟩:=qtg r { moveM r cr m e.2.2.2.2.1 e.2.2.2.1 with last:=e.2.2.2.1,j:=nextJ (moveM r cr m e.2.2.2.2.1 e.2.2.2.1).j (qiK e) };refine⟨rfl,g1,over_ok.1,by rw[g2];exact hpm,g4,by rw[g3];unfold nextJ;simp;rfl,?_⟩;unfold overM;split
 ·rfl
 ·rename_i q;by_cases w:qaa r (nextG r m.g e.2.2.2.2.1).1=0
  ·rw[w];exact h0
  ·exact absurd ⟨h0,w⟩ q

theorem qu1 {r:Rules} {cr:CRule} {m:MS} (h:MOK r cr m):qG (r,(m.g.1,(m.g.2,())))=some m.g.2∧qR m.pm=some m.pm:=⟨qji h.g.ok,clonePM m.pm (by have:=h.few;omega)⟩
theorem qg0:Rng qae qa:=qlb _ _ (by decide +kernel)
theorem qeg:qz qa=0:=by decide +kernel
theorem qw2:VR0 qa:=qbg qeg
abbrev demoM:Mv:=(-1,(4,(0,())))
theorem qt6:ql qa (qn qa) demoM=true:=by decide +kernel
theorem demo_open:qan qa (qn qa)=0:=by decide +kernel
theorem demo_tl:tl qa (resL.getD 0 []) (qn qa) [demoM]=[83,64,98,50,32,42,10]:=by decide +kernel
theorem demo_text:qcM qa (recT [demoM] 0)=some (ByteArray.mk #[83,64,98,50,32,42,10],(0,())):=by
 have hck:qax qa (recT [demoM] 0)=some 0:=by
  rw[qnJ qg0 (recT [demoM] 0) (qlb _ _ (by decide +kernel)) (by decide),show qsI qa (recT [demoM] 0)=0 by decide +kernel]
 have:=text_eq qg0 qeg (i:=0) (by decide) (ms:=[demoM]) ⟨qpq qw2,qt6,demo_open,trivial⟩ (by decide) hck;rw[demo_tl] at this;exact this
theorem qwT (l:Jn) (s:ByteArray):(nextJ l s).length=l.length+1:=by unfold nextJ;simp
def evP:Ev:=(0,(0,(0,(10,((-1,(4,(0,()))),())))))
theorem qiT:chkC gamehalltopH10Minute=0:=by decide +kernel
theorem plays_M:(doM qa gamehalltopH10Minute (newM qa gamehalltopH10Minute 0) evP).2=0∧(doM qa gamehalltopH10Minute (newM qa gamehalltopH10Minute 0) evP).1.g.2.length=1∧(doM qa gamehalltopH10Minute (newM qa gamehalltopH10Minute 0) evP).1.c.1.1=60990:=by
 have hm:=new_mok (cr:=gamehalltopH10Minute) (now:=0) qg0 (by decide) qeg qiT ⟨by decide,by decide⟩
 have h0:qaa qa [qn qa]=0:=by decide +kernel
 have hn:newM qa gamehalltopH10Minute 0=rawM qa gamehalltopH10Minute 0:=by
  unfold newM overM;rw[if_neg (fun q=>q.2 h0)]
 rw[hn] at hm ⊢;have hg:GoodC gamehalltopH10Minute (rawM qa gamehalltopH10Minute 0).c 10:=by
  have:=qrc (cr:=gamehalltopH10Minute) (now:=0) qiT ⟨by decide,by decide⟩;refine⟨this.ok,this.v,?_,by decide,this.up,this.run,?_⟩
  ·show(0:Int)≤10;decide
  ·show max 0 ((10:Int)-0-gamehalltopH10Minute.2.2.1)≤leftT (startC gamehalltopH10Minute 0);decide +kernel
 have:=do_moved hm (e:=evP) rfl rfl rfl (by show(0:Int)≤10;decide) (by show(nextJ [] (qmf 0)).length<1000;rw[qwT];decide) hg (by decide +kernel) (by decide) rfl;refine⟨this.ok,?_,?_⟩
 ·rw[this.g];rfl
 ·rw[this.c];show(qf2 gamehalltopH10Minute (startC gamehalltopH10Minute 0) 10).1.1=60990;decide +kernel
theorem qwW:qbl=some true:=by
 have hm:=new_mok (cr:=gamehalltopH10Minute) (now:=0) qg0 (by decide) qeg qiT ⟨by decide,by decide⟩;have z64:I64 0:=⟨by decide,by decide⟩;have he:EvR evP:=⟨z64,z64,z64,⟨by decide,by decide⟩,⟨by decide,by decide⟩,⟨by decide,by decide⟩,⟨by decide,by decide⟩⟩;obtain⟨d1,d2⟩:=do_spec hm he rfl rfl;obtain⟨e1,e2⟩:=qu1 d2;obtain⟨p1,p2,p3⟩:=plays_M;unfold qbl;simp only[qjW,agree_self];refine(congrArg (fun z=>Option.bind z _) (qe5 qa qg0)).trans ?_;rw[if_pos qeg,Option.bind_some];simp only[bne_self_eq_false,cond_false];refine(congrArg (fun z=>Option.bind (Option.bind z _) _) (qjJ (qbg qeg))).trans ?_;rw[Option.bind_some,Option.bind_some];simp only[bne_self_eq_false,cond_false]
 refine(congrArg (fun z=>Option.bind z _) (qxf gamehalltopH10Minute 0 (by decide))).trans ?_;rw[if_pos qiT,if_pos ⟨by decide,by decide⟩,Option.bind_some];simp only[bne_self_eq_false,cond_false];refine(congrArg (fun z=>Option.bind z _) (qjJ (qbg qeg))).trans ?_;rw[Option.bind_some];refine(congrArg (fun z=>Option.bind z _) (qxE qiT)).trans ?_;rw[Option.bind_some];refine(congrArg (fun z=>Option.bind z _) (qwg z64)).trans ?_;rw[Option.bind_some];rw[show qY (ByteArray.mk #[115,116,97,114,116,32]) (numS 0)=true from(qqV z64).2,qc];refine(congrArg (fun z=>Option.bind z _) (qn5 z64).1).trans ?_;rw[Option.bind_some];refine(congrArg (fun z=>Option.bind z _) (new_over (r:=qa) (cr:=gamehalltopH10Minute) (now:=0) qeg)).trans ?_
 rw[Option.bind_some];refine(congrArg (fun z=>Option.bind z _) d1).trans ?_;rw[Option.bind_some];refine(congrArg (fun z=>Option.bind (Option.bind z _) _) demo_text).trans ?_;rw[Option.bind_some,Option.bind_some];simp only[p1,beq_self_eq_true,cond_true];refine(congrArg (fun z=>Option.bind (Option.bind z _) _) e1).trans ?_;rw[Option.bind_some];refine(congrArg (fun z=>Option.bind (Option.bind z _) _) e2).trans ?_;rw[Option.bind_some,Option.bind_some,p2];decide +kernel
theorem quE {A:Type} (l:List A):(l.take (if (30:Int)<((l.length:Nat):Int) then(30:Int) else((l.length:Nat):Int)).toNat).drop 0=l.take 30:=by
 rw[List.drop_zero];split
 ·rfl
 ·rw[Int.toNat_natCast,List.take_length,List.take_of_length_le (by omega)]
theorem sameT (a:List Mv) (ha:a.length≤1000000000):qaw a a=some true:=by
 unfold qaw;rw[bne_self_eq_false,cond_false]
 have h1:=qag a (fun _=>false) (qaV a a) (.inr false) (.inl ((),())) (fun i hi=>by
  unfold qaV;simp only[show decide ((i:Int)<((a.length:Nat):Int))=true by simp;omega,cond_true];rw[at_natL a i hi,Option.bind_some,Option.bind_some,qf (n:=(i:Int)+1) (by omega) (by omega)]
  simp) (by
  unfold qaV
  simp)
 rw[h1,List.any_eq_false.2 (fun _ _=>by simp),cond_false];rfl
theorem build_lin (l:List Mv) (v:Int):iterW (qX l) (((0:Int),()),((([]:List (ByteArray×ByteArray×Unit)),((ByteArray.mk #[]),(([]:List (Int×Mv×ByteArray×Unit)),(v,())))),()))=some ((),(([],((ByteArray.mk #[]),(linN (l.take 30) (-1) 0,(v,())))),())):=by
 have hK:(l.take 30).length≤30:=by rw[List.length_take];omega
 have:=qaq (f:=qX l) (l.take 30).length (fun t=>(((t:Int),()),((([]:List (ByteArray×ByteArray×Unit)),((ByteArray.mk #[]),((linN (l.take 30) (-1) 0).take t,(v,())))),()))) ((),(([],((ByteArray.mk #[]),(linN (l.take 30) (-1) 0,(v,())))),())) (fun t ht=>by
  have he:(if t=0 then(-1:Int) else((0+t-1:Nat):Int))=(t:Int)-1:=by split<;>omega
  have hg:=qm8 (l.take 30) (-1) 0 t ht;rw[he] at hg
  have ht2:t<(linN (l.take 30) (-1) 0).length:=by rw[qe1];exact ht
  have hg2:=(List.getElem?_eq_some_iff.1 hg).2
  have hl:((linN (l.take 30) (-1) 0).take t).length≤30:=by rw[List.length_take];omega
  unfold qX;simp only[quE];rw[decide_eq_true (show(t:Int)<(((l.take 30).length:Nat):Int) by omega),cond_true,at?_eq (l.take 30) (t:Int) (by omega) (by omega),Option.bind_some];simp only[Int.toNat_natCast];rw[qO (by simp only[List.length_cons,List.length_nil];omega),qc,qf (n:=(t:Int)+1) (by omega) (by omega),qf (n:=(t:Int)-1) (by omega) (by omega),List.take_succ_eq_append_getElem ht2,hg2]
  rfl) (by
  unfold qX;simp only[quE]
  rw[decide_eq_false (by omega),cond_false,List.take_of_length_le (by rw[qe1];exact Nat.le_refl _)])
 exact this
theorem gamehalltopTopNotation_true (r:Rules) (l:List Mv) (hr:Rng qae r) (hl:Rng (.sl tyMv) l):qbB r l=some true:=by
 have hK:(l.take 30).length≤30:=by rw[List.length_take];omega
 have hKr:∀m∈l.take 30,Rng tyMv m:=fun m hm=>hl.2 m (List.mem_of_mem_take hm);unfold qbB;rw[qwW,Option.bind_some];simp only[Bool.not_true,cond_false,quE]
 rw[show qk (0:Int) (if (30:Int)<((l.length:Nat):Int) then(30:Int) else((l.length:Nat):Int)) l.length=true by
  split<;>simp[qk]<;>omega,qc]
 cases decide (((r.2.2.2.2.1.length:Nat):Int)>(20:Int))
 rotate_left
 ·rfl
 rw[cond_false,qmP r (l.take 30) hr (by omega),Option.bind_some];by_cases c0:qz r=0
 rotate_left
 ·have e:qi3 r (l.take 30)=(dP,(0,(qz r,()))):=by unfold qi3;rw[if_neg c0]
  rw[e];simp only[bne_t c0,cond_true]
 cases hg:qgD r (l.take 30) with
 | inr e =>
  have he:¬e=0:=err_neL _ _ _ hg
  have e:qi3 r (l.take 30)=(dP,(0,(e,()))):=by unfold qi3;rw[if_pos c0,hg]
  rw[e];simp only[bne_t he,cond_true]
 | inl s =>
  have e:qi3 r (l.take 30)=(lastP s.1,(qaa r s.1,(0,()))):=by unfold qi3;rw[if_pos c0,hg]
  obtain⟨hok,_⟩:=qtb _ _ _ (qeb c0) hg;obtain⟨g1,g2⟩:=qxg (r:=r) (l:=s.1) hok.last;obtain⟨i,hi,hgi⟩:∃i:Nat,i<4∧qaa r s.1=(i:Int):=⟨(qaa r s.1).toNat,by omega,by omega⟩;have hp:=plays_of c0 hg;have hck:=check_lin (i:=i) hr c0 hi hg (by omega) (rng_lin hi (by omega) hKr);rw[e];simp only[bne_self_eq_false,cond_false];rw[build_lin,Option.bind_some,hgi];show Option.bind (qcM r (recT (l.take 30) i)) _=_;rw[text_eq hr c0 hi hp (by omega) hck,Option.bind_some];show Option.bind (qg2 r (mkB (tl r (resL.getD i []) (qn r) (l.take 30)))) _=_;rw[read_eq hr c0 hi hp (by omega) hck,Option.bind_some]
  rw[show(((((0:Int)!=0)||((0:Int)!=0))||((recT (l.take 30) i).2.2.2.1 !=(i:Int))):Bool)=false by
   show((((0:Int)!=0)||((0:Int)!=0))||((i:Int)!=(i:Int)):Bool)=false
   simp,cond_false]
  show Option.bind (qd8 r (recT (l.take 30) i)) _=_;rw[main_lin (by omega) hck,Option.bind_some,qxm r _ hr (by omega),if_pos c0,hg,Option.bind_some];show Option.bind (qbs r (joinB 32 (qal r s.1 (l.take 30)))) _=_;rw[qsT hr (by omega) c0 hg,Option.bind_some];show Option.bind (qah r (l.take 30)) _=_;rw[qmP r (l.take 30) hr (by omega),Option.bind_some,e];have hs:qaw (l.take 30) (l.take 30)=some true:=sameT _ (by omega);have hps:qec (lastP s.1) (lastP s.1)=some true:=by
   rw[qt3 hok.last];simp[same0]
  simp only[beq_self_eq_true,Bool.and_true,Bool.true_and];unfold gopt;simp only[hs,cond_true,Option.bind_some];show Option.bind (qec (lastP s.1) (lastP s.1)) _=_;rw[hps,Option.bind_some,hgi];simp
end Go.Proofs.YthidcmjpbokeeaaGreatDoor
