/- Several texts in one: ModelA, ModelB, ModelX, ModelY, RefE, RefereeDecidesL. -/
import Derived.Test.YtijkabgijfdpfaaGreatDoorMAG
import Derived.Test.YtijkabgijfdpfaaGreatDoorMAF
namespace Go.Proofs.YtijkabgijfdpfaaGreatDoor
open Go.Den
set_option linter.unusedVariables false
set_option linter.unusedSimpArgs false
set_option maxRecDepth 100000
set_option maxHeartbeats 0

abbrev qwH:=Rules×CRule×StT×Int×Unit
def tupR (r:Rules) (cr:CRule) (m:MS):qwH:=(r,(cr,((m.g.2,(m.res,(m.rea,(m.c,(m.o,(m.pm,())))))),(m.last,()))))
abbrev FlR:=ByteArray×Int×Int×(List (Int×Int×Int×(List (Int×Int×Int×Int×Unit))×Unit))×(List Int)×Bool×Bool×(List (Int×Int×Int×Bool×Unit))×Int×Int×Int×(List (Int×Int×Unit))×Int×Int×(List Mv)×Int×Int×Int×Int×Int×Int×Int×Int×Int×Int×Bool×Int×Int×Int×Int×Int×Int×Int×(List PM)×Int×Unit
def flatR (x:qwH):FlR:=(x.1.1,(x.1.2.1,(x.1.2.2.1,(x.1.2.2.2.1,(x.1.2.2.2.2.1,(x.1.2.2.2.2.2.1,(x.1.2.2.2.2.2.2.1,(x.1.2.2.2.2.2.2.2.1,(x.1.2.2.2.2.2.2.2.2.1,(x.1.2.2.2.2.2.2.2.2.2.1,(x.1.2.2.2.2.2.2.2.2.2.2.1,(x.2.1.1,(x.2.1.2.1,(x.2.1.2.2.1,(x.2.2.1.1,(x.2.2.1.2.1,(x.2.2.1.2.2.1,(x.2.2.1.2.2.2.1.1.1,(x.2.2.1.2.2.2.1.1.2.1,(x.2.2.1.2.2.2.1.2.1.1,(x.2.2.1.2.2.2.1.2.1.2.1,(x.2.2.1.2.2.2.1.2.2.1.1,(x.2.2.1.2.2.2.1.2.2.1.2.1,(x.2.2.1.2.2.2.1.2.2.2.1,(x.2.2.1.2.2.2.1.2.2.2.2.1,(x.2.2.1.2.2.2.1.2.2.2.2.2.1,(x.2.2.1.2.2.2.1.2.2.2.2.2.2.1,(x.2.2.1.2.2.2.2.1.1.1,(x.2.2.1.2.2.2.2.1.1.2.1,(x.2.2.1.2.2.2.2.1.2.1.1.1,(x.2.2.1.2.2.2.2.1.2.1.1.2.1,(x.2.2.1.2.2.2.2.1.2.1.2.1.1,(x.2.2.1.2.2.2.2.1.2.1.2.1.2.1,(x.2.2.1.2.2.2.2.2.1,x.2.2.2))))))))))))))))))))))))))))))))))
def unflatR (y:FlR):qwH:=((y.1,(y.2.1,(y.2.2.1,(y.2.2.2.1,(y.2.2.2.2.1,(y.2.2.2.2.2.1,(y.2.2.2.2.2.2.1,(y.2.2.2.2.2.2.2.1,(y.2.2.2.2.2.2.2.2.1,(y.2.2.2.2.2.2.2.2.2.1,(y.2.2.2.2.2.2.2.2.2.2.1,()))))))))))),((y.2.2.2.2.2.2.2.2.2.2.2.1,(y.2.2.2.2.2.2.2.2.2.2.2.2.1,(y.2.2.2.2.2.2.2.2.2.2.2.2.2.1,()))),((y.2.2.2.2.2.2.2.2.2.2.2.2.2.2.1,(y.2.2.2.2.2.2.2.2.2.2.2.2.2.2.2.1,(y.2.2.2.2.2.2.2.2.2.2.2.2.2.2.2.2.1,(((y.2.2.2.2.2.2.2.2.2.2.2.2.2.2.2.2.2.1,(y.2.2.2.2.2.2.2.2.2.2.2.2.2.2.2.2.2.2.1,())),((y.2.2.2.2.2.2.2.2.2.2.2.2.2.2.2.2.2.2.2.1,(y.2.2.2.2.2.2.2.2.2.2.2.2.2.2.2.2.2.2.2.2.1,())),((y.2.2.2.2.2.2.2.2.2.2.2.2.2.2.2.2.2.2.2.2.2.1,(y.2.2.2.2.2.2.2.2.2.2.2.2.2.2.2.2.2.2.2.2.2.2.1,())),(y.2.2.2.2.2.2.2.2.2.2.2.2.2.2.2.2.2.2.2.2.2.2.2.1,(y.2.2.2.2.2.2.2.2.2.2.2.2.2.2.2.2.2.2.2.2.2.2.2.2.1,(y.2.2.2.2.2.2.2.2.2.2.2.2.2.2.2.2.2.2.2.2.2.2.2.2.2.1,(y.2.2.2.2.2.2.2.2.2.2.2.2.2.2.2.2.2.2.2.2.2.2.2.2.2.2.1,()))))))),(((y.2.2.2.2.2.2.2.2.2.2.2.2.2.2.2.2.2.2.2.2.2.2.2.2.2.2.2.1,(y.2.2.2.2.2.2.2.2.2.2.2.2.2.2.2.2.2.2.2.2.2.2.2.2.2.2.2.2.1,())),(((y.2.2.2.2.2.2.2.2.2.2.2.2.2.2.2.2.2.2.2.2.2.2.2.2.2.2.2.2.2.1,(y.2.2.2.2.2.2.2.2.2.2.2.2.2.2.2.2.2.2.2.2.2.2.2.2.2.2.2.2.2.2.1,())),((y.2.2.2.2.2.2.2.2.2.2.2.2.2.2.2.2.2.2.2.2.2.2.2.2.2.2.2.2.2.2.2.1,(y.2.2.2.2.2.2.2.2.2.2.2.2.2.2.2.2.2.2.2.2.2.2.2.2.2.2.2.2.2.2.2.2.1,())),())),())),(y.2.2.2.2.2.2.2.2.2.2.2.2.2.2.2.2.2.2.2.2.2.2.2.2.2.2.2.2.2.2.2.2.2.1,())))))),y.2.2.2.2.2.2.2.2.2.2.2.2.2.2.2.2.2.2.2.2.2.2.2.2.2.2.2.2.2.2.2.2.2.2)))
theorem qjW {r:Rules} {s:List Place×List Mv} (hr:Rng qaB r) (h:RG r s):qR r s.2=some (s.1,(0,())):=by
  have hm:=h.ok.most;rw[qwa r s.2 hr (by omega)];unfold qp8;rw[if_pos h.ok.ok,h.reach]
theorem qpm {r:Rules} {s:List Place×List Mv} (hr:Rng qaB r) (h:RG r s):qP r s.1=some (qE r s.1):=by
  have hm:=h.ok.most;have hl:=h.ok.len;exact qu4 h.ok.ok hr h.ok.all (by omega) (by omega)
theorem qxc (l:List Mv) (h:l.length≤100000):qff l=some l:=by
  unfold qff;rw[qJ (by simp only[List.length_nil];omega),qb];rfl
theorem qsZ {r:Rules} {s:List Place×List Mv} (h:OKG r s):w64 (((s.1.length:Nat):Int)-1)=((s.1.length-1:Nat):Int)∧inb ((s.1.length-1:Nat):Int) s.1.length=true:=by
  have hm:=h.most;have hl:=h.len;exact⟨qml (by omega) (by omega),inbN s.1 (s.1.length-1) (by omega)⟩
theorem legal_R {r:Rules} {p:Place} (hr:Rng qaB r) (c:qam r=0) (hv:Valid r p) (x:Mv):qd3 r p x=some (qA r p x,(0,())):=by
  rw[qsj r p x hr (by have:=qbD hv;omega),qlM c hv];rfl
theorem make_R {r:Rules} {cr:CRule} {m:MS} {now:Int} (h:MID r cr m now) (x:Mv):qds (tupR r cr m) x now=some (if stepG r m.g x=0 then(tupR r cr (moveM r cr m x now),true) else(tupR r cr m,false)):=by
  obtain⟨l1,l2⟩:=qsZ h.g.ok;obtain⟨e,he⟩:=qqg m.o (par m.g.2.length);obtain⟨hp,_⟩:=qnl h.len h.clk;have hm:=h.g.ok.most;unfold qds
  simp only[qK,agree_self,show(tupR r cr m).1=r from rfl,show(tupR r cr m).2.2.1.1=m.g.2 from rfl,show(tupR r cr m).2.1=cr from rfl,show(tupR r cr m).2.2.1.2.2.2.1=m.c from rfl,show(tupR r cr m).2.2.1.2.2.2.2.1=m.o from rfl,
    qjW h.rng h.g,qpm h.rng h.g,Option.bind_some,l1,l2,qb,qhS]
  unfold stepG;by_cases c0:qE r m.g.1=0
  rotate_left
  · rw[bne_t c0,Bool.true_or,cond_true,if_neg c0];rfl
  rw[bne_f c0,Bool.false_or,if_pos c0];by_cases c1:m.g.2.length=400
  · rw[beq_t (by omega),cond_true];by_cases c2:qA r (lastP m.g.1) x=true
    · rw[if_pos c2,if_pos c1];rfl
    · rw[if_neg c2];rfl
  rw[beq_f (by omega),cond_false];have hla:getD' m.g.1 ((m.g.1.length-1:Nat):Int).toNat (([],(([],([],())),((0:Int),((0:Int),())))):Place)=lastP m.g.1:=rfl;rw[hla,legal_R h.rng h.g.ok.ok h.g.ok.last,Option.bind_some,hp,Option.bind_some];by_cases c2:qA r (lastP m.g.1) x=true
  · rw[if_pos c2,if_neg c1,c2];simp only[Bool.not_true,Bool.false_or,bne_self_eq_false,cond_false,if_true];rw[he,Option.bind_some,qxc _ (by omega),Option.bind_some,qJ (by simp only[List.length_cons,List.length_nil];omega),qb];rfl
  · rw[if_neg c2,show qA r (lastP m.g.1) x=false by simpa using c2];rfl
def qeU (t:Int):List PM→List Mv×List PM
  | []=>([],[])
  | x::l=>bif (x.1==t) then([x.2.1],l) else((qeU t l).1,x::(qeU t l).2)
theorem qsd (p:Nat→Bool):∀(k i:Nat),fstI p (i+1) k=fstI (fun j=>p (j+1)) i k+1
  | 0,i=>rfl
  | k+1,i=>by
    unfold fstI;rw[qsd p k (i+1)]
    cases p (i+1)<;>rfl
theorem fstP_cons (x:PM) (l:List PM) (t:Int):fstP (x::l) t=bif (x.1==t) then 0 else fstP l t+1:=by
  unfold fstP;rw[List.length_cons]
  conv=>lhs;unfold fstI
  rw[qsd];rfl
theorem qtQ (t:Int):∀l:List PM,qeU t l=if fstP l t<l.length then([(l.getD (fstP l t) dPM).2.1],l.take (fstP l t)++l.drop (fstP l t+1)) else([],l)
  | []=>rfl
  | x::l=>by
    unfold qeU;rw[fstP_cons,qtQ t l];cases (x.1==t)
    · simp only[cond_false,List.length_cons];by_cases c:fstP l t<l.length
      · rw[if_pos c,if_pos (by omega)];rfl
      · rw[if_neg c,if_neg (by omega)]
    · simp only[cond_true,List.length_cons];rw[if_pos (by omega)];rfl
theorem qyp (r:Rules) (p:Place) (l:List PM):nextP r p l=match (qeU p.turn l).1 with
    | []=>((0,(0,(0,()))),(false,(woL l p.turn,())))
    | x::_=>if x∈openM r p then(x,(true,((qeU p.turn l).2,()))) else((0,(0,(0,()))),(false,(woL l p.turn,()))):=by
  rw[qtQ];unfold nextP;by_cases c:fstP l p.turn<l.length
  · rw[if_pos c,if_pos c];unfold resN;rfl
  · rw[if_neg c,if_neg c]
theorem qrp (t:Int):∀l:List PM,(qeU t l).1.length≤1∧(qeU t l).2.length≤l.length
  | []=>⟨Nat.zero_le _,Nat.le_refl _⟩
  | x::l=>by
    have ih:=qrp t l;unfold qeU;cases (x.1==t)
    · simp only[cond_false,List.length_cons];omega
    · simp only[cond_true,List.length_cons,List.length_nil];omega
theorem ann_L2 (X:Unit×FlR×Unit) (pm:List PM) (n:Nat) (h1:X.2.1.2.2.2.2.2.2.2.2.2.2.2.2.2.2.2.2.2.2.2.2.2.2.2.2.2.2.2.2.2.2.2.2.2.1=pm) (h2:X.2.1.2.2.2.2.2.2.2.2.2.2.2.2.2.2.1.length=n) (hl:pm.length≤1000) :
    iterW (qI X) ((([]:List Mv),(([]:List PM),((0:Int),()))),())=some (((qeU (par n) pm).1,((qeU (par n) pm).2,())),()):=by
  have step:∀(i:Nat) (hi:i<pm.length) (a:List Mv) (b:List PM),a.length≤1→b.length≤1000→qI X ((a,(b,((i:Int),()))),())=some (.inl (((bif (pm[i].1==par n)&&(((a.length:Nat):Int)==0) then a++[pm[i].2.1] else a),((bif (pm[i].1==par n)&&(((a.length:Nat):Int)==0) then b else b++[pm[i]]),(((i+1:Nat):Int),()))),())):=by
    intro i hi a b ha hb;unfold qI;simp only[h1,h2,qhS];rw[show decide ((i:Int)<((pm.length:Nat):Int))=true by simp;omega,cond_true,qdw pm i hi,Option.bind_some,qg (n:=(i:Int)+1) (by omega) (by omega),qJ (by simp only[List.length_cons,List.length_nil];omega),qJ (by simp only[List.length_cons,List.length_nil];omega),qb,qb]
    cases (pm[i].1==par n)&&(((a.length:Nat):Int)==0)<;>rfl
  have fin:∀(a:List Mv) (b:List PM),qI X ((a,(b,(((pm.length:Nat):Int),()))),())=some (.inr ((a,(b,())),())):=by
    intro a b;unfold qI;simp only[h1];rw[show decide (((pm.length:Nat):Int)<((pm.length:Nat):Int))=false by simp];rfl
  have late:∀(k i:Nat) (x:Mv) (b:List PM),i+k=pm.length→b.length≤i→iterW (qI X) (([x],(b,((i:Int),()))),())=some (([x],(b++pm.drop i,())),()):=by
    intro k
    induction k with
    | zero =>
      intro i x b hi hb
      have:i=pm.length:=by omega
      subst this;rw[qk (fin _ _),List.drop_length,List.append_nil]
    | succ k ih =>
      intro i x b hi hb
      have hil:i<pm.length:=by omega
      have hs:=step i hil [x] b (by simp) (by omega);rw[show((([x].length:Nat):Int)==0)=false from rfl,Bool.and_false,cond_false,cond_false] at hs;rw[qn hs,ih (i+1) x _ (by omega) (by simp;omega),List.drop_eq_getElem_cons hil];simp
  have early:∀(k i:Nat) (b:List PM),i+k=pm.length→b.length≤i→iterW (qI X) (([],(b,((i:Int),()))),())=some (((qeU (par n) (pm.drop i)).1,(b++(qeU (par n) (pm.drop i)).2,())),()):=by
    intro k
    induction k with
    | zero =>
      intro i b hi hb
      have:i=pm.length:=by omega
      subst this;rw[qk (fin _ _),List.drop_length];unfold qeU;simp
    | succ k ih =>
      intro i b hi hb
      have hil:i<pm.length:=by omega
      have hs:=step i hil [] b (by simp) (by omega);rw[show(((([]:List Mv).length:Nat):Int)==0)=true from rfl,Bool.and_true] at hs;rw[List.drop_eq_getElem_cons hil];unfold qeU;cases hq:(pm[i].1==par n)
      · rw[hq,cond_false,cond_false] at hs;rw[qn hs,ih (i+1) _ (by omega) (by simp;omega)];simp
      · rw[hq,cond_true,cond_true,List.nil_append] at hs;rw[qn hs,late k (i+1) _ b (by omega) (by omega)];rfl
  have:=early pm.length 0 [] (Nat.zero_add _) (Nat.zero_le _);rw[List.drop_zero,List.nil_append] at this;exact this
theorem ann_L3 (Y:(Bool×Unit)×FlR×Unit) (X:Unit×FlR×Unit) (pm:List PM) (n:Nat) (h1:Y.2.1.2.2.2.2.2.2.2.2.2.2.2.2.2.2.2.2.2.2.2.2.2.2.2.2.2.2.2.2.2.2.2.2.2.1=pm) (h2:X.2.1.2.2.2.2.2.2.2.2.2.2.2.2.2.2.1.length=n) (hl:pm.length≤1000) :
    iterW (qad Y X) ((([]:List PM),((0:Int),())),())=some ((woL pm (par n),()),()):=by
  have:=qnz pm 1 (qad Y X) (fun x=>bif (x.1 !=par n) then [x] else []) (fun a=>((a,()),())) [] (fun x _=>by
    cases (x.1 !=par n)
    · exact Nat.zero_le _
    · exact Nat.le_refl _) (fun i hi a ha=>by
    simp only[List.length_nil] at ha;unfold qad;simp only[h1,h2,qhS];rw[show decide ((i:Int)<((pm.length:Nat):Int))=true by simp;omega,cond_true,qdw pm i hi,Option.bind_some,qg (n:=(i:Int)+1) (by omega) (by omega),qJ (by simp only[List.length_cons,List.length_nil];omega),qb];cases (pm[i].1 !=par n)
    · simp
    · rfl) (fun a=>by
    unfold qad;simp only[h1];rw[show decide (((pm.length:Nat):Int)<((pm.length:Nat):Int))=false by simp]
    rfl)
  rw[this];have hw:∀l:List PM,l.flatMap (fun x=>bif (x.1 !=par n) then [x] else [])=woL l (par n):=by
    intro l
    induction l with
    | nil=>rfl
    | cons x l ih =>
      unfold woL at *;rw[List.flatMap_cons,List.filter_cons,ih];show(bif !(x.1==par n) then [x] else [])++_=if (!(x.1==par n))=true then _ else _
      cases (x.1==par n)<;>simp
  rw[hw];rfl

theorem ann_stepR {r:Rules} {cr:CRule} {m:MS} {now:Int} (h:MID r cr m now):qa3 now ((),(flatR (tupR r cr m),()))=if qE r m.g.1=0∧m.g.2.length<400 then
      if (nextP r (lastP m.g.1) m.pm).2.1=true then some (.inl ((),(flatR (tupR r cr (moveM r cr { m with pm:=(nextP r (lastP m.g.1) m.pm).2.2.1 } (nextP r (lastP m.g.1) m.pm).1 now)),())))
      else some (.inr (.inr (tupR r cr { m with pm:=(nextP r (lastP m.g.1) m.pm).2.2.1 },())))
    else some (.inr (.inl ((),(flatR (tupR r cr m),())))):=by
  have ht:=RG.turn m.g.2.length h.g rfl;have hf:=h.few;unfold qa3;simp only[qK,agree_self];refine(congrArg (fun z=>Option.bind z _) (show Option.bind (qR r m.g.2) (fun r2=>Option.bind (qP r r2.1) fun r3=>some ((((r3==(0:Int))&&(decide (((m.g.2.length:Nat):Int)<(400:Int)))),()),()))=some (((((qE r m.g.1)==(0:Int))&&(decide (((m.g.2.length:Nat):Int)<(400:Int)))),()),()) from by rw[qjW h.rng h.g,Option.bind_some,qpm h.rng h.g,Option.bind_some])).trans ?_;rw[Option.bind_some];by_cases c0:qE r m.g.1=0∧m.g.2.length<400
  rotate_left
  · rw[if_neg c0];simp only
    rw[show(((qE r m.g.1)==(0:Int))&&(decide (((m.g.2.length:Nat):Int)<(400:Int))))=false by
      rw[Bool.eq_false_iff];intro q;simp only[Bool.and_eq_true,beq_iff_eq,decide_eq_true_eq] at q;omega,cond_false]
  rw[if_pos c0];simp only
  rw[show(((qE r m.g.1)==(0:Int))&&(decide (((m.g.2.length:Nat):Int)<(400:Int))))=true by
      simp only[Bool.and_eq_true,beq_iff_eq,decide_eq_true_eq];omega,cond_true]
  rw[ann_L2 ((),(flatR (tupR r cr m),())) m.pm m.g.2.length rfl rfl (by omega),Option.bind_some];simp only;rw[qyp,ht];have hs:=qrp (par m.g.2.length) m.pm;have hno:∀(z:Bool×Unit) ,z.1=false→∀ {B:Type} (f:(List PM×Unit)×Unit→Option B),Option.bind (iterW (qad (z,(flatR (tupR r cr m),())) ((),(flatR (tupR r cr m),()))) ((([]:List PM),((0:Int),())),())) f=f ((woL m.pm (par m.g.2.length),()),()):=fun z hz B f=>by
    rw[ann_L3 (z,(flatR (tupR r cr m),())) ((),(flatR (tupR r cr m),())) m.pm m.g.2.length rfl rfl (by omega),Option.bind_some]
  cases hsp:(qeU (par m.g.2.length) m.pm).1 with
  | nil =>
    simp only[List.length_nil];rw[show(((0:Nat):Int)==1)=false from rfl];simp only[imp,cond_false,qb,Option.bind_some];refine(congrArg (fun z=>Option.bind z _) (hno (false,()) rfl _)).trans ?_;rfl
  | cons x l =>
    have hl0:l=[]:=by rw[hsp] at hs;simp only[List.length_cons] at hs;exact List.length_eq_zero_iff.1 (by omega)
    subst hl0;simp only[List.length_cons,List.length_nil];rw[show(((0+1:Nat):Int)==1)=true from rfl,show inb (0:Int) (0+1)=true from rfl];simp only[imp,cond_true,qb];refine(congrArg (fun z=>Option.bind (Option.bind (Option.bind z _) _) _) (make_R h x)).trans ?_;rw[Option.bind_some];by_cases c1:x∈openM r (lastP m.g.1)
    · rw[if_pos c1,if_pos (qiD c0.1 c1 c0.2)];rfl
    · have hst:¬stepG r m.g x=0:=fun q=>c1 (openM_mem.2 ⟨by
        have:=c0.1;unfold qE at this;by_cases w:((qaD r (lastP m.g.1)==0)&&(r.repeats !=0))&&decide (((qa8 m.g.1:Nat):Int)≥r.repeats)
        · rw[w,cond_true] at this;cases this
        · rw[show(((qaD r (lastP m.g.1)==0)&&(r.repeats !=0))&&decide (((qa8 m.g.1:Nat):Int)≥r.repeats))=false by simpa using w,cond_false] at this
          exact this,(step_0 q).2⟩)
      rw[if_neg c1,if_neg hst];simp only[Option.bind_some,cond_false];refine(congrArg (fun z=>Option.bind z _) (hno (false,()) rfl _)).trans ?_;rfl
theorem ann_R {r:Rules} {cr:CRule} {now:Int}:∀(k:Nat) (m:MS),MID r cr m now→m.pm.length<k →
    Option.bind (iterW (qa3 now) ((),(flatR (tupR r cr m),()))) (Sum.elim (fun x=>some (unflatR x.2.1,())) some)=some (tupR r cr (annM r cr now k m),())
  | 0,m,_,hk=>absurd hk (Nat.not_lt_zero _)
  | k+1,m,h,hk=>by
    have hL:=ann_stepR h;unfold annM;by_cases c0:qE r m.g.1=0∧m.g.2.length<400
    rotate_left
    · rw[if_neg c0] at hL;rw[if_neg c0,qk hL];rfl
    rw[if_pos c0] at hL;rw[if_pos c0];by_cases c1:(nextP r (lastP m.g.1) m.pm).2.1=true
    · rw[if_pos c1] at hL;rw[if_pos c1,qn hL];obtain⟨n1,n2⟩:=qsR c1;exact ann_R k _ (qpn (mid_pm h (qst r (lastP m.g.1) m.pm)) (qiD c0.1 n1 c0.2)) (by show(nextP r (lastP m.g.1) m.pm).2.2.1.length<k;omega)
    · rw[if_neg c1] at hL;rw[if_neg c1,qk hL];rfl
theorem qvZ {r:Rules} {cr:CRule} {m:MS} {now:Int} (h:MID r cr m now):qdf (tupR r cr m) now=some (tupR r cr (annM r cr now (m.pm.length+1) m),()):=ann_R _ m h (Nat.lt_succ_self _)

theorem qsm:∀(k:Nat) (s:List Place×List Mv),(backN k s).2=s.2.take (s.2.length-k)
  | 0,s=>by
    show s.2=_;rw[Nat.sub_zero,List.take_length]
  | k+1,s=>by
    show(backN k (backG s)).2=_;rw[qsm k,qmJ];show(s.2.dropLast).take _=_;rw[List.dropLast_eq_take,List.take_take];congr 1;omega
theorem accept_R {r:Rules} {cr:CRule} {m:MS} {e:Ev} (h:MID r cr m e.2.2.2.1):qc5 (tupR r cr m) e ((m.g.2.length:Nat):Int)=some (tupR r cr (qa2 m e).1,(qa2 m e).2):=by
  obtain⟨a1,a2⟩:=qsh m.o e.2.2.1 e.2.1 ((m.g.2.length:Nat):Int);have hm:=h.g.ok.most;unfold qc5;simp only[qK,agree_self];rw[show(tupR r cr m).2.2.1.2.2.2.2.1=m.o from rfl,a1,Option.bind_some];unfold qa2;simp only;by_cases c1:(ofAcc m.o e.2.2.1 e.2.1 ((m.g.2.length:Nat):Int)).2=0
  rotate_left
  · rw[if_pos c1,bne_t c1,cond_true]
  rw[if_neg (fun q=>q c1),bne_f c1,cond_false];by_cases c2:e.2.2.1=0
  · rw[if_pos c2,beq_t c2,cond_true];rfl
  rw[if_neg c2,beq_f c2,cond_false];have hpl:w64 (1-e.2.1)=1-e.2.1:=qg (by have:=(a2 c1).2.1;omega) (by have:=(a2 c1).2.1;omega);obtain⟨p0,p1,p2⟩:=qqp (1-e.2.1) m.g.2.length;have hG:=qsm (qcU (1-e.2.1) ((m.g.2.length:Nat):Int)).toNat m.g;have hbl:=qm5 (qcU (1-e.2.1) ((m.g.2.length:Nat):Int)).toNat m.g;have hk:w64 (((m.g.2.length:Nat):Int)-qcU (1-e.2.1) ((m.g.2.length:Nat):Int))=(((m.g.2.length-(qcU (1-e.2.1) ((m.g.2.length:Nat):Int)).toNat:Nat)):Int):=by
    rw[qg (by omega) (by omega)];omega
  rw[hpl,qn7,Option.bind_some,hk,←hbl];obtain⟨f,hf⟩:=qpv (ofAcc m.o e.2.2.1 e.2.1 ((m.g.2.length:Nat):Int)).1 (((backN (qcU (1-e.2.1) ((m.g.2.length:Nat):Int)).toNat m.g).2.length:Nat):Int);rw[hf,Option.bind_some,show(tupR r cr m).2.2.1.1=m.g.2 from rfl,show qm 0 (((backN (qcU (1-e.2.1) ((m.g.2.length:Nat):Int)).toNat m.g).2.length:Nat):Int) m.g.2.length=true by simp only[qm,Bool.and_eq_true,decide_eq_true_eq];omega,qb,Int.toNat_natCast,List.drop_zero,qhS];rw[show m.g.2.take (backN (qcU (1-e.2.1) ((m.g.2.length:Nat):Int)).toNat m.g).2.length=(backN (qcU (1-e.2.1) ((m.g.2.length:Nat):Int)).toNat m.g).2 by rw[hbl];exact hG.symm];rw[qxc _ (by omega),Option.bind_some];rfl
theorem claim_R {r:Rules} {cr:CRule} {m:MS} {e:Ev} {last:Int} (hr:Rng qaB r) (hl:cr.1.length≤9223372036854775807) (hg:RG r m.g) (hk:GoodC cr m.c last):qel (tupR r cr m) e (lookC cr m.c e.2.2.2.1) ((m.g.2.length:Nat):Int)=some (tupR r cr (qbU r cr m e).1,(qbU r cr m e).2):=by
  obtain⟨l1,l2⟩:=qsZ hg.ok;have hm:=hg.ok.most;have hll:=hg.ok.len;have hla:getD' m.g.1 ((m.g.1.length-1:Nat):Int).toNat (([],(([],([],())),((0:Int),((0:Int),())))):Place)=lastP m.g.1:=rfl;unfold qel qbU;simp only[qK,agree_self,show(tupR r cr m).1=r from rfl,show(tupR r cr m).2.2.1.1=m.g.2 from rfl,qjW hr hg,Option.bind_some,l1,l2,qb,hla,qhS];by_cases c1:e.2.2.1=2
  · rw[if_pos c1,beq_t c1];simp only[Bool.true_and,cond_true];by_cases c2:(lookC cr m.c e.2.2.2.1).2.2.2.2.2.2.1<0
    · rw[if_pos c2,decide_eq_true c2,cond_true]
    · rw[if_neg c2,decide_eq_false c2,cond_false];have hf:=qw8 (now:=e.2.2.2.1) hl hk;have w1:w64 (1-(lookC cr m.c e.2.2.2.1).2.2.2.2.2.2.1)=1-(lookC cr m.c e.2.2.2.1).2.2.2.2.2.2.1:=qg (by omega) (by omega);have w2:w64 (2-(lookC cr m.c e.2.2.2.1).2.2.2.2.2.2.1)=2-(lookC cr m.c e.2.2.2.1).2.2.2.2.2.2.1:=qg (by omega) (by omega)
      have cp:1-(lookC cr m.c e.2.2.2.1).2.2.2.2.2.2.1=0∨1-(lookC cr m.c e.2.2.2.1).2.2.2.2.2.2.1=1:=by omega
      simp only[w1,w2];rw[rep_eta,quh hg.ok.last cp,Option.bind_some,←able_same hg.ok.last cp];unfold fallR
      cases ableR r (lastP m.g.1) (1-(lookC cr m.c e.2.2.2.1).2.2.2.2.2.2.1)<;>rfl
  · rw[if_neg c1,beq_f c1];simp only[Bool.false_and,cond_false];rw[qpy (r:=r) hg.ok.all (by omega) (by omega)];by_cases d:e.2.2.1≠0∧e.2.2.1≠1
    · rw[if_pos d,bne_t d.1,bne_t d.2];rfl
    rw[if_neg d,show((e.2.2.1 !=(0:Int))&&(e.2.2.1 !=(1:Int)))=false by
      rw[Bool.eq_false_iff];intro q;simp only[bneI,Bool.and_eq_true,decide_eq_true_eq] at q;exact d q,cond_false]
    by_cases c2:par m.g.2.length=e.2.1
    rotate_left
    · rw[if_pos c2,bne_t (fun q=>c2 q.symm),cond_true]
    rw[if_neg (fun q=>q c2),bne_f c2.symm,cond_false];have hq:(lastP m.g.1).2.2.2.1=(lastP m.g.1).quiet:=rfl;by_cases d0:e.2.2.1=0
    · simp only[d0,beq_self_eq_true,gopt,cond_true,Option.bind_some,Bool.true_and];by_cases c3:3≤qa8 m.g.1
      · rw[decide_eq_false (show ¬((qa8 m.g.1:Nat):Int)<3 by omega),if_pos (.inl ⟨trivial,c3⟩)];rfl
      · rw[decide_eq_true (show((qa8 m.g.1:Nat):Int)<3 by omega),if_neg (by omega)];rfl
    · have d1:e.2.2.1=1:=by omega
      simp only[d1,show((1:Int)==0)=false from rfl,gopt,cond_false,Option.bind_some,Bool.false_and,beq_self_eq_true,Bool.true_and];by_cases c3:20≤(lastP m.g.1).quiet
      · rw[hq,decide_eq_false (show ¬(lastP m.g.1).quiet<20 by omega),if_pos (.inr ⟨trivial,c3⟩)];rfl
      · rw[hq,decide_eq_true (show(lastP m.g.1).quiet<20 by omega),if_neg (by omega)];rfl
theorem qyj {r:Rules} {cr:CRule} {m:MS} {e:Ev} (h:MID r cr m e.2.2.2.1):qco (tupR r cr m) e ((m.g.2.length:Nat):Int)=some (tupR r cr (qaz m e).1,(qaz m e).2):=by
  have hf:=h.few;unfold qco qaz;simp only[qK,agree_self,qhS];by_cases c1:par m.g.2.length=e.2.1
  · rw[if_pos c1,beq_t c1.symm,cond_true]
  rw[if_neg c1,beq_f (fun q=>c1 q.symm),cond_false]
  have hL:=qjX m.pm (fun x=>x.1==e.2.1) (qbe (tupR r cr m) e) (fun c=>((c,()),())) (fun i hi c hc0 hc1=>by
    unfold qbe;simp only[show(tupR r cr m).2.2.1.2.2.2.2.2.1=m.pm from rfl];rw[show decide ((i:Int)<((m.pm.length:Nat):Int))=true by simp;omega,cond_true,qdw m.pm i hi,Option.bind_some,qg (n:=(i:Int)+1) (by omega) (by omega),qg (n:=c+1) (by omega) (by omega)];cases (m.pm[i].1==e.2.1)<;>rfl) (fun c=>by
    unfold qbe;simp only[show(tupR r cr m).2.2.1.2.2.2.2.2.1=m.pm from rfl];rw[show decide (((m.pm.length:Nat):Int)<((m.pm.length:Nat):Int))=false by simp]
    rfl)
  rw[hL,Option.bind_some,qjB];simp only;by_cases c2:m.pm.countP (fun x=>x.1==e.2.1)=4
  · rw[if_pos c2,c2];rfl
  rw[if_neg c2,beq_f (show ¬((m.pm.countP (fun x=>x.1==e.2.1):Nat):Int)=4 by omega),cond_false];rw[show(tupR r cr m).2.2.1.2.2.2.2.2.1=m.pm from rfl];have r1:room (([]:List PM).length+m.pm.length) 32=true:=qJ (by simp only[List.length_nil];omega);have r2:∀z:PM,room (m.pm.length+[z].length) 32=true:=fun z=>qJ (by simp only[List.length_nil,List.length_cons];omega);simp only[r1,r2,qb,qK,agree_self,Option.bind_some,List.nil_append];rfl
def szM (m:MS):Nat:=m.g.2.length+m.pm.length
theorem qxh (r:Rules) (cr:CRule) (now:Int):∀(k:Nat) (m:MS),szM (annM r cr now k m)≤szM m
  | 0,m=>Nat.le_refl _
  | k+1,m=>by
    unfold annM;split
    · split
      · rename_i c;obtain⟨_,n2⟩:=qsR c;have:=qxh r cr now k (moveM r cr { m with pm:=(nextP r (lastP m.g.1) m.pm).2.2.1 } (nextP r (lastP m.g.1) m.pm).1 now);have e:szM (moveM r cr { m with pm:=(nextP r (lastP m.g.1) m.pm).2.2.1 } (nextP r (lastP m.g.1) m.pm).1 now)=m.g.2.length+1+(nextP r (lastP m.g.1) m.pm).2.2.1.length:=by
          unfold szM moveM nextG;simp
        unfold szM at *;omega
      · have:=(qst r (lastP m.g.1) m.pm).length_le;unfold szM;show m.g.2.length+(nextP r (lastP m.g.1) m.pm).2.2.1.length≤_;omega
    · exact Nat.le_refl _
theorem kind_size (r:Rules) (cr:CRule) (m:MS) (e:Ev):szM (kindM r cr m e).1≤szM m+1:=by
  unfold kindM;split
  · unfold qeN;split
    · exact Nat.le_succ _
    · split
      · exact Nat.le_succ _
      · split
        · exact Nat.le_succ _
        · have:=qxh r cr e.2.2.2.1 (m.pm.length+1) (moveM r cr m e.2.2.2.2.1 e.2.2.2.1);have e':szM (moveM r cr m e.2.2.2.2.1 e.2.2.2.1)=szM m+1:=by
            unfold szM moveM nextG;simp;omega
          show szM (annM r cr e.2.2.2.1 (m.pm.length+1) (moveM r cr m e.2.2.2.2.1 e.2.2.2.1))≤_;omega
  · split
    · unfold qei;simp only
      repeat' split
      all_goals exact Nat.le_succ _
    · split
      · unfold qa2;simp only;split
        · exact Nat.le_succ _
        · split
          · exact Nat.le_succ _
          · unfold szM;simp only[qm5,List.length_nil];omega
      · split
        · unfold qbU
          repeat' split
          all_goals exact Nat.le_succ _
        · split
          · unfold qaz;split
            · exact Nat.le_succ _
            · split
              · exact Nat.le_succ _
              · unfold szM;simp only[List.length_append,List.length_cons,List.length_nil];omega
          · exact Nat.le_succ _
theorem do_size (r:Rules) (cr:CRule) (m:MS) (e:Ev):szM (doM r cr m e).1≤szM m+1:=by
  have hk:=kind_size r cr m e;unfold doM
  repeat' split
  all_goals first | exact Nat.le_succ _ | skip
  unfold doneM szM at *;rw[(qfq r _).1,(qfq r _).2.1];exact hk
theorem kind_open {r:Rules} {cr:CRule} {m:MS} {e:Ev} {last:Int} (hg:RG r m.g) (hl:cr.1.length≤9223372036854775807) (hk:GoodC cr m.c last) (hp:e.2.1=0∨e.2.1=1) (h0:qE r m.g.1=0) (h:e.1≠0):(kindM r cr m e).1.res≠0∨qE r (kindM r cr m e).1.g.1=0:=by
  unfold kindM;rw[if_neg h];split
  · right;unfold qei;simp only
    repeat' split
    all_goals exact h0
  · split
    · unfold qa2;simp only;split
      · exact .inr h0
      · split
        · exact .inl (show(3:Int)≠0 by decide)
        · exact .inr (qnV _ hg (qqp (1-e.2.1) m.g.2.length).2.2 h0)
    · split
      · unfold qbU
        repeat' split
        all_goals first | exact .inr h0 | exact .inl (show(3:Int)≠0 by decide) | skip
      · split
        · unfold qaz
          repeat' split
          all_goals exact .inr h0
        · exact .inl (by show ¬(2-e.2.1=0);omega)
def lastM (m:MS) (now:Int):MS:={ m with last:=now }
theorem done_same {r:Rules} {m:MS} {e:Ev} (h:m.res≠0∨qE r m.g.1=0) (cr:CRule):tupR r cr (doneM r m e)=tupR r cr (lastM m e.2.2.2.1):=by
  unfold doneM overM
  rw [if_neg (fun q => by rcases h with h | h
                          · exact h q.1
                          · exact q.2 h)]
  rfl
theorem qsv (r:Rules) (cr:CRule) (m:MS) (now x:Int) {A:Type} (f:Unit×FlR×Unit→Option A):(Option.bind (bif (x==(0:Int)) then some ((),(flatR (tupR r cr (lastM m now)),())) else some ((),(flatR (tupR r cr m),()))) f)=f ((),(flatR (tupR r cr (if x=0 then lastM m now else m)),())):=by
  by_cases c:x=0
  · rw[if_pos c,beq_t c];rfl
  · rw[if_neg c,beq_f c];rfl
theorem res_open {r:Rules} {l:List Place} (h:qE r l=0):qaD r (lastP l)=0:=by
  unfold qE at h;by_cases w:((qaD r (lastP l)==0)&&(r.repeats !=0))&&decide (((qa8 l:Nat):Int)≥r.repeats)
  · rw[w,cond_true] at h;cases h
  · rw[show(((qaD r (lastP l)==0)&&(r.repeats !=0))&&decide (((qa8 l:Nat):Int)≥r.repeats))=false by simpa using w,cond_false] at h;exact h
theorem ann_res (r:Rules) (cr:CRule) (now:Int):∀(k:Nat) (m:MS),(annM r cr now k m).res=m.res
  | 0,m=>rfl
  | k+1,m=>by
    unfold annM;split
    · split
      · exact ann_res r cr now k _
      · rfl
    · rfl
theorem qxS {r:Rules} {cr:CRule} {m:MS} (h:MOK r cr m) {e:Ev} (hs:szM m<400) (hj:m.j.length<1000):qht (tupR r cr m) e=some (tupR r cr (doM r cr m e).1,(doM r cr m e).2):=by
  obtain⟨le,hle⟩:=qjF cr m.c e.2.2.2.1 h.len;unfold qht doM;simp only[qK,agree_self,qhS,show(tupR r cr m).2.1=cr from rfl,show(tupR r cr m).2.2.1.1=m.g.2 from rfl,show(tupR r cr m).2.2.1.2.1=m.res from rfl,show(tupR r cr m).2.2.1.2.2.2.1=m.c from rfl,show(tupR r cr m).2.2.2.1=m.last from rfl,show(tupR r cr m).2.2.1.2.2.2.2.1=m.o from rfl];by_cases c1:(e.1<0∨6<e.1)∨(e.2.1≠0∧e.2.1≠1)
  · rw[if_pos c1,show(((decide (e.1<(0:Int)))||(decide (e.1>(6:Int))))||((e.2.1 !=(0:Int))&&(e.2.1 !=(1:Int))))=true by
      simp only[bneI,Bool.or_eq_true,Bool.and_eq_true,decide_eq_true_eq];omega,cond_true]
  rw[if_neg c1,show(((decide (e.1<(0:Int)))||(decide (e.1>(6:Int))))||((e.2.1 !=(0:Int))&&(e.2.1 !=(1:Int))))=false by
      rw[Bool.eq_false_iff];intro q;simp only[bneI,Bool.or_eq_true,Bool.and_eq_true,decide_eq_true_eq] at q;omega,cond_false]
  by_cases c2:e.2.2.2.1<m.last∨100000000<e.2.2.2.1
  · rw[if_pos c2,show((decide (e.2.2.2.1<m.last))||(decide (e.2.2.2.1>(100000000:Int))))=true by simp only[Bool.or_eq_true,decide_eq_true_eq];omega,cond_true]
  rw[if_neg c2,show((decide (e.2.2.2.1<m.last))||(decide (e.2.2.2.1>(100000000:Int))))=false by rw[Bool.eq_false_iff];intro q;simp only[Bool.or_eq_true,decide_eq_true_eq] at q;omega,cond_false];by_cases c3:m.res=0
  rotate_left
  · rw[if_pos c3,bne_t c3,cond_true]
  rw[if_neg (fun q=>q c3),bne_f c3,cond_false,if_neg (show ¬m.j.length=1000 by omega),hle,Option.bind_some];simp only;have hk:=h.clk c3;by_cases c5:(0≤(lookC cr m.c e.2.2.2.1).2.2.2.2.2.2.1∧e.1≠4)∧¬(e.1=5∧e.2.2.1=2)
  · rw[if_pos c5,show(((decide ((lookC cr m.c e.2.2.2.1).2.2.2.2.2.2.1≥(0:Int)))&&(e.1 !=(4:Int)))&&((e.1 !=(5:Int))||(e.2.2.1 !=(2:Int))))=true by
      simp only[bneI,Bool.and_eq_true,Bool.or_eq_true,decide_eq_true_eq];omega,cond_true]
  rw[if_neg c5,show(((decide ((lookC cr m.c e.2.2.2.1).2.2.2.2.2.2.1≥(0:Int)))&&(e.1 !=(4:Int)))&&((e.1 !=(5:Int))||(e.2.2.1 !=(2:Int))))=false by
      rw[Bool.eq_false_iff];intro q;simp only[bneI,Bool.and_eq_true,Bool.or_eq_true,decide_eq_true_eq] at q;omega,cond_false]
  have hmid:¬(e.1=4∨e.1=5∧e.2.2.1=2)→MID r cr m e.2.2.2.1:=fun q=>by
    have hf:(lookC cr m.c e.2.2.2.1).2.2.2.2.2.2.1<0:=by
      by_cases q1:e.1=4
      · exact absurd (.inl q1) q
      · by_cases q2:e.1=5∧e.2.2.1=2
        · exact absurd (.inr q2) q
        · have:=fun a=>c5 ⟨⟨a,q1⟩,q2⟩;omega
    exact⟨h.rng,h.len,h.g,good_of h.len hle hf hk.run,h.turn c3,h.pm,h.few⟩
  obtain⟨s1,s2,s3,s4,s5,s6⟩:=qup (e:=e) h.rng h.len h.g hk h.pm (by omega) (h.opn c3) (by omega) hmid;have hgoal:∀(y:Option (qwH×Int)),y=some (tupR r cr (if (kindM r cr m e).2=0 then lastM (kindM r cr m e).1 e.2.2.2.1 else m),(kindM r cr m e).2)→e.1≠0→y=some (tupR r cr (if (kindM r cr m e).2≠0 then(m,(kindM r cr m e).2) else(doneM r (kindM r cr m e).1 e,0)).1,(if (kindM r cr m e).2≠0 then(m,(kindM r cr m e).2) else(doneM r (kindM r cr m e).1 e,0)).2):=by
    intro y hy h0;rw[hy];by_cases c6:(kindM r cr m e).2=0
    · rw[if_pos c6,if_neg (fun q=>q c6),c6,done_same (kind_open h.g h.len hk (by omega) (h.opn c3) h0) cr]
    · rw[if_neg c6,if_pos c6]
  by_cases c0:e.1=0
  · have hmd:=hmid (by omega)
    have hk':kindM r cr m e=qeN r cr m e:=by unfold kindM;rw[if_pos c0]
    rw[beq_t c0,cond_true];by_cases d1:par m.g.2.length=e.2.1
    rotate_left
    · have hx:qeN r cr m e=(m,12):=by unfold qeN;rw[if_pos d1]
      rw[bne_t (fun q=>d1 q.symm),cond_true,hk',hx];rfl
    rw[bne_f d1.symm,cond_false,beq_f (show ¬((m.g.2.length:Nat):Int)=400 by unfold szM at hs;omega),cond_false,make_R hmd,Option.bind_some];by_cases d2:e.2.2.2.2.1∈openM r (lastP m.g.1)
    rotate_left
    · have hx:qeN r cr m e=(m,13):=by unfold qeN;rw[if_neg (fun q=>q d1),if_pos d2]
      have hst:¬stepG r m.g e.2.2.2.2.1=0:=fun q=>d2 (openM_mem.2 ⟨res_open (h.opn c3),(step_0 q).2⟩);rw[if_neg hst,hk',hx];rfl
    have hst:stepG r m.g e.2.2.2.2.1=0:=qiD (h.opn c3) d2 (by unfold szM at hs;omega)
    have hx:qeN r cr m e=(annM r cr e.2.2.2.1 (m.pm.length+1) (moveM r cr m e.2.2.2.2.1 e.2.2.2.1),0):=by unfold qeN;rw[if_neg (fun q=>q d1),if_neg (fun q=>q d2),if_neg (by unfold szM at hs;omega)]
    have hmv:=qpn hmd hst;obtain⟨_,hmd'⟩:=qtr (r:=r) (cr:=cr) e rfl (m.pm.length+1) _ hmv (by show m.pm.length<m.pm.length+1;omega);rw[if_pos hst];simp only[Bool.not_true,cond_false];rw[qvZ hmv,Option.bind_some,hk',hx];simp only[show(moveM r cr m e.2.2.2.2.1 e.2.2.2.1).pm.length=m.pm.length from rfl]
    have hres:(annM r cr e.2.2.2.1 (m.pm.length+1) (moveM r cr m e.2.2.2.2.1 e.2.2.2.1)).res=0:=by rw[ann_res];exact c3
    generalize (annM r cr e.2.2.2.1 (m.pm.length+1) (moveM r cr m e.2.2.2.2.1 e.2.2.2.1))=M at *;refine(congrArg (fun z=>Option.bind (Option.bind z _) _) (show Option.bind (qR r M.g.2) (fun r5=>Option.bind (qP r r5.1) fun r6=>some ((r6,()),()))=some ((qE r M.g.1,()),()) from by rw[qjW h.rng hmd'.g,Option.bind_some,qpm h.rng hmd'.g,Option.bind_some])).trans ?_;rw[Option.bind_some];simp only;by_cases w:qE r M.g.1=0
    · rw[bne_f w,cond_false,if_neg (fun q=>q rfl)];unfold doneM overM;rw[if_neg (fun q=>q.2 w)];rfl
    · rw[bne_t w,cond_true,if_neg (fun q=>q rfl)];unfold doneM overM;rw[if_pos ⟨hres,w⟩];rfl
  refine hgoal _ ?_ c0;rw[beq_f c0,cond_false];by_cases d1:e.1=1
  · have hk':kindM r cr m e=qei m e:=by unfold kindM;rw[if_neg c0,if_pos (Or.inl d1)]
    rw[hk',beq_t d1,cond_true,qlc,Option.bind_some];unfold qei;simp only[if_neg (show ¬e.1=3 by omega)];by_cases w:(qpt m.o e.2.2.1 e.2.1 ((m.g.2.length:Nat):Int)).2=0
    · simp only[w,if_true,bne_self_eq_false,cond_false,Option.bind_some,Sum.elim_inl];rfl
    · simp only[if_neg w,bne_t w,cond_true,Option.bind_some,Sum.elim_inr]
  rw[beq_f d1,cond_false];by_cases d2:e.1=2
  · have hk':kindM r cr m e=qa2 m e:=by unfold kindM;rw[if_neg c0,if_neg (by omega),if_pos d2]
    rw[hk',beq_t d2,cond_true,accept_R (hmid (by omega)),Option.bind_some];simp only[Option.bind_some,Sum.elim_inl];refine(qsv r cr (qa2 m e).1 e.2.2.2.1 (qa2 m e).2 _).trans ?_;by_cases w:(qa2 m e).2=0
    · rw[if_pos w,if_pos w];rfl
    · rw[if_neg w,if_neg w,show(qa2 m e).1=m from hk'▸s2 (by rw[hk'];exact w)];rfl
  rw[beq_f d2,cond_false];by_cases d3:e.1=3
  · have hk':kindM r cr m e=qei m e:=by unfold kindM;rw[if_neg c0,if_pos (Or.inr d3)]
    rw[hk',beq_t d3,cond_true,qlw,Option.bind_some];unfold qei;simp only[if_pos d3];by_cases w:(qqw m.o e.2.2.1 e.2.1 ((m.g.2.length:Nat):Int)).2=0
    · simp only[w,if_true,bne_self_eq_false,cond_false,Option.bind_some,Sum.elim_inl];rfl
    · simp only[if_neg w,bne_t w,cond_true,Option.bind_some,Sum.elim_inr]
  rw[beq_f d3,cond_false];by_cases d4:e.1=4
  · have hk':kindM r cr m e=({ m with res:=2-e.2.1,rea:=3 },0):=by unfold kindM;rw[if_neg c0,if_neg (by omega),if_neg d2,if_neg (by omega),if_neg (by omega)]
    rw[hk',beq_t d4,cond_true,qg (n:=2-e.2.1) (by omega) (by omega)];rfl
  rw[beq_f d4,cond_false];by_cases d5:e.1=5
  · have hk':kindM r cr m e=qbU r cr m e:=by unfold kindM;rw[if_neg c0,if_neg (by omega),if_neg d2,if_pos d5]
    rw[hk',beq_t d5,cond_true,claim_R h.rng h.len h.g hk,Option.bind_some];simp only[Option.bind_some,Sum.elim_inl];refine(qsv r cr (qbU r cr m e).1 e.2.2.2.1 (qbU r cr m e).2 _).trans ?_;by_cases w:(qbU r cr m e).2=0
    · rw[if_pos w,if_pos w];rfl
    · rw[if_neg w,if_neg w,show(qbU r cr m e).1=m from hk'▸s2 (by rw[hk'];exact w)];rfl
  have hk':kindM r cr m e=qaz m e:=by unfold kindM;rw[if_neg c0,if_neg (by omega),if_neg d2,if_neg d5,if_pos (by omega)]
  rw[hk',beq_f d5,cond_false,qyj (hmid (by omega)),Option.bind_some];simp only[Option.bind_some,Sum.elim_inl];refine(qsv r cr (qaz m e).1 e.2.2.2.1 (qaz m e).2 _).trans ?_;by_cases w:(qaz m e).2=0
  · rw[if_pos w,if_pos w];rfl
  · rw[if_neg w,if_neg w,show(qaz m e).1=m from hk'▸s2 (by rw[hk'];exact w)];rfl

theorem qyf (r:(List (Int×Int×Unit))×Int×Int×Unit) (h1:1≤r.1.length) (h2:r.1.length≤5):qaJ r=qi3 r:=by
  funext x;obtain⟨⟨i,_⟩,_⟩:=x;have hw:w64 (((r.1.length:Nat):Int)-1)=(r.1.length:Int)-1:=qg (by omega) (by omega);unfold qaJ qi3;simp only[hw];by_cases hi:i<(r.1.length:Int)
  · simp only[hi,decide_true,cond_true];congr 1;funext d;have e1:((!qf d.1 0 400) || !qf d.2.1 1 100000000)=(((decide (d.1<0)||decide (d.1>400))||decide (d.2.1≤0))||decide (d.2.1>100000000)):=by
      unfold qf
      by_cases a1:d.1<0<;>by_cases a2:d.1>400<;>by_cases a3:d.2.1≤0<;>by_cases a4:d.2.1>100000000<;>simp[a1,a2,a3,a4]<;>omega
    have e2:(!((d.1==0)==(i==(r.1.length:Int)-1)))=((decide (i<(r.1.length:Int)-1)&&d.1==0)||(i==(r.1.length:Int)-1&&d.1 !=0)):=by
      by_cases a1:d.1=0<;>by_cases a2:i=(r.1.length:Int)-1
      · simp[a1,a2]
      · have:i<(r.1.length:Int)-1:=by omega
        simp[a1,a2,this]
      · have b1:(d.1==0)=false:=by simpa using a1
        simp[b1,a2,bne]
      · have b1:(d.1==0)=false:=by simpa using a1
        have b2:(i==(r.1.length:Int)-1)=false:=by simpa using a2
        simp[b1,b2,bne]
    rw[e1,e2]
  · simp[hi]
theorem qyn (r:(List (Int×Int×Unit))×Int×Int×Unit) (h1:1≤r.1.length) (h2:r.1.length≤5):∃q,iterW (qaJ r) ((0,()),())=some q:=by
  obtain⟨q,h,_⟩:=qn6 (f:=qaJ r) (fun x=>0≤x.1.1∧x.1.1≤(r.1.length:Int)) (fun x=>((r.1.length:Int)-x.1.1).toNat) (fun _=>True) (by
    rintro ⟨⟨i,_⟩,_⟩ ⟨h3,h4⟩
    simp only at h3 h4;unfold qaJ;by_cases hi:i<(r.1.length:Int)
    · simp only[hi,decide_true,cond_true,at?_eq r.1 i h3 hi,Option.bind_some]
      cases ((!qf (r.1[i.toNat]'(by omega)).1 0 400) || !qf (r.1[i.toNat]'(by omega)).2.1 1 100000000) with
      | true=>exact .inr ⟨_,rfl,trivial⟩
      | false =>
        cases (!(((r.1[i.toNat]'(by omega)).1==0)==(i==w64 ((r.1.length:Int)-1)))) with
        | true=>exact .inr ⟨_,rfl,trivial⟩
        | false =>
          refine .inl ⟨_,rfl,?_,?_⟩<;>simp only[qg (n:=i+1) (by omega) (by omega)]<;>omega
    · exact .inr ⟨_,by simp only[hi,decide_false,cond_false];rfl,trivial⟩) ((0,()),()) ⟨by simp,by simp⟩
  exact⟨q,h⟩
theorem qys (r:(List (Int×Int×Unit))×Int×Int×Unit):∃n,qdZ r=some n∧qdb r=some n∧(n=0→1≤r.1.length∧r.1.length≤5∧0≤r.2.2.1∧r.2.2.1≤100000000):=by
  unfold qdZ qdb;have e0:(!qf ((r.1.length:Nat):Int) 1 5)=(decide (((r.1.length:Nat):Int)<1)||decide (((r.1.length:Nat):Int)>5)):=by
    unfold qf
    by_cases a1:((r.1.length:Nat):Int)<1<;>by_cases a2:((r.1.length:Nat):Int)>5<;>simp[a1,a2]<;>omega
  have e1:((!qf r.2.1 0 100000000) || !qf r.2.2.1 0 100000000)=(((decide (r.2.1<0)||decide (r.2.2.1<0))||decide (r.2.1>100000000))||decide (r.2.2.1>100000000)):=by
    unfold qf
    by_cases a1:r.2.1<0<;>by_cases a2:r.2.2.1<0<;>by_cases a3:r.2.1>100000000<;>by_cases a4:r.2.2.1>100000000<;>simp[a1,a2,a3,a4]<;>omega
  rw[e0,e1]
  cases hc:(decide (((r.1.length:Nat):Int)<1)||decide (((r.1.length:Nat):Int)>5)) with
  | true=>exact⟨2,rfl,rfl,fun h=>by cases h⟩
  | false =>
    simp only[Bool.or_eq_false_iff,decide_eq_false_iff_not] at hc
    cases hd:(((decide (r.2.1<0)||decide (r.2.2.1<0))||decide (r.2.1>100000000))||decide (r.2.2.1>100000000)) with
    | true=>exact⟨4,rfl,rfl,fun h=>by cases h⟩
    | false =>
      simp only[Bool.or_eq_false_iff,decide_eq_false_iff_not] at hd;obtain⟨q,hq⟩:=qyn r (by omega) (by omega);rw[←qyf r (by omega) (by omega),hq]
      refine⟨Sum.elim (fun _=>0) id q,?_,?_,fun _=>by omega⟩<;>cases q<;>rfl

theorem qrG (cr:CRule) (hl:cr.1.length≤9223372036854775807):qdb cr=some (chkC cr):=by
  obtain⟨n,h1,h2,_⟩:=qys cr;rw[qlp cr hl] at h1;rw[h2,←h1]
theorem sameLineM (a:List Mv) (ha:a.length≤1000000000):qfR a a=some true:=by
  unfold qfR;rw[bne_self_eq_false,cond_false]
  have h1:=qaw a (fun _=>false) (qdJ a a) (.inr false) (.inl ((),())) (fun i hi=>by
    unfold qdJ;simp only[show decide ((i:Int)<((a.length:Nat):Int))=true by simp;omega,cond_true];rw[qdw a i hi,Option.bind_some,Option.bind_some,qg (n:=(i:Int)+1) (by omega) (by omega)]
    simp) (by
    unfold qdJ
    simp)
  rw[h1,List.any_eq_false.2 (fun _ _=>by simp),cond_false];rfl
theorem qxH (s:StT) (h1:s.1.length≤1000000) (h2:s.2.2.2.2.2.1.length≤1000000):qfb s s=some true:=by
  unfold qfb;rw[sameLineM _ (by omega),Option.bind_some,bne_self_eq_false];simp only[Bool.not_true,Bool.or_false,cond_false]
  have hL:=qaw s.2.2.2.2.2.1 (fun _=>false) (qcG s s) (.inr false) (.inl ((),())) (fun i hi=>by
    unfold qcG;simp only[show decide ((i:Int)<((s.2.2.2.2.2.1.length:Nat):Int))=true by simp;omega,cond_true];rw[qdw s.2.2.2.2.2.1 i hi,Option.bind_some,Option.bind_some,qg (n:=(i:Int)+1) (by omega) (by omega)]
    simp) (by
    unfold qcG
    simp)
  rw[hL,List.any_eq_false.2 (fun _ _=>by simp),cond_false];simp

theorem qvi (cr:CRule) (c:Clk) (p now:Int) (hl:cr.1.length≤9223372036854775807):∃n e,qhb cr c p now=some (n,(e,())):=by
  unfold qhb
  cases hw:qf p 0 1 with
  | false=>exact⟨_,_,rfl⟩
  | true =>
    obtain⟨c',e,h,_⟩:=qlY cr c now hl;have hp:=(qcN p 0 1).1 hw;have hi:inb p 2=true:=inb_iff.2 ⟨hp.1,by have:=hp.2;omega⟩;rw[Bool.not_true,cond_false,h,Option.bind_some,hi];simp only[qb];by_cases c0:e=0
    · subst c0;simp only[bne_self_eq_false,cond_false]
      cases (decide (c'.2.2.2.2.2.2.1<0)&&(p==c'.2.2.2.1))<;>exact⟨_,_,rfl⟩
    · simp only[bne_t c0,cond_true];exact⟨_,_,rfl⟩
noncomputable def decR (r:Rules) (cr:CRule) (x b:Mom) (c:qov):Option Bool :=
  bif (c.1==(0:Int)) then(Option.bind (bif ((b.1.2.1==(0:Int))&&(b.2.1.2.2.1==c.2.2.1)) then(Option.bind (qau r b.2.1) fun r6=>Option.bind (qt r6 c.2.2.2.2.1) fun r7=>some ((r7,()),())) else some ((false,()),())) fun x8=>some x8.1.1)
  else bif (c.1==(1:Int)) then(Option.bind (qhb cr x.1.2.2.2.1 c.2.2.1 (if x.1.2.2.2.1.2.2.2.2.1>x.2.2.1 then x.1.2.2.2.1.2.2.2.2.1 else x.2.2.1)) fun r9=>some (decide (r9.1≥c.2.2.2.1)))
  else bif (c.1==(2:Int)) then(Option.bind (qai cr x.1.2.2.2.1 (if x.1.2.2.2.1.2.2.2.2.1>x.2.2.1 then x.1.2.2.2.1.2.2.2.2.1 else x.2.2.1)) fun r10=>some (r10.1.2.2.2.2.2.2.1==c.2.2.1))
  else bif (c.1==(3:Int)) then some (x.1.2.1 !=(0:Int))
  else req (inb c.2.2.2.1 2) (some ((getD' [x.1.2.2.2.2.1.1.1,x.1.2.2.2.2.1.1.2.1] (c.2.2.2.1).toNat 0)==c.2.2.1))
theorem qxs {r:Rules} {cr:CRule} {ms:List Mom} {c:qov} (i:Nat) (hc:c.2.1=(i:Int)) (hi:i<ms.length) (hl:ms.length≤1000):qdG r cr ms c=decR r cr ms[i] (ms[i-1]'(by omega)) c:=by
  unfold qdG;simp only[qK,agree_self];rw[hc,qdw ms i hi,Option.bind_some,qg (n:=(i:Int)-1) (by omega) (by omega)]
  have hj:(if (0:Int)>(i:Int)-1 then(0:Int) else(i:Int)-1)=((i-1:Nat):Int):=by split<;>omega
  rw[hj,qdw ms (i-1) (by omega)];rfl
theorem qpG {r:Rules} {cr:CRule} {m:MS} {x:Mom} {t:Int} {c:qov} (hv:Valid r (lastP m.g.1)) (h0:c.1=0):decR r cr x (momM m t) c=some ((m.res==0&&((lastP m.g.1).turn==c.2.2.1))&&qA r (lastP m.g.1) c.2.2.2.2.1):=by
  unfold decR;rw[h0,beq_self_eq_true,cond_true];rw[show(momM m t).1.2.1=m.res from rfl,show(momM m t).2.1=lastP m.g.1 from rfl,show(lastP m.g.1).2.2.1=(lastP m.g.1).turn from rfl]
  cases hb:(m.res==(0:Int)&&((lastP m.g.1).turn==c.2.2.1)) with
  | false=>rfl
  | true =>
    rw[cond_true,qiS hv,Option.bind_some,qfe _ _ (by have:=qhs hv;omega),Option.bind_some,Option.bind_some,Bool.true_and];congr 1;rw[Bool.eq_iff_iff,decide_eq_true_eq,qfr]
theorem qu9 {r:Rules} {cr:CRule} {e:Ev}:∀(es:List Ev) (m:MS),momsM r cr m (es++[e])=momsM r cr m es++[momM (doM r cr (runE r cr m es) e).1 e.2.2.2.1]
  | [],m=>rfl
  | x::es,m=>by
    show momM _ _::momsM r cr _ (es++[e])=momM _ _::momsM r cr _ es++_;rw[qu9 es];rfl
theorem all_snoc {r:Rules} {cr:CRule} {m:MS} {now:Int} {e:Ev} (es:List Ev):allM r cr m now (es++[e])=allM r cr m now es++[momM (doM r cr (runE r cr m es) e).1 e.2.2.2.1]:=by
  unfold allM;rw[qu9];rfl
theorem qwx {r:Rules} {cr:CRule}:∀(es:List Ev) (m:MS),szM (runE r cr m es)≤szM m+es.length
  | [],m=>Nat.le_refl _
  | e::es,m=>by
    have h1:=qwx (r:=r) (cr:=cr) es (doM r cr m e).1;have h2:=do_size r cr m e;show szM (runE r cr (doM r cr m e).1 es)≤_;simp only[List.length_cons];omega
theorem qwy {r:Rules} {cr:CRule} (es:List Ev) (m:MS) (h:okE r cr m es):(runE r cr m es).j.length=m.j.length+es.length:=by
  obtain⟨t,h1,h2⟩:=run_j es m h;have:=congrArg List.length h2;simp only[List.length_map] at this;rw[h1,List.length_append,this]
theorem all_at {r:Rules} {cr:CRule} {m:MS} {now:Int} {es:List Ev} (hm:MOK r cr m) (ho:okE r cr m es) (i:Nat) (hi:i<(allM r cr m now es).length) :
    ∃x t,MOK r cr x∧(allM r cr m now es)[i]=momM x t:=by
  obtain⟨t,h⟩:=all_get (r:=r) (cr:=cr) (m:=m) (now:=now) (es:=es) i hi;have hs:=(qwE (r:=r) (cr:=cr) (es.take i) (es.drop i) m).1 (by rw[List.take_append_drop];exact ho);exact⟨_,t,qp0 _ _ hm hs.1,h⟩

abbrev tyCRule:Ty := .st (.sl (.st (.int .i64) (.st (.int .i64) .nil))) (.st (.int .i64) (.st (.int .i64) .nil))
abbrev tyEvent:Ty := .st (.int .i64) (.st (.int .i64) (.st (.int .i64) (.st (.int .i64) (.st (.st (.int .i64) (.st (.int .i64) (.st (.int .i64) .nil))) .nil))))
theorem evR_of {e:Ev} (h:Rng tyEvent e):EvR e:=⟨h.1,h.2.1,h.2.2.1,h.2.2.2.1,h.2.2.2.2.1.1,h.2.2.2.2.1.2.1,h.2.2.2.2.1.2.2.1⟩
theorem take20 {A:Type} (l:List A):(l.take (if (20:Int)<((l.length:Nat):Int) then(20:Int) else((l.length:Nat):Int)).toNat).drop 0=l.take 20:=by
  rw[List.drop_zero];split
  · rfl
  · rw[Int.toNat_natCast,List.take_length,List.take_of_length_le (by omega)]
theorem qso {r:Rules} {cr:CRule} {l:Jn} {ms:List Mom} {c:qov} (h:qar r cr l=some (ms,(0,()))) (hl:ms.length≤1000) :
    qs r cr l c=if fitC c ((ms.length:Nat):Int)=true then Option.bind (qdG r cr ms c) fun b=>some (b,(0,())) else some (false,(1,())):=by
  unfold qs;rw[h,Option.bind_some];simp only[bne_self_eq_false,cond_false];rw[check_C];by_cases hf:fitC c ((ms.length:Nat):Int)=true
  · rw[if_pos hf,if_pos hf,bne_self_eq_false,cond_false]
  · rw[if_neg hf,if_neg hf];rfl
noncomputable abbrev stS (cr:CRule) (M:MS) (es:List Ev):List StT:=(allM qa cr M 0 es).map (·.1)
noncomputable abbrev nowS (cr:CRule) (M:MS) (es:List Ev):List Int:=(allM qa cr M 0 es).map (·.2.2.1)
theorem rd_step {cr:CRule} {M:MS} (l:List Ev) (i:Nat) (es:List Ev) (hi:i<(l.take 20).length) (hM:MOK qa cr M) (ho:okE qa cr M es) (he:EvR (l.take 20)[i]) (hes:es.length≤i) (hs:szM M=0) (hj:M.j.length=1) :
    qas l ((stS cr M es,(nowS cr M es,((i:Int),()))),(flatT (tupM qa cr (runE qa cr M es)),(flatR (tupR qa cr (runE qa cr M es)),()))) =
      some (.inl ((stS cr M (if (doM qa cr (runE qa cr M es) (l.take 20)[i]).2=0 then es++[(l.take 20)[i]] else es),(nowS cr M (if (doM qa cr (runE qa cr M es) (l.take 20)[i]).2=0 then es++[(l.take 20)[i]] else es),(((i+1:Nat):Int),()))),
        (flatT (tupM qa cr (doM qa cr (runE qa cr M es) (l.take 20)[i]).1),(flatR (tupR qa cr (doM qa cr (runE qa cr M es) (l.take 20)[i]).1),())))):=by
  have hl20:(l.take 20).length≤20:=by rw[List.length_take];omega
  have h:=qp0 es _ hM ho;have hsz:=qwx (r:=qa) (cr:=cr) es M;have hjl:=qwy es M ho;have hal:=qvS (r:=qa) (cr:=cr) (m:=M) (now:=0) (es:=es);have has:=all_snoc (r:=qa) (cr:=cr) (m:=M) (now:=0) (e:=(l.take 20)[i]) es;obtain⟨d1,d2⟩:=qtz h he;have hmod:=qxS h (e:=(l.take 20)[i]) (by omega) (by omega);unfold stS nowS;generalize hA:allM qa cr M 0 es=A at *;obtain⟨j1,j2⟩:=do_jR qa cr (runE qa cr M es) (l.take 20)[i];generalize runE qa cr M es=m at *;unfold qas;simp only[qK,agree_self,take20];rw[show decide ((i:Int)<(((l.take 20).length:Nat):Int))=true by simp only[decide_eq_true_eq];omega,cond_true,qdw _ i hi,Option.bind_some];refine(congrArg (fun z=>Option.bind (Option.bind z _) _) d1).trans ?_;rw[Option.bind_some]
  by_cases c:(doM qa cr m (l.take 20)[i]).2=0
  · simp only[beq_t c,cond_true];refine(congrArg (fun z=>Option.bind (Option.bind z _) _) hmod).trans ?_;rw[Option.bind_some,Option.bind_some];simp only[beq_t c,cond_true];have r1:room ((A.map (·.1)).length+1) 192=true:=qJ (by simp;omega);have r2:room ((A.map (·.2.2.1)).length+1) 8=true:=qJ (by simp;omega);rw[if_pos c];simp only[List.length_singleton];rw[r1,qb,r2,qb,Option.bind_some,Option.bind_some,qg (by omega) (by omega),has,List.map_append,List.map_append];rfl
  · rw[if_neg c,j2 c];simp only[beq_f c,cond_false,Option.bind_some];rw[qg (by omega) (by omega)];subst hA;rfl
theorem qvT {cr:CRule} {M:MS} (l:List Ev) (hev:∀e∈l,EvR e) (hM:MOK qa cr M) (hs:szM M=0) (hj:M.j.length=1):∀(k i:Nat) (es:List Ev),i+k=(l.take 20).length→okE qa cr M es→es.length≤i →
    ∃es',okE qa cr M es'∧es'.length≤(l.take 20).length∧iterW (qas l) ((stS cr M es,(nowS cr M es,((i:Int),()))),(flatT (tupM qa cr (runE qa cr M es)),(flatR (tupR qa cr (runE qa cr M es)),()))) =
      some ((stS cr M es',(nowS cr M es',())),(flatT (tupM qa cr (runE qa cr M es')),(flatR (tupR qa cr (runE qa cr M es')),())))
  | 0,i,es,hi,ho,hl=>by
    refine⟨es,ho,by omega,qk ?_⟩;unfold qas;simp only[qK,agree_self,take20];rw[show decide ((i:Int)<(((l.take 20).length:Nat):Int))=false by simp only[decide_eq_false_iff_not];omega,cond_false]
  | k+1,i,es,hi,ho,hl=>by
    have h20:(l.take 20).length≤20:=by rw[List.length_take];omega
    have hil:i<(l.take 20).length:=by omega
    have he:EvR (l.take 20)[i]:=hev _ (List.mem_of_mem_take (List.getElem_mem hil));rw[qn (rd_step l i es hil hM ho he hl hs hj)];by_cases c:(doM qa cr (runE qa cr M es) (l.take 20)[i]).2=0
    · have:=qvT l hev hM hs hj k (i+1) (es++[(l.take 20)[i]]) (by omega) (qxz es M ho he c) (by simp;omega);rw[qt3] at this;rw[if_pos c];exact this
    · rw[(do_jR _ _ _ _).2 c,if_neg c];exact qvT l hev hM hs hj k (i+1) es (by omega) ho (by omega)
theorem rd_same {cr:CRule} {A:List Mom} {W:MS} (T:List Int) (hA:A.length≤1000) (hm:∀i (hi:i<A.length),A[i].1.1.length≤1000000∧A[i].1.2.2.2.2.2.1.length≤1000000) :
    iterW (qav (A.map (·.1),(0,())) ((A.map (·.1),(T,())),(flatT (tupM qa cr W),(flatR (tupR qa cr W),())))) ((0,()),())=some (.inl ((),())):=by
  have hL:=qaw A (fun _=>false) (qav (A.map (·.1),(0,())) ((A.map (·.1),(T,())),(flatT (tupM qa cr W),(flatR (tupR qa cr W),())))) (.inr false) (.inl ((),())) (fun i hi=>by
    unfold qav;have hlen:(A.map (·.1)).length=A.length:=List.length_map _
    have e1:∀d,(getD' (A.map (·.1)) ((i:Int).toNat) d)=A[i].1:=fun d=>by rw[Int.toNat_natCast];unfold getD';rw[List.getD_eq_getElem?_getD,List.getElem?_map,List.getElem?_eq_getElem hi];rfl
    rw[hlen,show decide ((i:Int)<((A.length:Nat):Int))=true by rw[decide_eq_true_eq];omega,cond_true,show inb (i:Int) A.length=true from inb_iff.2 ⟨by omega,by omega⟩,qb,qb];simp only[e1];rw[qxH _ (hm i hi).1 (hm i hi).2,Option.bind_some,Bool.not_true,cond_false,qg (n:=(i:Int)+1) (by omega) (by omega)]
    rfl) (by
    unfold qav
    rw[show(A.map (·.1)).length=A.length from List.length_map _,show decide (((A.length:Nat):Int)<((A.length:Nat):Int))=false by rw[decide_eq_false_iff_not];omega,cond_false])
  rw[hL,List.any_eq_false.2 (fun _ _=>by simp),cond_false]
theorem qiV:chkC qr=0:=by decide +kernel
theorem qvm (r:Rules) (cr:CRule):qar r cr []=some ([],(8,())):=by
  unfold qar;simp only[qK,agree_self];rw[qme (l:=[]) ⟨by simp,by simp⟩,Option.bind_some];rfl
theorem qv3 (r:Rules) (cr:CRule) (c:qov):qs r cr [] c=some (false,(8,())):=by
  unfold qs;rw[qvm,Option.bind_some];rfl
theorem qrR:newM qa qr 0=rawM qa qr 0:=by
  have h0:qE qa [qaE qa]=0:=by decide +kernel
  unfold newM overM;rw[if_neg (fun q=>q.2 h0)]
theorem qx2:decR qa qr (momM (rawM qa qr 0) 0) (momM (rawM qa qr 0) 0) (0,(0,(0,(0,(qf5 0,())))))=some true:=by
  have hv:=(qsH (cr:=qr) (now:=0) qfy (by decide) qeV qiV ⟨by decide,by decide⟩).g.ok.last;rw[qrR] at hv;rw[qpG hv rfl]
  have h1:qA qa (qaE qa) (qf5 0)=true:=by decide +kernel
  show some (((rawM qa qr 0).res==0&&((qaE qa).turn==0))&&qA qa (qaE qa) (qf5 0))=some true;rw[h1];rfl
theorem qvX:qj2=some true:=by
  have hm:=qsH (cr:=qr) (now:=0) qfy (by decide) qeV qiV ⟨by decide,by decide⟩;have z64:I64 0:=⟨by decide,by decide⟩;have hrep:=qps (cr:=qr) (now:=0) (es:=[]) qfy (by decide) qeV qiV ⟨by decide,by decide⟩ trivial (by decide);rw[show runE qa qr (newM qa qr 0) []=newM qa qr 0 from rfl] at hrep
  have hjl:(newM qa qr 0).j.length=1:=by rw[new_j];rfl
  have hcl:=cloneJ (newM qa qr 0).j (by omega);have hdec:qs qa qr (newM qa qr 0).j (0,(0,(0,(0,(qf5 0,())))))=some (true,(0,())):=by
    rw[qso hrep (by simp[momsM]),if_pos (by decide)];rw[qxs 0 rfl (by simp) (by simp[momsM])];rw[show(momM (newM qa qr 0) 0::momsM qa qr (newM qa qr 0) [])[0]=momM (newM qa qr 0) 0 from rfl,qrR,qx2];rfl
  unfold qj2;simp only[qK,agree_self];refine(congrArg (fun z=>Option.bind z _) (qjE qa qfy)).trans ?_;rw[if_pos qeV,Option.bind_some];simp only[bne_self_eq_false,cond_false];refine(congrArg (fun z=>Option.bind (Option.bind z _) _) (qhc (qa7 qeV))).trans ?_;rw[Option.bind_some,Option.bind_some];simp only[bne_self_eq_false,cond_false];refine(congrArg (fun z=>Option.bind z _) (qjO qr 0 (by decide))).trans ?_;rw[if_pos qiV,if_pos ⟨by decide,by decide⟩,Option.bind_some];simp only[bne_self_eq_false,cond_false];refine(congrArg (fun z=>Option.bind z _) (qhc (qa7 qeV))).trans ?_;rw[Option.bind_some];refine(congrArg (fun z=>Option.bind z _) (qnL qiV)).trans ?_;rw[Option.bind_some];refine(congrArg (fun z=>Option.bind z _) (qj1 z64)).trans ?_
  rw[Option.bind_some];rw[show qcK (ByteArray.mk #[115,116,97,114,116,32]) (numS 0)=true from(qhi z64).2,qb];refine(congrArg (fun z=>Option.bind z _) (qex z64).1).trans ?_;rw[Option.bind_some];refine(congrArg (fun z=>Option.bind z _) (qpk (r:=qa) (cr:=qr) (now:=0) qeV)).trans ?_;rw[Option.bind_some];refine(congrArg (fun z=>Option.bind z _) hcl).trans ?_;rw[Option.bind_some];refine(congrArg (fun z=>Option.bind z _) hdec).trans ?_;rfl
theorem endR {b:Bool} {X:Option Bool} (h:b=false) (hX:X=some true):(bif b then some false else X)=some true:=by rw[h,cond_false,hX]
theorem law3RefereeDecides_true (cr:CRule) (l:List Ev) (c:qov) (hcr:Rng tyCRule cr) (hl:Rng (.sl tyEvent) l) (hc:Rng (.st (.int .i64) (.st (.int .i64) (.st (.int .i64) (.st (.int .i64) (.st (.st (.int .i64) (.st (.int .i64) (.st (.int .i64) .nil))) .nil))))) c):qdM cr l c=some true:=by
  have hlen:l.length≤9223372036854775807:=hl.1;have hev:∀e∈l,EvR e:=fun e he=>evR_of (hl.2 e he);have hcl:cr.1.length≤9223372036854775807:=hcr.1.1;have z64:I64 0:=⟨by decide,by decide⟩;have hz:(0:Int)≤0∧(0:Int)≤100000000:=⟨by decide,by decide⟩
  have hb:qm 0 (if (20:Int)<((l.length:Nat):Int) then(20:Int) else((l.length:Nat):Int)) l.length=true:=by simp only[qm,Bool.and_eq_true,decide_eq_true_eq];split<;>omega
  have hpl2:qR qa []=some ([qaE qa],(0,())):=qjW qfy (RG.begin qeV);unfold qdM;simp only[qK,agree_self];rw[qvX,Option.bind_some,Bool.not_true,cond_false,hb,qb];refine(congrArg (fun z=>Option.bind z _) (qjE qa qfy)).trans ?_;rw[if_pos qeV,Option.bind_some];simp only[bne_self_eq_false,cond_false];refine(congrArg (fun z=>Option.bind (Option.bind z _) _) (qhc (qa7 qeV))).trans ?_;rw[Option.bind_some,Option.bind_some];simp only[bne_self_eq_false,cond_false];rw[qjO cr 0 hcl];by_cases c1:chkC cr=0
  rotate_left
  · rw[if_neg c1,Option.bind_some];simp only[bne_t c1,cond_true];refine(congrArg (fun z=>Option.bind z _) hpl2).trans ?_;rw[Option.bind_some];simp only[bne_self_eq_false,cond_false];rw[qrG cr hcl,Option.bind_some];simp only[bne_t c1,Bool.true_or,cond_true,beq_self_eq_true,Bool.true_and];refine(congrArg (fun z=>Option.bind z _) (qv3 _ cr c)).trans ?_;rfl
  rw[if_pos c1,if_pos hz,Option.bind_some];simp only[bne_self_eq_false,cond_false];have hm:=qsH (cr:=cr) (now:=0) qfy hcl qeV c1 hz;have hrepl:∀es,okE qa cr (newM qa cr 0) es→es.length≤400→qar qa cr (runE qa cr (newM qa cr 0) es).j=some (allM qa cr (newM qa cr 0) 0 es,(0,())):=fun es ho h=>qps qfy hcl qeV c1 hz ho h;have hsz:szM (newM qa cr 0)=0:=by
    unfold newM szM;rw[(qfq qa _).1,(qfq qa _).2.1];rfl
  have hjl:(newM qa cr 0).j.length=1:=by rw[new_j];rfl
  have hx:∀w:Int×Int×Unit,w.2.1=(startC cr 0).1.1→(if qE qa [qaE qa]=0 then True else True):=fun _ _=>by split<;>trivial
  refine(congrArg (fun z=>Option.bind z _) (qhc (qa7 qeV))).trans ?_;rw[Option.bind_some];refine(congrArg (fun z=>Option.bind z _) (qnL c1)).trans ?_;rw[Option.bind_some];refine(congrArg (fun z=>Option.bind z _) (qj1 z64)).trans ?_;rw[Option.bind_some];rw[show qcK (ByteArray.mk #[115,116,97,114,116,32]) (numS 0)=true from(qhi z64).2,qb];refine(congrArg (fun z=>Option.bind z _) (qex z64).1).trans ?_;rw[Option.bind_some];refine(congrArg (fun z=>Option.bind z _) (qpk (r:=qa) (cr:=cr) (now:=0) qeV)).trans ?_;rw[Option.bind_some];refine(congrArg (fun z=>Option.bind z _) hpl2).trans ?_;rw[Option.bind_some];simp only[bne_self_eq_false,cond_false];rw[qrG cr hcl,Option.bind_some,c1];simp only[bne_self_eq_false,cond_false]
  rw[(qjb (qhJ c1) (k:=0) (by omega) (by have:=(qhJ c1).len;omega)).1,Option.bind_some];refine(congrArg (fun z=>Option.bind z _) (show qP qa [qaE qa]=some (qE qa [qaE qa]) from qpm qfy (RG.begin qeV))).trans ?_;rw[Option.bind_some]
  have hg0:qE qa [qaE qa]=0:=by decide +kernel
  rw[hg0];have hN:newM qa cr 0=rawM qa cr 0:=by
    unfold newM overM;rw[if_neg (fun q=>q.2 hg0)]
  simp only[bne_self_eq_false,cond_false];refine(congrArg (fun z=>Option.bind z _) (show _=some ((),(flatR (tupR qa cr (newM qa cr 0)),())) by rw[hN];rfl)).trans ?_;rw[Option.bind_some];clear hN hx;generalize newM qa cr 0=M0 at *;obtain⟨es,ho,hes,hloop⟩:=qvT l hev hm hsz hjl (l.take 20).length 0 [] (Nat.zero_add _) trivial (Nat.le_refl _)
  have h20:(l.take 20).length≤20:=by rw[List.length_take];omega
  refine(congrArg (fun z=>Option.bind z _) hloop).trans ?_;rw[Option.bind_some];have hW:=qp0 es _ hm ho;have hrep:=hrepl es ho (by omega);have hjW:=qwy es M0 ho;have hal:=qvS (r:=qa) (cr:=cr) (m:=M0) (now:=0) (es:=es);have hall:=fun i hi=>all_at (now:=0) hm ho i hi;clear hloop hrepl;unfold stS nowS;generalize allM qa cr M0 0 es=A at *;generalize runE qa cr M0 es=W at *
  have hJA:W.j.length=A.length:=by omega
  have hlm:(A.map (·.1)).length=A.length:=List.length_map _;have hlt:(A.map (·.2.2.1)).length=A.length:=List.length_map _;refine(congrArg (fun z=>Option.bind z _) (cloneJ W.j (by omega))).trans ?_;rw[Option.bind_some];refine(congrArg (fun z=>Option.bind z _) (trace_of hrep (by omega))).trans ?_;rw[Option.bind_some];refine(congrArg (fun z=>Option.bind z _) (qso (c:=c) hrep (by omega))).trans ?_
  have hrs:=rd_same (cr:=cr) (A:=A) (W:=W) (A.map (·.2.2.1)) (by omega) (fun i hi=>by
    obtain⟨x,t,hx,he⟩:=hall i hi;rw[he]
    exact⟨show x.g.2.length≤1000000 by have:=hx.g.ok.most;omega,show x.pm.length≤1000000 by have:=hx.few;omega⟩)
  have hcond:((((((decide (c.1<(0:Int)))||(decide (c.1>(4:Int))))||((c.2.2.1 !=(0:Int))&&(c.2.2.1 !=(1:Int))))||(decide (c.2.1<(0:Int))))||(decide (c.2.1≥((W.j.length:Nat):Int))))||(((c.1==(4:Int))&&(c.2.2.2.1 !=(0:Int)))&&(c.2.2.2.1 !=(1:Int)))) = !(fitC c ((A.length:Nat):Int)):=by
    unfold fitC;rw[hJA,Bool.not_not]
  by_cases hf:fitC c ((A.length:Nat):Int)=true
  rotate_left
  · rw[if_neg hf,Option.bind_some];refine endR ?_ ?_
    · simp only[hlm,hJA,bne_self_eq_false,Bool.or_false]
    · refine(congrArg (fun z=>Option.bind z _) hrs).trans ?_;rw[Option.bind_some,Sum.elim_inl];refine(congrArg (fun b=>cond b _ _) hcond).trans ?_;rw[show fitC c ((A.length:Nat):Int)=false by simpa using hf,Bool.not_false,cond_true];rfl
  rw[if_pos hf];obtain⟨f0,f1⟩:(0≤c.2.1∧c.2.1<((A.length:Nat):Int))∧(c.1=0∨c.1=1∨c.1=2∨c.1=3∨c.1=4∧(c.2.2.2.1=0∨c.2.2.2.1=1)):=by
    unfold fitC at hf;simp only[Bool.not_eq_true',Bool.or_eq_false_iff,Bool.and_eq_false_iff,decide_eq_false_iff_not,bne_eq_false_iff_eq,beq_eq_false_iff_ne,ne_eq] at hf;omega
  obtain⟨i,hi⟩:∃i:Nat,c.2.1=i:=⟨c.2.1.toNat,by omega⟩
  have hil:i<A.length:=by omega
  rw[qxs i hi hil (by omega)];obtain⟨x,t,hx,hex⟩:=hall i hil;obtain⟨b,t',hb,heb⟩:=hall (i-1) (by omega);rw[hex,heb]
  have e1:∀d,getD' (A.map (·.1)) ((i:Int).toNat) d=(momM x t).1:=fun d=>by rw[Int.toNat_natCast];unfold getD';rw[List.getD_eq_getElem?_getD,List.getElem?_map,List.getElem?_eq_getElem hil,hex];rfl
  have e2:∀d,getD' (A.map (·.2.2.1)) ((i:Int).toNat) d=t:=fun d=>by rw[Int.toNat_natCast];unfold getD';rw[List.getD_eq_getElem?_getD,List.getElem?_map,List.getElem?_eq_getElem hil,hex];rfl
  have e3:∀d,getD' (A.map (·.1)) (((i-1:Nat):Int).toNat) d=(momM b t').1:=fun d=>by rw[Int.toNat_natCast];unfold getD';rw[List.getD_eq_getElem?_getD,List.getElem?_map,List.getElem?_eq_getElem (show i-1<A.length by omega),heb];rfl
  have hk:(if w64 ((i:Int)-1)>0 then w64 ((i:Int)-1) else 0)=((i-1:Nat):Int):=by rw[qg (by omega) (by omega)];split<;>omega
  have hin:inb (i:Int) A.length=true:=inb_iff.2 ⟨by omega,by omega⟩;have hin':inb ((i-1:Nat):Int) A.length=true:=inb_iff.2 ⟨by omega,by omega⟩;obtain⟨v,hv⟩:∃v,decR qa cr (momM x t) (momM b t') c=some v:=by
    rcases f1 with h0 | h0 | h0 | h0 | ⟨h0,hN⟩
    · exact⟨_,qpG hb.g.ok.last h0⟩
    · unfold decR;obtain⟨n,e,h⟩:=qvi cr (momM x t).1.2.2.2.1 c.2.2.1 (if (momM x t).1.2.2.2.1.2.2.2.2.1>(momM x t).2.2.1 then(momM x t).1.2.2.2.1.2.2.2.2.1 else(momM x t).2.2.1) hcl;rw[h0,h];exact⟨_,rfl⟩
    · unfold decR;obtain⟨n,e,h,_⟩:=qlY cr (momM x t).1.2.2.2.1 (if (momM x t).1.2.2.2.1.2.2.2.2.1>(momM x t).2.2.1 then(momM x t).1.2.2.2.1.2.2.2.2.1 else(momM x t).2.2.1) hcl;rw[h0,h];exact⟨_,rfl⟩
    · unfold decR;rw[h0];exact⟨_,rfl⟩
    · unfold decR;rw[h0,show inb c.2.2.2.1 2=true from inb_iff.2 ⟨by omega,by omega⟩];exact⟨_,rfl⟩
  rw[hv,Option.bind_some,Option.bind_some];refine endR ?_ ?_
  · simp only[hlm,hJA,bne_self_eq_false,Bool.or_false]
  refine(congrArg (fun z=>Option.bind z _) hrs).trans ?_;rw[Option.bind_some,Sum.elim_inl];refine(congrArg (fun b=>cond b _ _) hcond).trans ?_;rw[hf,Bool.not_true,cond_false];simp only[hi,hlm,hlt,hin,qb,hk,e1,e2,e3,hin'];have n10:((1:Int)==0)=false:=rfl;have n20:((2:Int)==0)=false:=rfl;have n21:((2:Int)==1)=false:=rfl;have n30:((3:Int)==0)=false:=rfl;have n31:((3:Int)==1)=false:=rfl;have n32:((3:Int)==2)=false:=rfl;have n40:((4:Int)==0)=false:=rfl;have n41:((4:Int)==1)=false:=rfl;have n42:((4:Int)==2)=false:=rfl;have n43:((4:Int)==3)=false:=rfl;rcases f1 with h0 | h0 | h0 | h0 | ⟨h0,hN⟩
  · rw[qpG hb.g.ok.last h0,Option.some.injEq] at hv;simp only[h0,beq_self_eq_true,cond_true];refine(congrArg (fun z=>Option.bind (Option.bind z _) _) (qjW qfy hb.g)).trans ?_;rw[Option.bind_some];obtain⟨q1,q2⟩:=qsZ hb.g.ok;simp only[q1,q2,qb];refine(congrArg (fun z=>Option.bind (Option.bind z _) _) (legal_R qfy qeV hb.g.ok.last _)).trans ?_;rw[Option.bind_some,Option.bind_some,←hv];show some (true&&(((b.res==0&&((lastP b.g.1).turn==c.2.2.1))&&qA qa (lastP b.g.1) c.2.2.2.2.1)==((qA qa (lastP b.g.1) c.2.2.2.2.1&&b.res==0)&&((lastP b.g.1).turn==c.2.2.1))))=some true;generalize (b.res==0)=p1;generalize ((lastP b.g.1).turn==c.2.2.1)=p2;generalize qA qa (lastP b.g.1) c.2.2.2.2.1=p3
    cases p1<;>cases p2<;>cases p3<;>rfl
  · unfold decR at hv;obtain⟨n,e,h⟩:=qvi cr (momM x t).1.2.2.2.1 c.2.2.1 (if (momM x t).1.2.2.2.1.2.2.2.2.1>(momM x t).2.2.1 then(momM x t).1.2.2.2.1.2.2.2.2.1 else(momM x t).2.2.1) hcl;rw[h0,h] at hv;simp only[n10,beq_self_eq_true,cond_true,cond_false,Option.bind_some,Option.some.injEq] at hv;simp only[h0,n10,beq_self_eq_true,cond_true,cond_false];refine(congrArg (fun z=>Option.bind (Option.bind (Option.bind z _) _) _) h).trans ?_;rw[←hv];simp only[Option.bind_some,beq_self_eq_true,Bool.and_self]
  · unfold decR at hv;obtain⟨n,e,h,_⟩:=qlY cr (momM x t).1.2.2.2.1 (if (momM x t).1.2.2.2.1.2.2.2.2.1>(momM x t).2.2.1 then(momM x t).1.2.2.2.1.2.2.2.2.1 else(momM x t).2.2.1) hcl;rw[h0,h] at hv;simp only[n20,n21,beq_self_eq_true,cond_true,cond_false,Option.bind_some,Option.some.injEq] at hv;simp only[h0,n20,n21,beq_self_eq_true,cond_true,cond_false];refine(congrArg (fun z=>Option.bind (Option.bind (Option.bind (Option.bind z _) _) _) _) h).trans ?_;rw[←hv];simp only[Option.bind_some,beq_self_eq_true,Bool.and_self]
  · unfold decR at hv;simp only[h0,n30,n31,n32,beq_self_eq_true,cond_true,cond_false,Option.bind_some,Option.some.injEq] at hv;simp only[h0,n30,n31,n32,beq_self_eq_true,cond_true,cond_false,Option.bind_some];rw[←hv];simp only[beq_self_eq_true,Bool.and_self]
  · unfold decR at hv;have h2:inb c.2.2.2.1 2=true:=inb_iff.2 ⟨by omega,by omega⟩;simp only[h0,h2,qb,n40,n41,n42,n43,beq_self_eq_true,cond_true,cond_false,Option.bind_some,Option.some.injEq] at hv;simp only[h0,h2,qb,n40,n41,n42,n43,beq_self_eq_true,cond_true,cond_false,Option.bind_some];rw[←hv];simp only[beq_self_eq_true,Bool.and_self]
end Go.Proofs.YtijkabgijfdpfaaGreatDoor
