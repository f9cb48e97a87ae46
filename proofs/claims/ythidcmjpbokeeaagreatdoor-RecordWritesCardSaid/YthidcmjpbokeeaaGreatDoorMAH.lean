/- Several texts in one: RwD, RwE, RwF, RwG, RwH, RwI, RwJ, RecordWritesL. -/
import Derived.Test.YthidcmjpbokeeaaGreatDoorMAG
import Derived.Test.YthidcmjpbokeeaaGreatDoorMAF
namespace Go.Proofs.YthidcmjpbokeeaaGreatDoor
open Go.Den
set_option linter.unusedVariables false
set_option linter.unusedSimpArgs false
set_option maxRecDepth 100000
def cmB (c:ByteArray):List UInt8:=if bl c=[] then [] else 123::(bl c++[125,32])
def mvB (r:Rules) (p:Place) (m:Mv) (c:ByteArray):List UInt8:=bl (moveT r p m)++32::cmB c
def txB (r:Rules):Bool→Place→Fo→List UInt8
  | _,_,.nil=>[]
  | true,p,.cons m c k f=>mvB r p m c++(txB r false p f++txB r true (qm r p m) k)
  | false,p,.cons m c k f=>40::((mvB r p m c++txB r true (qm r p m) k).dropLast++41::32::txB r false p f)
def txC (r:Rules):Bool→Place→Fo→List UInt8→List UInt8
  | _,_,.nil,l=>l
  | true,p,.cons m c k f,l=>mvC r p m c (txC r false p f (txC r true (qm r p m) k l))
  | false,p,.cons m c k f,l=>40::mvC r p m c (txC r true (qm r p m) k (41::sep (txC r false p f l)))
def PlF (r:Rules):Place→Fo→Prop
  | _,.nil=>True
  | p,.cons m c k f=>(Valid r p∧qh r p m=true∧qaJ r p=0∧CmO c)∧PlF r (qm r p m) k∧PlF r p f
theorem qpc {l:List UInt8} (h:∀b,l.head?=some b→¬b=41):sep l=32::l:=by
  unfold sep;rw[if_neg (fun e=>h _ e rfl)]
theorem sep_41 (l:List UInt8):sep (41::l)=41::l:=by
  unfold sep;rw[if_pos (show(41::l).head?=some 41 from rfl)]
theorem mvB_eq (r:Rules) (p:Place) (m:Mv) (c:ByteArray):∃Y,mvB r p m c=Y++[32]∧∀l,mvC r p m c l=Y++sep l:=by
  unfold mvB mvC cmB;by_cases h:bl c=[]
  · exact⟨bl (moveT r p m),by rw[if_pos h],fun l=>by rw[if_pos h]⟩
  · exact⟨bl (moveT r p m)++32::123::(bl c++[125]),by rw[if_neg h];simp,fun l=>by rw[if_neg h];simp⟩
theorem qqo {r:Rules} (hl:Lets r) (b:Bool) {p:Place} {m:Mv} {c:ByteArray} {k f:Fo} (h:PlF r p (.cons m c k f)) (l:List UInt8):∃L t,txC r b p (.cons m c k f) l=L::t∧(b=true→65≤L.toNat∧okb L)∧(b=false→L=40):=by
  obtain⟨⟨hv,ha,_,_⟩,_,_⟩:=h;cases b
  · exact⟨40,_,rfl,fun e=>(by cases e),fun _=>rfl⟩
  · obtain⟨L,t,e,h1,h2⟩:=qtH hl hv ha c (txC r false p f (txC r true (qm r p m) k l));exact⟨L,t,e,fun _=>⟨h1,h2⟩,fun e=>(by cases e)⟩
theorem tx_no {r:Rules} (hl:Lets r) (b:Bool) {p:Place} {f:Fo} (h:PlF r p f) (hf:f ≠ .nil) (l:List UInt8) (z:UInt8) (hz:z.toNat<40∨z=41∨z.toNat=91∨122<z.toNat):∀q,(txC r b p f l).head?=some q→¬q=z:=by
  cases f with
  | nil=>exact absurd rfl hf
  | cons m c k f =>
    obtain⟨L,t,e,h1,h2⟩:=qqo hl b h l;intro q hq;rw[e] at hq;have:L=q:=Option.some.inj hq;subst this;cases b
    · rw[h2 rfl]
      rintro rfl
      revert hz;decide
    · obtain⟨a1,a2⟩:=h1 rfl;refine qlX a1 a2 z ?_;rcases hz with hz | rfl | hz | hz
      · exact .inl (by omega)
      · exact .inl (by decide)
      · exact .inr (.inl hz)
      · exact .inr (.inr hz)
theorem tx_eq {r:Rules} (hl:Lets r):∀(f:Fo) (b:Bool) (p:Place),PlF r p f→f ≠ .nil→∃Y,txB r b p f=Y++[32]∧∀l,txC r b p f l=Y++sep l
  | .nil,_,_,_,h=>absurd rfl h
  | .cons m c k f,b,p,h,_=>by
    obtain⟨h1,h2,h3⟩:=h;obtain⟨Y,y1,y2⟩:=mvB_eq r p m c;have hk:∃Z,mvB r p m c++txB r true (qm r p m) k=Z++[32]∧∀l,mvC r p m c (txC r true (qm r p m) k l)=Z++sep l:=by
      cases k with
      | nil=>exact⟨Y,by rw[y1];simp[txB],fun l=>by rw[y2];simp[txC]⟩
      | cons m2 c2 k2 f2 =>
        obtain⟨Z,z1,z2⟩:=tx_eq hl (.cons m2 c2 k2 f2) true (qm r p m) h2 (by simp);refine⟨Y++32::Z,by rw[y1,z1];simp,fun l=>?_⟩;rw[y2,qpc (tx_no hl true h2 (by simp) l 41 (.inr (.inl rfl))),z2];simp
    cases b with
    | true =>
      cases f with
      | nil =>
        obtain⟨Z,z1,z2⟩:=hk;exact⟨Z,by rw[←z1];simp[txB],fun l=>by rw[←z2];simp[txC]⟩
      | cons m3 c3 k3 f3 =>
        obtain⟨W,w1,w2⟩:=tx_eq hl (.cons m3 c3 k3 f3) false p h3 (by simp)
        cases k with
        | nil =>
          refine⟨Y++32::W,?_,fun l=>?_⟩
          · show mvB r p m c++(txB r false p (.cons m3 c3 k3 f3)++[])=_;rw[y1,w1];simp
          · show mvC r p m c (txC r false p (.cons m3 c3 k3 f3) l)=_;rw[y2,qpc (tx_no hl false h3 (by simp) l 41 (.inr (.inl rfl))),w2];simp
        | cons m2 c2 k2 f2 =>
          obtain⟨Z,z1,z2⟩:=tx_eq hl (.cons m2 c2 k2 f2) true (qm r p m) h2 (by simp);refine⟨Y++32::(W++32::Z),?_,fun l=>?_⟩
          · show mvB r p m c++(txB r false p (.cons m3 c3 k3 f3)++txB r true (qm r p m) (.cons m2 c2 k2 f2))=_;rw[y1,w1,z1];simp
          · show mvC r p m c (txC r false p (.cons m3 c3 k3 f3) (txC r true (qm r p m) (.cons m2 c2 k2 f2) l))=_;rw[y2,qpc (tx_no hl false h3 (by simp) _ 41 (.inr (.inl rfl))),w2,qpc (tx_no hl true h2 (by simp) l 41 (.inr (.inl rfl))),z2];simp
    | false =>
      obtain⟨Z,z1,z2⟩:=hk
      cases f with
      | nil =>
        refine⟨40::(Z++[41]),?_,fun l=>?_⟩
        · show 40::((mvB r p m c++txB r true (qm r p m) k).dropLast++41::32::[])=_;rw[z1];simp
        · show 40::mvC r p m c (txC r true (qm r p m) k (41::sep l))=_;rw[z2,sep_41];simp
      | cons m3 c3 k3 f3 =>
        obtain⟨W,w1,w2⟩:=tx_eq hl (.cons m3 c3 k3 f3) false p h3 (by simp);refine⟨40::(Z++41::32::W),?_,fun l=>?_⟩
        · show 40::((mvB r p m c++txB r true (qm r p m) k).dropLast++41::32::txB r false p (.cons m3 c3 k3 f3))=_;rw[z1,w1];simp
        · show 40::mvC r p m c (txC r true (qm r p m) k (41::sep (txC r false p (.cons m3 c3 k3 f3) l)))=_;rw[z2,sep_41,qpc (tx_no hl false h3 (by simp) l 41 (.inr (.inl rfl))),w2];simp
theorem txC_of {r:Rules} (hl:Lets r) {f:Fo} {b:Bool} {p:Place} (h:PlF r p f) {l:List UInt8} (h41:∀q,l.head?=some q→¬q=41):txB r b p f++l=txC r b p f l:=by
  cases f with
  | nil=>simp[txB,txC]
  | cons m c k f =>
    obtain⟨Y,y1,y2⟩:=tx_eq hl (.cons m c k f) b p h (by simp);rw[y1,y2,qpc h41];simp
theorem qpU (r:Rules) (p:Place) (m:Mv) {c:ByteArray} (hc:CmO c):(mvB r p m c).length≤84:=by
  have h1:=mv_len r p m;have h3:=hc.2;unfold mvB cmB
  split<;>simp only[List.length_append,List.length_cons,List.length_nil]<;>omega
theorem qeR (r:Rules):∀(f:Fo) (b:Bool) (p:Place),PlF r p f→(txB r b p f).length≤90*szF f
  | .nil,b,p,_=>by simp[txB]
  | .cons m c k f,b,p,⟨h1,h2,h3⟩=>by
    have i1:=qeR r k true (qm r p m) h2;have i2:=qeR r f false p h3;have i3:=qpU r p m h1.2.2.2
    have e:szF (.cons m c k f)=1+szF k+szF f:=by simp only[szF];omega
    cases b
    · show(40::((mvB r p m c++txB r true (qm r p m) k).dropLast++41::32::txB r false p f)).length≤_;simp only[List.length_cons,List.length_append,List.length_dropLast];omega
    · show(mvB r p m c++(txB r false p f++txB r true (qm r p m) k)).length≤_;simp only[List.length_append];omega
theorem qmK {r:Rules} (hl:Lets r) {f:Fo} {b:Bool} {p:Place} (h:PlF r p f) (l:List UInt8):(txC r b p f l).length≤90*szF f+l.length:=by
  cases f with
  | nil=>simp[txC]
  | cons m c k f =>
    obtain⟨Y,y1,y2⟩:=tx_eq hl (.cons m c k f) b p h (by simp);have h1:=qeR r (.cons m c k f) b p h;have h2:=qpZ l;rw[y1] at h1;rw[y2,List.length_append];simp only[List.length_append,List.length_cons,List.length_nil] at h1;omega
theorem qhl {r:Rules} (hl:Lets r):∀(f:Fo) (b:Bool) (p:Place) (l:List UInt8),PlF r p f→(∀q∈l,q.toNat<128)→∀q∈txC r b p f l,q.toNat<128
  | .nil,_,_,_,_,hl=>hl
  | .cons m c k f,b,p,l,⟨⟨hv,ha,_,hc⟩,h2,h3⟩,hq=>by
    cases b
    · intro q hq2;rcases List.mem_cons.1 hq2 with rfl | hq2
      · decide
      · refine qs7 hl hv ha hc (qhl hl k true _ _ h2 fun q hq3=>?_) q hq2;rcases List.mem_cons.1 hq3 with rfl | hq3
        · decide
        · rcases qsD hq3 with rfl | hq3
          · decide
          · exact qhl hl f false p l h3 hq q hq3
    · exact qs7 hl hv ha hc (qhl hl f false p _ h3 (qhl hl k true _ _ h2 hq))
theorem qkM {T α:Type} (F:(T→Option α)→T→Option α) (n:Nat) (x:T):fixN F (n+1) x=F (fixN F n) x:=rfl
theorem put_at {A:Type} (ns rest:List (A×Option (List Nat))) (d e:A) (q:Option (List Nat)) (ks:List Nat):putP (ns++(d,q)::rest) e (ns.length+1) ks=ns++(d,some ks)::rest:=by
  unfold putP;simp[getD',List.set_append_right]
theorem nd_in {A:Type} (ns rest:List (A×Option (List Nat))) (d e:A) (q:Option (List Nat)):ndP (ns++(d,q)::rest) e (ns.length+1)=d:=by
  unfold ndP;simp[getD']
def IsT (ns:qf6) (lo:Nat):Fo→List Nat→Prop
  | .nil,xs=>xs=[]
  | .cons m c k f,xs=>∃y ks ys,xs=y::ys∧lo<y∧ns[y-1]?=some ((m,(c,())),some ks)∧IsT ns lo k ks∧IsT ns lo f ys
theorem IsT.mono {ns ns':qf6} {lo lo':Nat} (h:lo'≤lo) (hn:∀i v,lo≤i→ns[i]?=some v→ns'[i]?=some v):∀ {f:Fo} {xs:List Nat},IsT ns lo f xs→IsT ns' lo' f xs
  | .nil,_,e=>e
  | .cons m c k f,_,⟨y,ks,ys,e,h1,h2,h3,h4⟩=>⟨y,ks,ys,e,by omega,hn _ _ (by omega) h2,IsT.mono h hn h3,IsT.mono h hn h4⟩
structure Cl (l:List UInt8):Prop where
  asc:∀b∈l,b.toNat<128
  ends:(∃t,l=41::t)∨∃R,ResB R∧l=R++[10]
theorem Cl.head {l:List UInt8} (h:Cl l):∃L t,l=L::t∧¬L=32∧¬L=10∧¬L=40∧¬L=123∧¬L=91:=by
  rcases h.ends with ⟨t,rfl⟩ | ⟨R,hR,rfl⟩
  · exact⟨41,t,rfl,by decide,by decide,by decide,by decide,by decide⟩
  · obtain⟨⟨L,t,e,hz⟩,_⟩:=hR.facts;subst e;exact⟨L,t++[10],rfl,hz⟩
theorem qp6 {r:Rules} (hl:Lets r) {p:Place} {f:Fo} (h:PlF r p f) {l:List UInt8} (hc:Cl l):NB (txC r true p f l)∧∀z:UInt8,z=40∨z=123∨z=91→∀b,(txC r true p f l).head?=some b→¬b=z:=by
  cases f with
  | nil =>
    obtain⟨L,t,e,h1,h2,h3,h4,h5⟩:=hc.head;show NB l∧∀z:UInt8,z=40∨z=123∨z=91→∀b,l.head?=some b→¬b=z;subst e;refine⟨fun b hb=>?_,fun z hz b hb=>?_⟩
    · have:L=b:=Option.some.inj hb;subst this;exact⟨h1,h2⟩
    · have:L=b:=Option.some.inj hb;subst this;rcases hz with rfl | rfl | rfl
      · exact h3
      · exact h4
      · exact h5
  | cons m c k f =>
    obtain⟨L,t,e,h1,_⟩:=qqo hl true h l;obtain⟨a1,a2⟩:=h1 rfl;rw[e];refine⟨fun b hb=>?_,fun z hz b hb=>?_⟩
    · have:L=b:=Option.some.inj hb;subst this;exact⟨qlX a1 a2 _ (.inl (by decide)),qlX a1 a2 _ (.inl (by decide))⟩
    · have:L=b:=Option.some.inj hb;subst this;rcases hz with rfl | rfl | rfl
      · exact qlX a1 a2 _ (.inl (by decide))
      · exact qlX a1 a2 _ (.inr (.inr (by decide)))
      · exact qlX a1 a2 _ (.inr (.inl (by decide)))
abbrev RArg:=(Rules×ByteArray×TRec×Unit)×Unit×qf6×Place×Unit
abbrev RRes:=(Rules×ByteArray×TRec×Unit)×qf6×List Nat
def AfterOK (r:Rules) (x:TRec) (φ:RArg→Option RRes) (N:Nat):Prop:=∀(f:Fo) (p:Place) (ns:qf6) (s:ByteArray) (l:List UInt8),szF f<N→PlF r p f→Cl l→l.length+100*szF f≤9500→St (txC r true p f l) s →
  ∃ns' xs,φ (rd r s x,(),ns,p,())=some (rd r (mkB l) x,ns++ns',xs)∧IsT (ns++ns') ns.length f xs
theorem alts_eq {r:Rules} (hr:Rng qR r) (c:qu r=0) (x:TRec) {self:RArg→Option RRes} {N:Nat} (hs:AfterOK r x self N) (p:Place):∀(f:Fo) (cur:qf6) (ks:List Nat) (s:ByteArray) (l:List UInt8),szF f<N→PlF r p f→NB l→(∀b,l.head?=some b→¬b=40)→(∀b∈l,b.toNat<128)→l.length+100*szF f≤9500→ks.length+szF f≤1000→St (txC r false p f l) s →
    ∃cur' ys,iterW (qG p self) ((ks,()),(flR r s x,cur,()))=some ((ks++ys,()),(flR r (mkB l) x,cur++cur',()))∧IsT (cur++cur') cur.length f ys
  | .nil,cur,ks,s,l,_,_,_,hn40,_,_,_,hst=>by
    refine⟨[],[],?_,rfl⟩;rw[List.append_nil,List.append_nil];refine qg ?_;unfold qG;show Option.bind (qt (rd r s x) 40) _=_
    rw[got_no hst (fun b hb e=>hn40 b hb (by
      have:b.toNat=40:=by omega
      exact UInt8.toNat_inj.1 this))]
    rfl
  | .cons m k1 k f,cur,ks,s,l,hsz,hp,hnb,hn40,hasc,hlen,hks,hst=>by
    obtain⟨⟨hv,ha,h0,hc⟩,h2,h3⟩:=hp;have hls:=qqj c
    have e:szF (.cons m k1 k f)=1+szF k+szF f:=by simp only[szF];omega
    rw[e] at hsz hlen hks;have t1:=qmK hls (b:=false) h3 l;have t2:=qhl hls f false p l h3 hasc;have t3:=qpZ (txC r false p f l);have hnbf:NB (txC r false p f l):=by
      cases f with
      | nil=>exact hnb
      | cons m3 c3 k3 f3 =>
        obtain⟨L,t,e3,_,h4⟩:=qqo hls false h3 l;rw[e3,h4 rfl];intro b hb;have:(40:UInt8)=b:=Option.some.inj hb;subst this;exact⟨by decide,by decide⟩
    let l2:=41::sep (txC r false p f l)
    have hcl:Cl l2:=⟨fun b hb=>by
      rcases List.mem_cons.1 hb with rfl | hb
      · decide
      · rcases qsD hb with rfl | hb
        · decide
        · exact t2 b hb,.inl ⟨_,rfl⟩⟩
    have hl2:l2.length=(sep (txC r false p f l)).length+1:=rfl
    have hlen2:l2.length+100*szF k≤9500:=by omega
    obtain⟨q1,q2⟩:=qp6 hls h2 hcl;have t4:=qmK hls (b:=true) h2 l2;have hst:St (40::mvC r p m k1 (txC r true (qm r p m) k l2)) s:=hst;obtain⟨L,t,eL,a1,a2⟩:=qtH hls hv ha k1 (txC r true (qm r p m) k l2);have hnbm:NB (mvC r p m k1 (txC r true (qm r p m) k l2)):=fun b hb=>by
      rw[eL] at hb;have:L=b:=Option.some.inj hb;subst this;exact⟨qlX a1 a2 _ (.inl (by decide)),qlX a1 a2 _ (.inl (by decide))⟩
    obtain⟨s1,hs1,hmove⟩:=quy hr c hv ha h0 hc (St.self hnbm) q1 (q2 123 (.inr (.inl rfl))) (qhl hls k true _ _ h2 hcl.asc) (by omega) x cur;obtain⟨c2,xs2,hself,hT⟩:=hs k (qm r p m) (addP cur (m,(k1,()))) s1 l2 (by omega) h2 hcl hlen2 hs1
    have hcur:addP cur (m,(k1,()))++c2=cur++((m,(k1,())),none)::c2:=by simp[addP]
    have hst3:St (txC r false p f l) (mkB (sep (txC r false p f l))) := .sep hnbf;obtain⟨c3,ys,hrest,hT3⟩:=alts_eq hr c x hs p f (cur++((m,(k1,())),some xs2)::c2) (ks++[cur.length+1]) _ l (by omega) h3 hnb hn40 hasc (by omega) (by rw[List.length_append];simp only[List.length_cons,List.length_nil];omega) hst3;refine⟨((m,(k1,())),some xs2)::c2++c3,(cur.length+1)::ys,?_,?_⟩
    · have h1:qG p self ((ks,()),(flR r s x,cur,()))=some (.inl ((ks++[cur.length+1],()),(flR r (mkB (sep (txC r false p f l))) x,cur++((m,(k1,())),some xs2)::c2,()))):=by
        unfold qG;show Option.bind (qt (rd r s x) 40) _=_;rw[qpF hst (z:=40) rfl,Option.bind_some];simp only[cond_true];show Option.bind (qas (rd r (mkB (mvC r p m k1 (txC r true (qm r p m) k l2))) x) cur p) _=_;rw[hmove,Option.bind_some]
        have hb:Nat.blt 0 (cur.length+1)=true:=by simp[Nat.blt_eq]
        have hnd:ndP (addP cur (m,(k1,()))) (((0:Int),((0:Int),((0:Int),()))),(ByteArray.empty,())) (cur.length+1)=(m,(k1,())):=nd_in cur [] _ _ none;simp only[hb,qa,hnd];show Option.bind (qo r p m) _=_;rw[qgc hv ha,Option.bind_some];show Option.bind (self (rd r s1 x,(),addP cur (m,(k1,())),qm r p m,())) _=_;rw[hself,Option.bind_some];simp only[hcur,put_at,Option.bind_some];show Option.bind (qt (rd r (mkB (41::sep (txC r false p f l))) x) 41) _=_
        rw[qpF (St.self (l:=41::sep (txC r false p f l)) (fun b hb=>by
          have:(41:UInt8)=b:=Option.some.inj hb;subst this
          exact⟨by decide,by decide⟩)) (z:=41) rfl,Option.bind_some]
        simp only[Bool.not_true,cond_false];rw[qae (by simp only[List.length_cons,List.length_nil];omega),qa]
      rw[qn h1,hrest];simp
    · have e2:cur++(((m,(k1,())),some xs2)::c2++c3)=(cur++((m,(k1,())),some xs2)::c2)++c3:=by simp
      rw[e2];refine⟨cur.length+1,xs2,ys,rfl,by omega,?_,?_,?_⟩
      · simp
      · refine IsT.mono (Nat.le_trans (Nat.le_succ _) (Nat.le_of_eq (by simp[addP]))) (fun i v hi hv=>?_) hT;rw[hcur] at hv
        have hi:cur.length+1≤i:=by simpa[addP] using hi
        rw[List.append_assoc,List.getElem?_append_right (by omega)] at *;obtain⟨j,hj⟩:∃j,i-cur.length=j+1:=⟨i-cur.length-1,by omega⟩;rw[hj] at hv ⊢;simp only[List.cons_append,List.getElem?_cons_succ] at hv ⊢;rw[List.getElem?_append_left]
        · exact hv
        · exact(List.getElem?_eq_some_iff.1 hv).1
      · exact IsT.mono (by simp) (fun i v _ hv=>hv) hT3
theorem qrj {r:Rules} (hr:Rng qR r) (c:qu r=0) (x:TRec):∀N,AfterOK r x (fixN qC N) N
  | 0,f,_,_,_,_,h,_,_,_,_=>absurd h (Nat.not_lt_zero _)
  | N+1,f,p,ns,s,l,hsz,hp,hcl,hlen,hst=>by
    have ih:=qrj hr c x N;have hls:=qqj c;rw[qkM];generalize fixN qC N=self at ih ⊢
    cases f with
    | nil =>
      refine⟨[],[],?_,rfl⟩;rw[List.append_nil];have hst:St l s:=hst;unfold qC qa8;show Option.bind (qJ (rd r s x)) _=_;rcases hcl.ends with ⟨t,rfl⟩ | ⟨R,hR,rfl⟩
      · rw[qpW (W:=[]) (b:=41) (l:=t) hst (fun c hc=>by cases hc) rfl hcl.asc (by show(41::t).length≤_;omega),Option.bind_some]
        have h1:((mkB []).toList==(ByteArray.mk #[]).toList)=true:=by rw[qbe,qn0];rfl
        simp only[h1,cond_true,Option.bind_some];rfl
      · obtain⟨⟨L,t,e,_⟩,h5,h6,h7⟩:=hR.facts;rw[qpW (W:=R) (b:=10) (l:=[]) hst h5 rfl hcl.asc (by simp;omega),Option.bind_some]
        have h1:((mkB R).toList==(ByteArray.mk #[]).toList)=false:=by rw[qbe,qn0,e];rfl
        obtain⟨i,hi,hRi⟩:=hR.ex;simp only[h1,cond_false];rw[show qH [ByteArray.mk #[42],ByteArray.mk #[49,45,48],ByteArray.mk #[48,45,49],ByteArray.mk #[49,47,50]] (mkB R)=some true by rw[hRi];exact res_has hi];simp only[Option.bind_some,cond_true]
    | cons m k1 k f =>
      obtain⟨⟨hv,ha,h0,hc⟩,h2,h3⟩:=hp
      have e:szF (.cons m k1 k f)=1+szF k+szF f:=by simp only[szF];omega
      rw[e] at hsz hlen
      let l1:=txC r true (qm r p m) k l
      obtain⟨q1,q2⟩:=qp6 hls h2 hcl;have t1:=qmK hls (b:=true) h2 l;have t2:=qhl hls k true _ l h2 hcl.asc;have hT1:NB (txC r false p f l1)∧∀b,(txC r false p f l1).head?=some b→¬b=123:=by
        cases f with
        | nil=>exact⟨q1,q2 123 (.inr (.inl rfl))⟩
        | cons m3 c3 k3 f3 =>
          obtain⟨L,t,e3,_,h4⟩:=qqo hls false h3 l1;rw[e3,h4 rfl]
          refine⟨fun b hb=>?_,fun b hb=>?_⟩<;>(have:(40:UInt8)=b:=Option.some.inj hb;subst this;decide)
      have t3:=qmK hls (b:=false) h3 l1;have t4:=qhl hls f false p l1 h3 t2;have hl1:l1.length≤90*szF k+l.length:=t1;have hst:St (mvC r p m k1 (txC r false p f l1)) s:=hst;obtain⟨s1,hs1,hmove⟩:=quy hr c hv ha h0 hc (.self hst.1) hT1.1 hT1.2 t4 (by omega) x ns;obtain⟨c1,ys,halts,hTf⟩:=alts_eq hr c x ih p f (addP ns (m,(k1,()))) [ns.length+1] s1 l1 (by omega) h3 q1 (q2 40 (.inl rfl)) t2 (by omega) (by simp only[List.length_cons,List.length_nil];omega) hs1;obtain⟨c2,xs2,hself,hTk⟩:=ih k (qm r p m) (addP ns (m,(k1,()))++c1) (mkB l1) l (by omega) h2 hcl (by omega) (.self q1)
      have hcur:addP ns (m,(k1,()))++c1=ns++((m,(k1,())),none)::c1:=by simp[addP]
      have hcur2:addP ns (m,(k1,()))++c1++c2=ns++((m,(k1,())),none)::(c1++c2):=by simp[addP]
      refine⟨((m,(k1,())),some xs2)::(c1++c2),(ns.length+1)::ys,?_,?_⟩
      · unfold qC qa8;show Option.bind (qJ (rd r s x)) _=_;rw[word_mv hls hv ha hc hst t4 (by omega),Option.bind_some];obtain⟨L,t,eL,a2,_⟩:=qfR hls hv ha
        have hw:mkB (L::t)=moveT r p m:=by rw[←eL];exact mk_bl _
        have h1:((moveT r p m).toList==(ByteArray.mk #[]).toList)=false:=by rw[←hw,qbe,qn0];rfl
        simp only[h1,cond_false];rw[show qH [ByteArray.mk #[42],ByteArray.mk #[49,45,48],ByteArray.mk #[48,45,49],ByteArray.mk #[49,47,50]] (moveT r p m)=some false by rw[←hw];exact res_move a2];simp only[Option.bind_some,cond_false];show Option.bind (qas (rd r (mkB (mvC r p m k1 (txC r false p f l1))) x) ns p) _=_;rw[hmove,Option.bind_some];show Option.bind (iterW (qG p self) (([ns.length+1],()),(flR r s1 x,addP ns (m,(k1,())),()))) _=_;rw[halts,Option.bind_some]
        have hb:Nat.blt 0 (ns.length+1)=true:=by simp[Nat.blt_eq]
        have hnd:ndP (addP ns (m,(k1,()))++c1) (((0:Int),((0:Int),((0:Int),()))),(ByteArray.empty,())) (ns.length+1)=(m,(k1,())):=by
          rw[hcur];exact nd_in ns c1 _ _ none
        simp only[hb,qa,hnd];show Option.bind (qo r p m) _=_;rw[qgc hv ha,Option.bind_some];show Option.bind (self (rd r (mkB l1) x,(),addP ns (m,(k1,()))++c1,qm r p m,())) _=_;rw[hself,Option.bind_some];simp only[hcur2,put_at,Option.bind_some];rfl
      · have e2:ns++((m,(k1,())),some xs2)::(c1++c2)=(ns++((m,(k1,())),some xs2)::c1)++c2:=by simp
        have key:∀(i:Nat) v,ns.length+1≤i→(ns++((m,(k1,())),none)::(c1++c2))[i]?=some v→(ns++((m,(k1,())),some xs2)::(c1++c2))[i]?=some v:=fun i v hi hv=>by
          rw[List.getElem?_append_right (by omega)] at hv ⊢;obtain⟨j,hj⟩:∃j,i-ns.length=j+1:=⟨i-ns.length-1,by omega⟩;rw[hj] at hv ⊢;simpa only[List.getElem?_cons_succ] using hv
        refine⟨ns.length+1,xs2,ys,rfl,by omega,?_,?_,?_⟩
        · simp
        · rw[hcur2] at hTk;exact IsT.mono (by simp[addP]) (fun i v hi hv=>key i v (by simp[addP] at hi;omega) hv) hTk
        · rw[hcur] at hTf;refine IsT.mono (lo:=(addP ns (m,(k1,()))).length) (by simp[addP]) (fun i v hi hv=>key i v (by simp[addP] at hi;omega) ?_) hTf;rw[show ns++((m,(k1,())),none)::(c1++c2)=(ns++((m,(k1,())),none)::c1)++c2 by simp,List.getElem?_append_left (List.getElem?_eq_some_iff.1 hv).1];exact hv
theorem after_W {r:Rules} (hr:Rng qR r) (c:qu r=0) (x:TRec) {f:Fo} {p:Place} {s:ByteArray} {l:List UInt8} (hp:PlF r p f) (hcl:Cl l) (hlen:l.length+100*szF f≤9500) (hst:St (txC r true p f l) s) :
    ∃ns xs,qbU (rd r s x) [] p=some (rd r (mkB l) x,ns,xs)∧IsT ns 0 f xs:=by
  obtain⟨ns,xs,h,hT⟩:=qrj hr c x (szF f+1) f p [] s l (Nat.lt_succ_self _) hp hcl hlen hst;rw[List.nil_append] at h hT;exact⟨ns,xs,Le.fix (fun φ ψ hs y=>qcT φ ψ hs y) qcT (szF f+1) _ _ h,hT⟩
abbrev DNode:=(Mv×ByteArray×List Nat×Unit)×Option (List Nat)
def dataT (x:(Mv×ByteArray×Unit)×Option (List Nat)):DNode:=((x.1.1,(x.1.2.1,(x.2.getD [],()))),none)
abbrev dD:Mv×ByteArray×List Nat×Unit:=(((0:Int),((0:Int),((0:Int),()))),(ByteArray.empty,([],())))
abbrev addN (x:TRec) (l:List RNode):TRec:=(x.1,(x.2.1,(x.2.2.1++l,x.2.2.2)))
theorem nd_data {ns:qf6} {y:Nat} {m:Mv} {k1:ByteArray} {ks:List Nat} (h:ns[y-1]?=some ((m,(k1,())),some ks)):ndP (ns.map dataT) dD y=(m,(k1,(ks,()))):=by
  unfold ndP;simp[getD',h,dataT]
abbrev FArg:=(Rules×ByteArray×TRec×Unit)×Unit×List DNode×List Nat×Int×Unit
abbrev FRes:=(Rules×ByteArray×TRec×Unit)×List DNode×Unit
def FlOK (r:Rules) (s:ByteArray) (ns:qf6) (φ:FArg→Option FRes) (N:Nat):Prop:=∀(f:Fo) (x:TRec) (xs:List Nat) (q:Int) (lo:Nat),szF f<N→IsT ns lo f xs→x.2.2.1.length+szF f≤1000 →
  φ (rd r s x,(),ns.map dataT,xs,q,())=some (rd r s (addN x (preF q x.2.2.1.length f)),ns.map dataT,())
theorem isT_len {ns:qf6} {lo:Nat}:∀ {f:Fo} {xs:List Nat},IsT ns lo f xs→xs.length≤szF f
  | .nil,_,e=>by rw[show _=[] from e];simp
  | .cons m c k f,_,⟨y,ks,ys,e,_,_,_,h⟩=>by
    have:=isT_len h;subst e;simp only[List.length_cons,szF];omega
theorem qoP {r:Rules} {s:ByteArray} {ns:qf6} {self:FArg→Option FRes} {N:Nat} (hs:FlOK r s ns self N) (q:Int) (xs:List Nat) (hxs:xs.length≤1000):∀(f:Fo) (pre ys:List Nat) (x:TRec) (lo:Nat),xs=pre++ys→szF f≤N→IsT ns lo f ys→x.2.2.1.length+szF f≤1000 →
    iterW (qD xs q self) (((pre.length:Int),()),(flR r s x,ns.map dataT,()))=some ((),(flR r s (addN x (preF q x.2.2.1.length f)),ns.map dataT,()))
  | .nil,pre,ys,x,lo,e,_,hT,_=>by
    obtain rfl:ys=[]:=hT;have hx0:addN x (preF q x.2.2.1.length .nil)=x:=by
      show(x.1,(x.2.1,(x.2.2.1++[],x.2.2.2)))=x;rw[List.append_nil]
    rw[hx0];refine qg ?_;unfold qD;rw[decide_eq_false (by rw[e];simp),cond_false]
  | .cons m k1 k f,pre,ys,x,lo,e,hN,⟨y,ks,zs,e1,hy,hcell,hk,hf⟩,hsz=>by
    have e2:szF (.cons m k1 k f)=1+szF k+szF f:=by simp only[szF];omega
    rw[e2] at hN hsz;subst e1
    let x1:=addN x [(q,(m,(k1,())))]
    have hx1:x1.2.2.1.length=x.2.2.1.length+1:=by simp[x1]
    have hself:=hs k x1 ks ((x.2.2.1.length:Nat):Int) lo (by omega) hk (by omega)
    let x2:=addN x1 (preF ((x.2.2.1.length:Nat):Int) x1.2.2.1.length k)
    have hx2:x2.2.2.1.length=x.2.2.1.length+1+szF k:=by
      show(x1.2.2.1++preF ((x.2.2.1.length:Nat):Int) x1.2.2.1.length k).length=_;rw[List.length_append,qdg,hx1]
    have ih:=qoP hs q xs hxs f (pre++[y]) zs x2 lo (by rw[e];simp) (by omega) hf (by omega)
    have hpl:pre.length<xs.length:=by rw[e];simp
    have hat:at? xs (pre.length:Int)=some y:=by
      rw[at?_eq _ _ (by omega) (by omega)];simp[e]
    have h1:qD xs q self (((pre.length:Int),()),(flR r s x,ns.map dataT,()))=some (.inl ((((pre.length:Int)+1),()),(flR r s x2,ns.map dataT,()))):=by
      have hb:Nat.blt 0 y=true:=by simp[Nat.blt_eq];omega
      unfold qD;rw[decide_eq_true (show((pre.length:Nat):Int)<((xs.length:Nat):Int) by omega),cond_true,hat,Option.bind_some];simp only[hb,qa]
      rw[qae (by
        show(x.2.2.1.length+1)*48≤_
        omega),qa]
      rw[show ndP (ns.map dataT) (((0:Int),((0:Int),((0:Int),()))),(ByteArray.empty,([],()))) y=_ from nd_data hcell];show Option.bind (self (rd r s x1,(),ns.map dataT,ks,((x.2.2.1.length:Nat):Int),())) _=_;rw[hself,Option.bind_some,qe (by omega) (by omega)]
    rw[qn h1];rw[show((pre.length:Int)+1)=(((pre++[y]).length:Nat):Int) by simp,ih];have hfin:addN x2 (preF q x2.2.2.1.length f)=addN x (preF q x.2.2.1.length (.cons m k1 k f)):=by
      rw[hx2];show(x.1,(x.2.1,(((x.2.2.1++[(q,(m,(k1,())))])++preF ((x.2.2.1.length:Nat):Int) x1.2.2.1.length k)++preF q (x.2.2.1.length+1+szF k) f,x.2.2.2)))=(x.1,(x.2.1,(x.2.2.1++((q,(m,(k1,())))::(preF ((x.2.2.1.length:Nat):Int) (x.2.2.1.length+1) k++preF q (x.2.2.1.length+1+szF k) f)),x.2.2.2)));rw[hx1];simp
    rw[hfin]
theorem qrY (r:Rules) (s:ByteArray) (ns:qf6):∀N,FlOK r s ns (fixN qQ N) N
  | 0,f,_,_,_,_,h,_,_=>absurd h (Nat.not_lt_zero _)
  | N+1,f,x,xs,q,lo,hsz,hT,hlen=>by
    have ih:=qrY r s ns N;rw[qkM];generalize fixN qQ N=self at ih ⊢;have hl:=isT_len hT;have h:=qoP ih q xs (by omega) f [] xs x lo rfl (by omega) hT hlen;unfold qQ qcJ;show Option.bind (iterW (qD xs q self) (((0:Int),()),(flR r s x,ns.map dataT,()))) _=_;rw[show iterW (qD xs q self) (((0:Int),()),(flR r s x,ns.map dataT,()))=_ from h];rfl
theorem flat_W (r:Rules) (s:ByteArray) {ns:qf6} {f:Fo} {xs:List Nat} (x:TRec) (hx:x.2.2.1=[]) (hT:IsT ns 0 f xs) (hs:szF f≤1000) :
    qb7 (rd r s x) (ns.map dataT) xs (-1)=some (rd r s (addN x (preF (-1) 0 f)),ns.map dataT,()):=by
  have h:=qrY r s ns (szF f+1) f x xs (-1) 0 (Nat.lt_succ_self _) hT (by rw[hx];simpa using hs);rw[hx] at h;exact Le.fix (fun φ ψ hs y=>qdp φ ψ hs y) qdp (szF f+1) _ _ h
structure TgO (t:RTag):Prop where
  key:∀b∈bl t.1,48≤b.toNat∧b.toNat≤90
  klen:(bl t.1).length≤8
  val:∀b∈bl t.2.1,32≤b.toNat∧b.toNat≤126∧¬b=34
  vlen:(bl t.2.1).length≤40
theorem qfN (s:ByteArray):(bl s).length=s.size:=by unfold bl;rw[Array.length_toList];rfl
theorem quW {s:ByteArray} (h:qdT s=true):(∀b∈bl s,48≤b.toNat∧b.toNat≤90)∧(bl s).length≤8:=by
  unfold qdT at h;simp only[Bool.and_eq_true,Bool.not_eq_true',decide_eq_true_eq,List.any_eq_false,List.mem_range] at h;obtain⟨h1,h2⟩:=h;have hl:=qfN s;refine⟨fun b hb=>?_,by omega⟩;obtain⟨i,hi,rfl⟩:=List.mem_iff_getElem.1 hb;have e1:=qtO s i hi;have e2:=bo_ch s i (by omega);have h3:=h1 i (by omega);unfold qdH at h3;simp only[Bool.not_eq_true',Bool.not_eq_true,Bool.not_eq_false,Bool.or_eq_true,decide_eq_true_eq,Bool.or_eq_false_iff,decide_eq_false_iff_not] at h3
  have e3:(s.data.toList[i]).toNat=ch s i:=by omega
  show 48≤(s.data.toList[i]).toNat∧(s.data.toList[i]).toNat≤90;rw[e3];omega
theorem qoR {s w:ByteArray} (h:fineT s w=true):∀b∈bl s,32≤b.toNat∧b.toNat≤126∧b∉bl w:=fun b hb=>by
  unfold fineT at h;simp only[Bool.not_eq_true',List.any_eq_false] at h;have:=h b hb;unfold badC at this;simp only[Bool.or_eq_true,decide_eq_true_eq,List.any_eq_true,beq_iff_eq,not_or,not_exists,not_and] at this;obtain⟨⟨h1,h2⟩,h3⟩:=this;exact⟨by omega,by omega,fun hm=>h3 b hm rfl⟩
theorem tag_ok {pre:List RTag} {t:RTag} (h:tErrD pre t=0):TgO t:=by
  unfold tErrD at h;by_cases h1:qdT t.1=false
  · rw[if_pos h1] at h;cases h
  rw[if_neg h1] at h;by_cases h2:40<t.2.1.size
  · rw[if_pos h2] at h;cases h
  rw[if_neg h2] at h;by_cases h3:fineT t.2.1 (ByteArray.mk #[34])=false
  · rw[if_pos h3] at h;cases h
  obtain⟨k1,k2⟩:=quW (by simpa using h1);have k3:=qoR (by simpa using h3:fineT t.2.1 (ByteArray.mk #[34])=true);exact⟨k1,k2,fun b hb=>⟨(k3 b hb).1,(k3 b hb).2.1,fun e=>(k3 b hb).2.2 (by rw[e];exact List.mem_cons_self)⟩,by rw[qfN];omega⟩
theorem com_ok {s:ByteArray} (h:cErr s=0):CmO s:=by
  unfold cErr at h;by_cases h1:60<s.size
  · rw[if_pos h1] at h;cases h
  rw[if_neg h1] at h;by_cases h2:fineT s (ByteArray.mk #[123,125])=false
  · rw[if_pos h2] at h;cases h
  have k3:=qoR (by simpa using h2:fineT s (ByteArray.mk #[123,125])=true);exact⟨fun b hb=>⟨(k3 b hb).1,(k3 b hb).2.1,fun e=>(k3 b hb).2.2 (by rw[e];exact List.mem_cons_self),fun e=>(k3 b hb).2.2 (by rw[e];exact List.mem_cons_of_mem _ List.mem_cons_self)⟩,by rw[qfN];omega⟩
def tagB (t:RTag):List UInt8:=91::(bl t.1++32::34::(bl t.2.1++[34,93,10]))
def tagsB:List RTag→List UInt8
  | []=>[]
  | t::ts=>tagB t++tagsB ts
theorem qqZ {r:Rules} {l:List UInt8} (hnb:NB l) (h91:∀b,l.head?=some b→¬b=91):∀(ts:List RTag) (x:TRec) (s:ByteArray),(∀t∈ts,TgO t)→(tagsB ts++l).length≤9000→x.1.length+ts.length≤1000→St (tagsB ts++l) s →
    iterW qbR ((),(flR r s x,()))=some ((),(flR r (mkB l) (x.1++ts,x.2),()))
  | [],x,s,_,_,_,hst=>by
    rw[List.append_nil];refine qg ?_;unfold qbR;show Option.bind (qt (rd r s x) 91) _=_
    rw[got_no (l:=l) hst (fun b hb e=>h91 b hb (by
      have:b.toNat=91:=by omega
      exact UInt8.toNat_inj.1 this))]
    rfl
  | t::ts,x,s,ho,hn,hx,hst=>by
    have h1:=ho t List.mem_cons_self
    let rest:=tagsB ts++l
    have hnbr:NB rest:=by
      cases ts with
      | nil=>exact hnb
      | cons t2 ts2 =>
        intro b hb;have:(91:UInt8)=b:=Option.some.inj hb;subst this;exact⟨by decide,by decide⟩
    have e:tagsB (t::ts)++l=91::(bl t.1++32::([34]++(bl t.2.1++34::([93]++(10::rest))))):=by simp[tagsB,tagB,rest]
    rw[e] at hst hn;simp only[List.length_cons,List.length_append,List.length_nil] at hn hx;have ih:=qqZ (r:=r) hnb h91 ts (x.1++[(t.1,(t.2.1,()))],x.2) (mkB (10::rest)) (fun q hq=>ho q (List.mem_cons_of_mem _ hq)) (by simp only[rest,List.length_append] at hn ⊢;omega) (by simp only[List.length_append,List.length_cons,List.length_nil];omega) (.blank hnbr (.inr rfl));have hs1:qbR ((),(flR r s x,()))=some (.inl ((),(flR r (mkB (10::rest)) (x.1++[(t.1,(t.2.1,()))],x.2),()))):=by
      unfold qbR;show Option.bind (qt (rd r s x) 91) _=_;rw[qpF hst (z:=91) rfl,Option.bind_some];simp only[cond_true];show Option.bind (qZ (rd r (mkB (bl t.1++32::([34]++(bl t.2.1++34::([93]++(10::rest)))))) x) (mkB [32,34])) _=_;rw[qsn [34] (bl t.1) _ (fun hm=>by have:=(h1.key _ hm).1;simp at this) (by simp only[List.length_cons,List.length_append,List.length_nil];omega),Option.bind_some];show Option.bind (qZ (rd r (mkB (bl t.2.1++34::([93]++(10::rest)))) x) (mkB [34,93])) _=_;rw[qsn [93] (bl t.2.1) _ (fun hm=>(h1.val _ hm).2.2 rfl) (by simp only[List.length_cons,List.length_append,List.length_nil];omega),Option.bind_some]
      rw[qae (by
        show(x.1.length+1)*32≤_
        omega),qa]
      rw[show mkB (bl t.1)=t.1 from mk_bl _,show mkB (bl t.2.1)=t.2.1 from mk_bl _]
    rw[qn hs1,ih];have:(x.1++[(t.1,(t.2.1,()))])++ts=x.1++t::ts:=by
      rw[List.append_assoc];rfl
    simp only[this]
def recB (r:Rules) (ts:List RTag) (com:ByteArray) (f:Fo) (i:Nat):List UInt8:=tagsB ts++(cmB com++(txB r true (qx r) f++(resL.getD i []++[10])))
theorem resCl {i:Nat} (hi:i<4):Cl (resL.getD i []++[10]):=by
  have hR:ResB (resL.getD i []):=⟨⟨i,hi,rfl⟩⟩;obtain⟨_,_,h6,_⟩:=hR.facts;refine⟨fun b hb=>?_,.inr ⟨_,hR,rfl⟩⟩;rcases List.mem_append.1 hb with hb | hb
  · exact h6 b hb
  · simp at hb;subst hb;decide
theorem read_rec {r:Rules} (hr:Rng qR r) (c:qu r=0) {ts:List RTag} {com:ByteArray} {f:Fo} {i:Nat} (hi:i<4) (ht:∀t∈ts,TgO t) (htl:ts.length≤10) (hc:CmO com) (hp:PlF r (qx r) f) (hf:szF f≤30) (hlen:(recB r ts com f i).length≤8192)
    (hck:qa7 r (ts,(com,(preF (-1) 0 f,((i:Int),()))))=some 0):qhR r (mkB (recB r ts com f i))=some ((ts,(com,(preF (-1) 0 f,((i:Int),())))),(0,())):=by
  have hls:=qqj c;have hR:ResB (resL.getD i []):=⟨⟨i,hi,rfl⟩⟩;obtain⟨⟨Lr,tr',er,_⟩,r5,r6,r7⟩:=hR.facts;have hcl:=resCl hi
  let tl:=txC r true (qx r) f (resL.getD i []++[10])
  have htx:txB r true (qx r) f++(resL.getD i []++[10])=tl:=txC_of hls hp (fun q hq e=>by
    have hh:(resL.getD i []++[10]).head?=some Lr:=by rw[er];rfl
    rw[hh] at hq;have:Lr=q:=Option.some.inj hq;subst this;subst e
    have hm:(41:UInt8)∈resL.getD i []:=by rw[er];exact List.mem_cons_self
    have:=r5 _ hm;revert this
    decide)
  obtain⟨q1,q2⟩:=qp6 hls hp hcl
  let rest:=cmB com++tl
  have hrec:recB r ts com f i=tagsB ts++rest:=by
    unfold recB;rw[htx]
  rw[hrec] at hlen ⊢;have hrest:NB rest∧∀b,rest.head?=some b→¬b=91:=by
    by_cases h0:bl com=[]
    · have e:rest=tl:=by show cmB com++tl=tl;unfold cmB;rw[if_pos h0];rfl
      rw[e];exact⟨q1,q2 91 (.inr (.inr rfl))⟩
    · have e:rest=123::(bl com++125::32::tl):=by show cmB com++tl=_;unfold cmB;rw[if_neg h0];simp
      rw[e]
      refine⟨fun b hb=>?_,fun b hb=>?_⟩<;>(have:(123:UInt8)=b:=Option.some.inj hb;subst this;decide)
  have hst:St (tagsB ts++rest) (mkB (tagsB ts++rest)) := .self (by
    cases ts with
    | nil=>exact hrest.1
    | cons t2 ts2 =>
      intro b hb;have:(91:UInt8)=b:=Option.some.inj hb;subst this
      exact⟨by decide,by decide⟩)
  have htlen:tl.length≤90*szF f+(resL.getD i []++[10]).length:=qmK hls hp _;simp only[List.length_append,List.length_cons,List.length_nil] at htlen
  have hrl:rest.length≤8192:=by rw[List.length_append] at hlen;omega
  let x0:TRec:=([],(ByteArray.mk #[],([],((0:Int),()))))
  let x1:TRec:=(ts,(ByteArray.mk #[],([],((0:Int),()))))
  let x2:TRec:=(ts,(com,([],((0:Int),()))))
  let x3:TRec:=(ts,(com,([],((i:Int),()))))
  have hcom:∃s',St tl s'∧qr (rd r (mkB rest) x1)=some (rd r s' x1,com):=by
    by_cases h0:bl com=[]
    · have e:rest=tl:=by show cmB com++tl=tl;unfold cmB;rw[if_pos h0];rfl
      refine⟨mkB tl,.self q1,?_⟩;rw[e,qo6 (.self q1) (q2 123 (.inr (.inl rfl)))];rw[show com=ByteArray.mk #[] from qdX (by rw[h0];rfl)]
    · have e:rest=123::(bl com++125::(32::tl)):=by show cmB com++tl=_;unfold cmB;rw[if_neg h0];simp
      refine⟨mkB (32::tl),.blank q1 (.inl rfl),?_⟩
      have hs:St (123::(bl com++125::(32::tl))) (mkB rest):=by rw[e];exact .self (fun b hb=>by
        have:(123:UInt8)=b:=Option.some.inj hb;subst this
        exact⟨by decide,by decide⟩)
      rw[qnk hs (fun hm=>(hc.1 _ hm).2.2.2 rfl) h0 (by rw[e] at hrl;simp only[List.length_cons,List.length_append] at hrl ⊢;omega),mk_bl]
  obtain⟨s',hs',hcom⟩:=hcom;obtain⟨ns,xs,hafter,hT⟩:=after_W hr c x2 hp hcl (by simp only[List.length_append,List.length_cons,List.length_nil];omega) hs';unfold qhR;rw[qhS r hr,Option.bind_some,c];simp only[bne_self_eq_false,cond_false];rw[decide_eq_false (show ¬(((mkB (tagsB ts++rest)).size:Nat):Int)>8192 by rw[qU];omega),cond_false];show Option.bind (iterW qbR ((),(flR r (mkB (tagsB ts++rest)) x0,()))) _=_;rw[qqZ hrest.1 hrest.2 ts x0 _ ht (by omega) (by show 0+ts.length≤1000;omega) hst,Option.bind_some];show Option.bind (qr (rd r (mkB rest) x1)) _=_;rw[hcom,Option.bind_some];show Option.bind (qch r) _=_;rw[qhQ r hr,if_pos c,Option.bind_some];show Option.bind (qbU (rd r s' x2) [] (qx r)) _=_;rw[hafter,Option.bind_some]
  show Option.bind (qJ (rd r (mkB (resL.getD i []++[10])) x2)) _=_;have hnb2:NB (resL.getD i []++10::[]):=by
    obtain⟨⟨L,t,e,a1,a2,_⟩,_⟩:=hR.facts;intro b hb;rw[e] at hb;have:L=b:=Option.some.inj hb;subst this;exact⟨a1,a2⟩
  rw[qpW (W:=resL.getD i []) (b:=10) (l:=[]) (.self hnb2) r5 rfl hcl.asc (by rw[List.length_append];simp only[List.length_cons,List.length_nil];omega),Option.bind_some];show Option.bind (qP resT (mkB (resL.getD i []))) _=_;rw[res_idx hi,Option.bind_some,decide_eq_false (by omega),cond_false];have hbd:qj (((mkB (resL.getD i [])).size:Nat):Int) (((mkB (resL.getD i []++10::[])).size:Nat):Int) (mkB (resL.getD i []++10::[])).size=true:=by
    simp[qj,qU];omega
  show req (qj (((mkB (resL.getD i [])).size:Nat):Int) (((mkB (resL.getD i []++10::[])).size:Nat):Int) (mkB (resL.getD i []++10::[])).size) _=_;rw[hbd,qa];have hdrop:(mkB (resL.getD i []++10::[])).extract (((mkB (resL.getD i [])).size:Nat):Int).toNat (((mkB (resL.getD i []++10::[])).size:Nat):Int).toNat=mkB [10]:=by
    rw[Int.toNat_natCast,Int.toNat_natCast,qU,qU];exact qse _ _ _ (by simp)
  show Option.bind (qK (rd r ((mkB (resL.getD i []++10::[])).extract (((mkB (resL.getD i [])).size:Nat):Int).toNat (((mkB (resL.getD i []++10::[])).size:Nat):Int).toNat) x3)) _=_;rw[hdrop,qmq (l:=[]) (St.blank (b:=10) (fun b hb=>by cases hb) (.inr rfl)),Option.bind_some]
  have h0:(!((mkB ([]:List UInt8)).toList==(ByteArray.mk #[]).toList))=false:=by rw[qbe,qn0];rfl
  rw[h0,cond_false];show Option.bind (some (ns.map dataT)) _=_;rw[Option.bind_some];show Option.bind (qb7 (rd r (mkB []) x3) (ns.map dataT) xs (-1)) _=_;rw[flat_W r (mkB []) x3 rfl hT (by omega),Option.bind_some];show Option.bind (qa7 r (ts,(com,([]++preF (-1) 0 f,((i:Int),()))))) _=_;rw[List.nil_append,hck,Option.bind_some];simp only[bne_self_eq_false,cond_false];rfl
def oneW (r:Rules) (p:Place) (m:Mv) (c:ByteArray):List ByteArray:=if bl c=[] then [moveT r p m] else [moveT r p m,mkB (123::(bl c++[125]))]
def tkW (r:Rules):Bool→Place→Fo→List ByteArray
  | _,_,.nil=>[]
  | true,p,.cons m c k f=>oneW r p m c++(tkW r false p f++tkW r true (qm r p m) k)
  | false,p,.cons m c k f=>mkB (40::(bl (joinB 32 (oneW r p m c++tkW r true (qm r p m) k))++[41]))::tkW r false p f
def catW (l:List ByteArray):List UInt8:=l.flatMap fun t=>bl t++[32]
theorem qls (a b:List ByteArray):catW (a++b)=catW a++catW b:=by simp[catW]
theorem qmz:∀(l:List ByteArray),l≠[]→bl (joinB 32 l)++[32]=catW l
  | [],h=>absurd rfl h
  | [x],_=>by rw[joinB_one];simp[catW]
  | x::y::l,_=>by
    have ih:=qmz (y::l) (by simp);rw[qvn,qab,qab,show bl (oneT 32)=[32] from rfl,List.append_assoc,ih];simp[catW]
theorem one_cat (r:Rules) (p:Place) (m:Mv) (c:ByteArray):catW (oneW r p m c)=mvB r p m c:=by
  unfold oneW mvB cmB;split
  · simp[catW]
  · simp[catW,bl_mk]
theorem one_ne (r:Rules) (p:Place) (m:Mv) (c:ByteArray):oneW r p m c≠[]:=by
  unfold oneW
  split<;>simp
theorem qq8 (r:Rules):∀(f:Fo) (b:Bool) (p:Place),catW (tkW r b p f)=txB r b p f
  | .nil,_,_=>rfl
  | .cons m c k f,b,p=>by
    have h1:=one_cat r p m c;have h2:=qq8 r k true (qm r p m);have h3:=qq8 r f false p;cases b
    · have hj:=qmz (oneW r p m c++tkW r true (qm r p m) k) (by simp[one_ne]);rw[qls,h1,h2] at hj;show(bl (mkB (40::(bl (joinB 32 (oneW r p m c++tkW r true (qm r p m) k))++[41])))++[32])++catW (tkW r false p f)=40::((mvB r p m c++txB r true (qm r p m) k).dropLast++41::32::txB r false p f);rw[h3,bl_mk,←hj,List.dropLast_concat];simp
    · show catW (oneW r p m c++(tkW r false p f++tkW r true (qm r p m) k))=mvB r p m c++(txB r false p f++txB r true (qm r p m) k);rw[qls,qls,h1,h2,h3]
theorem cat_len:∀(l:List ByteArray),l.length≤(catW l).length
  | []=>Nat.le_refl _
  | x::l=>by
    have:=cat_len l;show l.length+1≤((bl x++[32])++catW l).length;simp only[List.length_append,List.length_cons,List.length_nil];omega
theorem join_len {l:List ByteArray} (h:l≠[]):(joinB 32 l).size+1=(catW l).length:=by
  rw[←qmz l h,List.length_append,qfN];rfl
abbrev wr (r:Rules) (x:TRec):Rules×TRec×Unit:=(r,(x,()))
abbrev wfl (r:Rules) (x:TRec):=(r.1,(r.2.1,(r.2.2.1,(r.2.2.2.1,(r.2.2.2.2.1,(r.2.2.2.2.2.1,(r.2.2.2.2.2.2.1,(r.2.2.2.2.2.2.2.1,(r.2.2.2.2.2.2.2.2.1,(r.2.2.2.2.2.2.2.2.2.1,(r.2.2.2.2.2.2.2.2.2.2.1,x)))))))))))
theorem qaf {a b:ByteArray} (h:a.size+b.size≤140737488355328):qk a b=true:=Nat.ble_eq_true_of_le (by omega)
theorem braces (c:ByteArray):((ByteArray.mk #[123])++c)++(ByteArray.mk #[125])=mkB (123::(bl c++[125])):=qdX (by
  rw[qab,qab,bl_mk];show([123]++bl c)++[125]=_
  simp)
theorem parens (c:ByteArray):((ByteArray.mk #[40])++c)++(ByteArray.mk #[41])=mkB (40::(bl c++[41])):=qdX (by
  rw[qab,qab,bl_mk];show([40]++bl c)++[41]=_
  simp)
theorem qtJ (c:ByteArray):(c.toList==(ByteArray.mk #[]).toList)=decide (bl c=[]):=by
  rw[qa1];refine decide_eq_decide.2 ⟨fun h=>by rw[h];rfl,fun h=>qdX (by rw[h];rfl)⟩
theorem one_eq {r:Rules} (hr:Rng qR r) {x:TRec} {i:Nat} {par:Int} {m:Mv} {c:ByteArray} (hat:at? x.2.2.1 (i:Int)=some (par,(m,(c,())))) {p:Place} (h:Valid r p) (ha:qh r p m=true) (hc:CmO c):qan (wr r x) p (i:Int)=some (wr r x,oneW r p m c):=by
  have hcs:c.size≤60:=by rw[←qfN];exact hc.2
  have s1:(ByteArray.mk #[123]).size=1:=rfl;have s2:(ByteArray.mk #[125]).size=1:=rfl;unfold qan;simp only[hat,Option.bind_some];rw[qj9 h,Option.bind_some,of_spec (qkY hr) h ha,Option.bind_some];rw[qtJ];unfold oneW;by_cases h0:bl c=[]
  · rw[if_pos h0,decide_eq_true h0,Bool.not_true,cond_false,Option.bind_some]
  · rw[if_neg h0,decide_eq_false h0,Bool.not_false,cond_true];rw[qaf (by omega),qa,qaf (by rw[ByteArray.size_append];omega),qa,qae (by simp),qa,braces];rfl
def WrOK (r:Rules) (x:TRec) (φ:((Rules×TRec×Unit)×Place×Int×Unit)→Option ((Rules×TRec×Unit)×List ByteArray)) (N:Nat):Prop:=∀(f:Fo) (par:Int) (i:Nat) (p:Place),szF f<N→Full x.2.2.1 par i f→Clo x.2.2.1 i f→PlF r p f→φ (wr r x,p,par,())=some (wr r x,tkW r true p f)
theorem qun {r:Rules} {f:Fo} {b:Bool} {p:Place} (h:PlF r p f):(tkW r b p f).length≤90*szF f:=by
  have h1:=cat_len (tkW r b p f);rw[qq8] at h1;have:=qeR r f b p h;omega
theorem qnd {r:Rules} (hr:Rng qR r) (c:qu r=0) {x:TRec} (hx:x.2.2.1.length≤100) (hd:Down x.2.2.1 x.2.2.1.length) {self:((Rules×TRec×Unit)×Place×Int×Unit)→Option ((Rules×TRec×Unit)×List ByteArray)} {N:Nat} (hs:WrOK r x self N) (p:Place) (par:Int) (r3 r2:List Int) (hr2:(r3.take (((r3.length:Nat):Int)).toNat).drop 1=r2) :
    ∀(f:Fo) (i:Nat) (pre:List Int) (out:List ByteArray),szF f≤N→r2=pre++qci i f→Seg x.2.2.1 i (preF par i f)→par<(i:Int)→i+szF f≤x.2.2.1.length→Clo x.2.2.1 i f→PlF r p f→pre.length+szF f≤1000→out.length+szF f≤100000 →
    iterW (qF r3 p self) ((out,((pre.length:Nat):Int),()),(wfl r x,()))=some ((out++tkW r false p f,()),(wfl r x,()))
  | .nil,i,pre,out,_,e,_,_,_,_,_,_,_=>by
    rw[show tkW r false p .nil=[] from rfl,List.append_nil];refine qg ?_;unfold qF;rw[hr2];simp only[e,qci,List.append_nil,show decide (((pre.length:Nat):Int)<((pre.length:Nat):Int))=false by simp,cond_false]
  | .cons m k1 k f,i,pre,out,hN,e,hseg,hp,hl,hc,hpl,hpre,hout=>by
    obtain⟨h1,h2,h3⟩:=hseg.parts;obtain⟨hfull,hck,hcr⟩:=Full.sub hd hseg hp hl hc;obtain⟨⟨hv,ha,h0,hcm⟩,p2,p3⟩:=hpl;simp only[szF] at hN hl hpre hout
    have hi:i<x.2.2.1.length:=by omega
    have hat:at? x.2.2.1 (i:Int)=some (par,m,k1,()):=by rw[qcS _ _ hi];rw[List.getElem?_eq_getElem hi] at h1;exact h1
    have hrl:pre.length<r2.length:=by rw[e,List.length_append];simp[qci]
    have hat2:at? r2 ((pre.length:Nat):Int)=some (i:Int):=by
      rw[qcS _ _ hrl];simp[e,qci]
    have hone:=one_eq hr hat hv ha hcm;have hmk:=qgc hv ha;have hself:=hs k (i:Int) (i+1) (qm r p m) (by omega) hfull hck p2;have hself:self ((r,(x,())),qm r p m,(i:Int),())=some ((r,(x,())),tkW r true (qm r p m) k):=hself;have hone:qan (r,(x,())) p (i:Int)=some ((r,(x,())),oneW r p m k1):=hone
    have hne:oneW r p m k1++tkW r true (qm r p m) k≠[]:=by simp[one_ne]
    have hjl:=join_len hne;rw[qls,one_cat,qq8,List.length_append] at hjl;have l1:=qpU r p m hcm;have l2:=qeR r k true _ p2;have l3:=qun (b:=true) p2
    have l4:(oneW r p m k1).length≤2:=by unfold oneW;split<;>simp
    have s1:(ByteArray.mk #[40]).size=1:=rfl;have s2:(ByteArray.mk #[41]).size=1:=rfl;have ih:=qnd hr c hx hd hs p par r3 r2 hr2 f (i+1+szF k) (pre++[(i:Int)]) (out++[mkB (40::(bl (joinB 32 (oneW r p m k1++tkW r true (qm r p m) k))++[41]))]) (by omega) (by rw[e,qci,List.append_assoc];rfl) h3 (by omega) (by omega) hcr p3 (by simp only[List.length_append,List.length_cons,List.length_nil];omega) (by simp only[List.length_append,List.length_cons,List.length_nil];omega);have hstep:qF r3 p self ((out,((pre.length:Nat):Int),()),(wfl r x,()))=some (.inl ((out++[mkB (40::(bl (joinB 32 (oneW r p m k1++tkW r true (qm r p m) k))++[41]))],(((pre++[(i:Int)]).length:Nat):Int),()),(wfl r x,()))):=by
      unfold qF;simp only[hr2,show decide (((pre.length:Nat):Int)<((r2.length:Nat):Int))=true by simp;exact hrl,cond_true,hat2,Option.bind_some,qso,hone,hat,hmk,pl_eta,hself,agree_self];rw[qae (by omega),qa,Option.bind_some];simp only[];rw[qpe 32 _ (by rw[List.length_append];omega) (by omega),Option.bind_some];rw[qaf (by omega),qa,qaf (by rw[ByteArray.size_append];omega),qa,parens,qae (by simp only[List.length_singleton];omega),qa];rw[qe (n:=((pre.length:Nat):Int)+1) (by omega) (by omega)];simp only[List.length_append,List.length_singleton];rfl
    rw[qn hstep,ih,List.append_assoc];rfl
theorem qpl {r:Rules} (hr:Rng qR r) (c:qu r=0) {x:TRec} (hx:x.2.2.1.length≤100) (hd:Down x.2.2.1 x.2.2.1.length):∀N,WrOK r x (fixN qI N) N
  | 0,f,_,_,_,h,_,_,_=>absurd h (Nat.not_lt_zero _)
  | N+1,f,par,i,p,hN,hfull,hcl,hpl=>by
    have ih:=qpl hr c hx hd N;rw[qkM];generalize fixN qI N=self at ih ⊢;have hk:=Full.kids hfull;unfold qI qca;simp only[];rw[qfZ x par (by omega),Option.bind_some,hk];obtain⟨h1,h2,h3,h4⟩:=hfull
    cases f with
    | nil=>rfl
    | cons m k1 k f =>
      obtain⟨s1,s2,s3⟩:=h1.parts;obtain⟨hfk,hck,hcr⟩:=Full.sub hd h1 h2 h3 hcl;obtain⟨⟨hv,ha,h0,hcm⟩,p2,p3⟩:=hpl;simp only[szF] at hN h3
      have hi:i<x.2.2.1.length:=by omega
      have hat:at? x.2.2.1 (i:Int)=some (par,m,k1,()):=by rw[qcS _ _ hi];rw[List.getElem?_eq_getElem hi] at s1;exact s1
      have hone:qan (r,(x,())) p (i:Int)=some ((r,(x,())),oneW r p m k1):=one_eq hr hat hv ha hcm;have hmk:=qgc hv ha;have hself:self ((r,(x,())),qm r p m,(i:Int),())=some ((r,(x,())),tkW r true (qm r p m) k):=ih k (i:Int) (i+1) (qm r p m) (by omega) hfk hck p2;have l3:=qun (b:=true) p2;have l5:=qun (b:=false) p3
      have l4:(oneW r p m k1).length≤2:=by unfold oneW;split<;>simp
      have hloop:=qnd hr c hx hd ih p par (qci i (.cons m k1 k f)) (qci (i+1+szF k) f) (by rw[Int.toNat_natCast,List.take_length];rfl) f (i+1+szF k) [] (oneW r p m k1) (by omega) rfl s3 (by omega) (by omega) hcr p3 (by simp only[List.length_nil];omega) (by omega);rw[show(((((qci i (.cons m k1 k f)).length:Nat):Int))==0)=false from beq_f (by simp only[qci,List.length_cons];omega),cond_false];rw[show inb 0 (qci i (.cons m k1 k f)).length=true from inb_iff.2 ⟨by omega,by simp only[qci,List.length_cons];omega⟩];simp only[qa,show getD' (qci i (.cons m k1 k f)) 0 0=(i:Int) from rfl];rw[hone,Option.bind_some];rw[show qj 1 ((((qci i (.cons m k1 k f)).length:Nat):Int)) (qci i (.cons m k1 k f)).length=true by simp[qj,qci];exact decide_eq_true (by omega),qa]
      rw[show iterW (qF (qci i (.cons m k1 k f)) p self) ((oneW r p m k1,0,()),(wfl r x,()))=_ from hloop,Option.bind_some];simp only[qso,hat,Option.bind_some,hmk,pl_eta,hself,agree_self];rw[qae (by rw[List.length_append];omega),qa,Option.bind_some];simp only[qso,List.append_assoc];rfl
theorem writer_W {r:Rules} (hr:Rng qR r) (c:qu r=0) {x:TRec} {f:Fo} (hf:x.2.2.1=preF (-1) 0 f) (hs:szF f≤100) (hp:PlF r (qx r) f):qbN (wr r x) (qx r) (-1)=some (wr r x,tkW r true (qx r) f):=by
  have hlen:x.2.2.1.length=szF f:=by rw[hf,qdg]
  have hd:Down x.2.2.1 x.2.2.1.length:=by rw[hf];exact qmp f
  have hfull:Full x.2.2.1 (-1) 0 f:=⟨⟨[],by rw[hf];simp⟩,by omega,by omega,fun j hj _=>⟨by omega,by omega⟩⟩;have h:=qpl hr c (by omega) hd (szF f+1) f (-1) 0 (qx r) (Nat.lt_succ_self _) hfull (fun j h1 h2=>by omega) hp;exact Le.fix (fun φ ψ hs y=>qcV φ ψ hs y) qcV (szF f+1) _ _ h
def AtW (r:Rules) (w:List Mv) (p:Place):Prop:=∃s,qgS r w = .inl s∧OKG r s∧s.2=w∧lastP s.1=p
theorem qtx {r:Rules} (c:qu r=0):AtW r [] (qx r):=⟨_,rfl,qkN c,rfl,rfl⟩
theorem qtD (r:Rules):∀(a b:List Mv) (s:List Place×List Mv),runG r (a++b) s=match runG r a s with
    | .inl s'=>runG r b s'
    | .inr e => .inr e
  | [],b,s=>rfl
  | m::a,b,s=>by
    have e:∀k,runG r (m::k) s=if stepG r s m=0 then runG r k (nextG r s m) else .inr (stepG r s m):=fun _=>rfl;rw[List.cons_append,e,e];by_cases c:stepG r s m=0
    · rw[if_pos c,if_pos c,qtD r a b]
    · rw[if_neg c,if_neg c]
theorem end_res {r:Rules} {l:List Place} (h:qdM r l=0):qaJ r (lastP l)=0:=by
  unfold qdM at h;by_cases w:((qaJ r (lastP l)==0)&&(r.repeats !=0))&&decide (((qgl l:Nat):Int)≥r.repeats)
  · rw[w,cond_true] at h;cases h
  · rw[show(((qaJ r (lastP l)==0)&&(r.repeats !=0))&&decide (((qgl l:Nat):Int)≥r.repeats))=false by simpa using w,cond_false] at h;exact h
theorem qpY {r:Rules} {w:List Mv} {p:Place} {m:Mv} (h:AtW r w p) (hg:gErr r (w++[m])=0):Valid r p∧qh r p m=true∧qaJ r p=0∧AtW r (w++[m]) (qm r p m)∧∃L,qfT r (w++[m])=(L++[qm r p m],(0,()))∧L.length=w.length+1∧lastP L=p:=by
  obtain⟨s,h1,h2,h3,rfl⟩:=h;have e:qgS r (w++[m])=if stepG r s m=0 then .inl (nextG r s m) else .inr (stepG r s m):=by
    unfold qgS at h1 ⊢;rw[qtD,h1];rfl
  by_cases c:stepG r s m=0
  rotate_left
  · rw[if_neg c] at e;unfold gErr at hg;rw[if_pos h2.ok,e] at hg;exact absurd hg c
  · rw[if_pos c] at e;have el:lastP (nextG r s m).1=qm r (lastP s.1) m:=by
      unfold nextG lastP;simp[getD']
    refine⟨h2.last,(step_0 c).2,end_res (step_0 c).1,⟨_,e,qpM h2 c,by show s.2++[m]=_;rw[h3],el⟩,s.1,?_,by rw[h2.len,h3],rfl⟩;unfold qfT;rw[if_pos h2.ok,e];rfl
theorem qpE {r:Rules} {ns:List RNode} {i:Nat} (h:nErr r ns i=0):cErr (rcom ns i)=0∧gErr r (wayM ns (i:Int))=0:=by
  unfold nErr at h;by_cases c1:cErr (rcom ns i)=0
  rotate_left
  · rw[if_pos c1] at h;exact absurd h c1
  rw[if_neg (fun h=>h c1)] at h;by_cases c2:ordB ns i=false
  · rw[if_pos c2] at h;cases h
  rw[if_neg c2] at h;by_cases c3:twinB ns i=true
  · rw[if_pos c3] at h;cases h
  rw[if_neg c3] at h;exact⟨c1,h⟩
theorem qms {ns:List RNode} (hd:Down ns ns.length) {i:Nat} {par:Int} {m:Mv} {c:ByteArray} (h:ns[i]?=some (par,(m,(c,())))):wayM ns (i:Int)=wayM ns par++[m]:=by
  obtain⟨g1,g2,_⟩:=qcY h;have hi:i<ns.length:=(List.getElem?_eq_some_iff.1 h).1;unfold wayM;rw[qbK (by omega) (hd.mono (by omega)),List.map_cons,List.reverse_cons,Int.toNat_natCast,g1,g2]
theorem qkW {r:Rules} {ns:List RNode} (hd:Down ns ns.length) (hn:∀i,i<ns.length→nErr r ns i=0):∀(f:Fo) (par:Int) (i:Nat) (p:Place),Seg ns i (preF par i f)→AtW r (wayM ns par) p→PlF r p f
  | .nil,_,_,_,_,_=>trivial
  | .cons m c k f,par,i,p,h,hw=>by
    obtain⟨h1,h2,h3⟩:=h.parts;have hi:i<ns.length:=(List.getElem?_eq_some_iff.1 h1).1;obtain⟨e1,e2⟩:=qpE (hn i hi);have hwn:=qms hd h1;rw[hwn] at e2;obtain⟨q1,q2,q3,q4,_⟩:=qpY hw e2;rw[←hwn] at q4;have hc:rcom ns i=c:=(qcY h1).2.2;exact⟨⟨q1,q2,q3,com_ok (by rw[←hc];exact e1)⟩,qkW hd hn k (i:Int) (i+1) _ h2 q4,qkW hd hn f par _ p h3 hw⟩
theorem wayM_len {ns:List RNode} (hd:Down ns ns.length) {n:Int} (h:n<((ns.length:Nat):Int)):(wayM ns n).length≤ns.length+1:=by
  unfold wayM;rw[List.length_reverse,List.length_map];exact qh6 (ns.length+1) n (by omega) (hd.mono (by omega))
theorem mtext {r:Rules} (hr:Rng qR r) {ns:List RNode} (hl:ns.length≤100) (ho:Ord ns ns.length) (hn:∀i,i<ns.length→nErr r ns i=0) {i:Nat} {par:Int} {m:Mv} {k:ByteArray} (h:ns[i]?=some (par,(m,(k,())))) {p:Place} (hw:AtW r (wayM ns par) p) :
    qbZ r ns (i:Int)=some (mkB (mvB r p m k)):=by
  have hd:=ho.down;have hi:i<ns.length:=(List.getElem?_eq_some_iff.1 h).1;obtain⟨e1,e2⟩:=qpE (hn i hi);have hwn:=qms hd h;have hc:rcom ns i=k:=(qcY h).2.2;rw[hc] at e1;have hcm:=com_ok e1;have hwl:=wayM_len hd (n:=(i:Int)) (by omega);rw[hwn] at e2 hwl;obtain⟨q1,q2,q3,q4,L,q5,q6,q7⟩:=qpY hw e2
  have hat:at? ns (i:Int)=some (par,(m,(k,()))):=by rw[qcS _ _ hi];rw[List.getElem?_eq_getElem hi] at h;exact h
  have hks:k.size≤60:=by rw[←qfN];exact hcm.2
  have hms:=qmG r p m;have s1:(ByteArray.mk #[123]).size=1:=rfl;have s2:(ByteArray.mk #[125,32]).size=2:=rfl;have s3:(ByteArray.mk #[32]).size=1:=rfl;obtain⟨s,hs1,hs2,hs3,hs4⟩:=hw;simp only[List.length_append,List.length_cons,List.length_nil] at hwl;unfold qbZ;rw[way3 ns (by omega) (n:=(i:Int)) (by omega) (by omega) (hd.mono (by omega)) (fun j hj=>ho.low j (by omega)),Option.bind_some];simp only[hwn];rw[qjz r _ hr (by simp only[List.length_append,List.length_cons,List.length_nil];omega),Option.bind_some,q5];have hL:((((L++[qm r p m]).length:Nat):Int)-2)=((wayM ns par).length:Int):=by
    simp only[List.length_append,List.length_cons,List.length_nil,q6];omega
  simp only[hL];rw[qe (by omega) (by omega),show inb (((wayM ns par).length:Nat):Int) (L++[qm r p m]).length=true from inb_iff.2 ⟨by omega,by simp only[List.length_append,List.length_cons,List.length_nil,q6];omega⟩,qa];have hg:getD' (L++[qm r p m]) (((wayM ns par).length:Int)).toNat ([],(([],([],())),((0:Int),((0:Int),()))))=p:=by
    rw[←q7,Int.toNat_natCast];unfold lastP getD';rw[List.getD_eq_getElem?_getD,List.getElem?_append_left (by omega),List.getD_eq_getElem?_getD,show L.length-1=(wayM ns par).length by omega];rfl
  simp only[hat,Option.bind_some,hg];rw[quN (qkY hr) hr q1 (qmB hs2.ok q1) q2,Option.bind_some];rw[qaf (by omega),qa,qtJ];unfold mvB cmB;by_cases h0:bl k=[]
  · rw[if_pos h0,decide_eq_true h0,Bool.not_true,cond_false,Option.bind_some];refine congrArg some (qdX ?_);rw[qab,bl_mk];rfl
  · rw[if_neg h0,decide_eq_false h0,Bool.not_false,cond_true];rw[qaf (by omega),qa,qaf (by rw[ByteArray.size_append];omega),qa,qaf (by simp only[ByteArray.size_append];omega),qa,Option.bind_some];refine congrArg some (qdX ?_);rw[qab,qab,qab,qab,bl_mk];show(bl (moveT r p m)++[32])++(([123]++bl k)++[125,32])=_;simp
abbrev LArg:=Rules×List RNode×Int×Unit
def LtOK (r:Rules) (ns:List RNode) (φ:LArg→Option ByteArray) (N:Nat):Prop:=∀(f:Fo) (par:Int) (i:Nat) (p:Place),szF f<N→Full ns par i f→Clo ns i f→AtW r (wayM ns par) p→φ (r,ns,par,())=some (mkB (txB r true p f))
theorem qng {r:Rules} {ns:List RNode} (hl:ns.length≤100) {par:Int} {self:LArg→Option ByteArray} (first:Int) (s:ByteArray):∀(n j:Nat),(∀t,j≤t→t<j+n→rpar ns t≠par)→j+n≤ns.length →
    iterW (qp ns par r self) ((first,s,(j:Int),()),())=iterW (qp ns par r self) ((first,s,((j+n:Nat):Int),()),())
  | 0,j,_,_=>rfl
  | n+1,j,h,hj=>by
    have hne:=h j (Nat.le_refl _) (by omega)
    have hjl:j<ns.length:=by omega
    have hn:=qjx hjl;have h1:qp ns par r self ((first,s,(j:Int),()),())=some (.inl ((first,s,((j+1:Nat):Int),()),())):=by
      unfold qp;simp only[show decide ((j:Int)<((ns.length:Nat):Int))=true by simp;omega,cond_true];rw[qcS _ j hjl,Option.bind_some,hn.1,bne_t hne,cond_true,Option.bind_some,qe (by omega) (by omega)];rfl
    rw[qn h1,qng hl first s n (j+1) (fun t h1 h2=>h t (by omega) (by omega)) (by omega),show j+1+n=j+(n+1) by omega]
theorem alts_L1 {r:Rules} (hr:Rng qR r) {ns:List RNode} (hl:ns.length≤100) (ho:Ord ns ns.length) (hn:∀i,i<ns.length→nErr r ns i=0) {self:LArg→Option ByteArray} {N:Nat} (hs:LtOK r ns self N) {par:Int} {p:Place} (hw:AtW r (wayM ns par) p) {first:Int} (hf:0≤first) :
    ∀(f:Fo) (i:Nat) (s:List UInt8),szF f≤N→Seg ns i (preF par i f)→par<(i:Int)→i+szF f≤ns.length→Clo ns i f→s.length+90*szF f≤100000 →
    iterW (qp ns par r self) ((first,mkB s,(i:Int),()),())=iterW (qp ns par r self) ((first,mkB (s++txB r false p f),((i+szF f:Nat):Int),()),())
  | .nil,i,s,_,_,_,_,_,_=>by simp[txB,szF]
  | .cons m k1 k f,i,s,hN,hseg,hp,hil,hc,hsz=>by
    have hd:=ho.down;obtain⟨h1,h2,h3⟩:=hseg.parts;obtain⟨hfull,hck,hcr⟩:=Full.sub hd hseg hp hil hc;have hpl:=qkW hd hn (.cons m k1 k f) par i p hseg hw;obtain⟨⟨hv,ha,h0,hcm⟩,p2,p3⟩:=hpl;simp only[szF] at hN hil hsz
    have hi:i<ns.length:=by omega
    have hwn:=qms hd h1;have hgi:=(qpE (hn i hi)).2;rw[hwn] at hgi;have hwk:=(qpY hw hgi).2.2.2.1;rw[←hwn] at hwk
    have hat:at? ns (i:Int)=some (par,(m,(k1,()))):=by rw[qcS _ _ hi];rw[List.getElem?_eq_getElem hi] at h1;exact h1
    have hmt:=mtext hr hl ho hn h1 hw;have hself:=hs k (i:Int) (i+1) (qm r p m) (by omega) hfull hck hwk;have l1:=qpU r p m hcm;have l2:=qeR r k true _ p2;have l3:=qeR r f false p p3
    let X:=mvB r p m k1++txB r true (qm r p m) k
    have hX0:X≠[]:=by simp[X,mvB]
    have hXl:X.length=(mvB r p m k1).length+(txB r true (qm r p m) k).length:=List.length_append;have hX1:0<X.length:=List.length_pos_iff.2 hX0
    let T:=40::(X.dropLast++[41,32])
    have hT:T.length=X.length+2:=by simp only[T,List.length_cons,List.length_append,List.length_dropLast,List.length_nil];omega
    have s1:(ByteArray.mk #[40]).size=1:=rfl;have s2:(ByteArray.mk #[41,32]).size=2:=rfl;have hstep:qp ns par r self ((first,mkB s,(i:Int),()),())=some (.inl ((first,mkB (s++T),((i+1:Nat):Int),()),())):=by
      unfold qp;simp only[show decide ((i:Int)<((ns.length:Nat):Int))=true by simp;omega,cond_true];rw[hat,Option.bind_some];simp only[bne_self_eq_false,cond_false];rw[decide_eq_false (by omega),cond_false,hmt,Option.bind_some,hself,Option.bind_some];rw[qaf (by rw[qU,qU];omega),qa,qnG];have hxs:(mkB (mvB r p m k1++txB r true (qm r p m) k)).size=X.length:=qU _;rw[hxs];have e1:w64 (((X.length:Nat):Int)-1)=((X.dropLast.length:Nat):Int):=by
        rw[qe (by omega) (by omega),List.length_dropLast];omega
      rw[e1,show qj 0 ((X.dropLast.length:Nat):Int) X.length=true by simp only[qj,List.length_dropLast,Bool.and_eq_true,decide_eq_true_eq];omega,qa,Int.toNat_natCast];have e2:(mkB (mvB r p m k1++txB r true (qm r p m) k)).extract 0 X.dropLast.length=mkB X.dropLast:=by
        have:=qo4 X.dropLast [X.getLast hX0]
        rwa [List.dropLast_concat_getLast] at this
      rw[e2]
      have e3:(mkB X.dropLast).size=X.length-1:=by rw[qU,List.length_dropLast]
      rw[qaf (by omega),qa,qaf (by rw[ByteArray.size_append];omega),qa,qaf (by simp only[ByteArray.size_append,qU] at e3 ⊢;omega),qa,Option.bind_some];rw[qe (by omega) (by omega)]
      have e4:mkB s++(((ByteArray.mk #[40])++mkB X.dropLast)++(ByteArray.mk #[41,32]))=mkB (s++T):=qdX (by
        rw[qab,qab,qab,bl_mk,bl_mk,bl_mk];show s++(([40]++X.dropLast)++[41,32])=_
        simp[T])
      simp only[e4];rfl
    rw[qn hstep]
    rw[qng hl first _ (szF k) (i+1) (fun t t1 t2=>by
      rcases qlc k (i:Int) (i+1) h2 t t1 t2 with h | h<;>omega) (by omega)]
    rw[alts_L1 hr hl ho hn hs hw hf f (i+1+szF k) (s++T) (by omega) h3 (by omega) (by omega) hcr (by rw[List.length_append];omega)];have e5:s++T++txB r false p f=s++txB r false p (.cons m k1 k f):=by
      show s++T++txB r false p f=s++40::(X.dropLast++41::32::txB r false p f);simp[T]
    rw[e5,show i+1+szF k+szF f=i+szF (.cons m k1 k f) by simp only[szF];omega]
theorem qt4 {r:Rules} (hr:Rng qR r) {ns:List RNode} (hl:ns.length≤100) (ho:Ord ns ns.length) (hn:∀i,i<ns.length→nErr r ns i=0):∀N,LtOK r ns (fixN qal N) N
  | 0,f,_,_,_,h,_,_,_=>absurd h (Nat.not_lt_zero _)
  | N+1,f,par,i,p,hN,hfull,hcl,hw=>by
    have hd:=ho.down;have ih:=qt4 hr hl ho hn N;rw[qkM];generalize fixN qal N=self at ih ⊢;obtain⟨h1,h2,h3,h4⟩:=hfull;have hpl:=qkW hd hn f par i p h1 hw;have hend:∀(first:Int) (s:ByteArray),iterW (qp ns par r self) ((first,s,((ns.length:Nat):Int),()),())=some ((first,s,()),()):=fun first s=>by
      refine qg ?_;unfold qp;simp only[show decide (((ns.length:Nat):Int)<((ns.length:Nat):Int))=false by simp,cond_false]
    have hskip0:=qng (r:=r) hl (self:=self) (par:=par) (-1) (ByteArray.mk #[]) i 0 (fun t _ t2 e=>by
      have:=(h4 t (by omega) e).1
      omega) (by omega)
    have hskip1:∀(first:Int) (s:ByteArray),iterW (qp ns par r self) ((first,s,((i+szF f:Nat):Int),()),())=some ((first,s,()),()):=fun first s=>by
      rw[qng hl first s (ns.length-(i+szF f)) (i+szF f) (fun t t1 t2 e=>by
        have:=(h4 t (by omega) e).2
        omega) (by omega),show i+szF f+(ns.length-(i+szF f))=ns.length by omega,hend]
    unfold qal qfH;simp only[];rw[show iterW (qp ns par r self) ((-1,ByteArray.mk #[],0,()),())=_ from hskip0,Nat.zero_add]
    cases f with
    | nil =>
      have:=hskip1 (-1) (ByteArray.mk #[]);rw[show i+szF .nil=i from rfl] at this;rw[this];rfl
    | cons m k1 k f =>
      obtain⟨s1,s2,s3⟩:=h1.parts;obtain⟨hfk,hck,hcr⟩:=Full.sub hd h1 h2 h3 hcl;obtain⟨⟨hv,ha,h0,hcm⟩,p2,p3⟩:=hpl
      have e:szF (.cons m k1 k f)=1+szF k+szF f:=by simp only[szF];omega
      rw[e] at hN h3
      have hi:i<ns.length:=by omega
      have hwn:=qms hd s1;have hgi:=(qpE (hn i hi)).2;rw[hwn] at hgi;have hwk:=(qpY hw hgi).2.2.2.1;rw[←hwn] at hwk
      have hat:at? ns (i:Int)=some (par,(m,(k1,()))):=by rw[qcS _ _ hi];rw[List.getElem?_eq_getElem hi] at s1;exact s1
      have hmt:=mtext hr hl ho hn s1 hw;have l1:=qpU r p m hcm;have l2:=qeR r k true _ p2;have l3:=qeR r f false p p3;have hself:=ih k (i:Int) (i+1) (qm r p m) (by omega) hfk hck hwk;have hstep:qp ns par r self ((-1,ByteArray.mk #[],(i:Int),()),())=some (.inl (((i:Int),mkB (mvB r p m k1),((i+1:Nat):Int),()),())):=by
        unfold qp;simp only[show decide ((i:Int)<((ns.length:Nat):Int))=true by simp;omega,cond_true];rw[hat,Option.bind_some];simp only[bne_self_eq_false,cond_false];rw[decide_eq_true (by omega),cond_true,hmt,Option.bind_some,Option.bind_some,qe (by omega) (by omega)];rfl
      rw[qn hstep]
      rw[qng hl (i:Int) _ (szF k) (i+1) (fun t t1 t2=>by
        rcases qlc k (i:Int) (i+1) s2 t t1 t2 with h | h<;>omega) (by omega)]
      rw[alts_L1 hr hl ho hn ih hw (first:=(i:Int)) (by omega) f (i+1+szF k) _ (by omega) s3 (by omega) (by omega) hcr (by omega)];rw[show i+1+szF k+szF f=i+szF (.cons m k1 k f) by omega,hskip1,Option.bind_some];simp only[];rw[decide_eq_false (by omega),cond_false,hself,Option.bind_some,qaf (by rw[qU,qU,List.length_append];omega),qa,qnG];show some (mkB (mvB r p m k1++txB r false p f++txB r true (qm r p m) k))=some (mkB (mvB r p m k1++(txB r false p f++txB r true (qm r p m) k)));rw[List.append_assoc]
theorem line_W {r:Rules} (hr:Rng qR r) (c:qu r=0) {f:Fo} (hs:szF f≤100) (hn:∀i,i<(preF (-1) 0 f).length→nErr r (preF (-1) 0 f) i=0):qhH r (preF (-1) 0 f) (-1)=some (mkB (txB r true (qx r) f)):=by
  have hlen:(preF (-1) 0 f).length=szF f:=qdg f _ _;have hd:=qmp f;have hfull:Full (preF (-1) 0 f) (-1) 0 f:=⟨⟨[],by simp⟩,by omega,by omega,fun j hj _=>⟨by omega,by omega⟩⟩
  have h:=qt4 hr (by omega) (pre_ord f) hn (szF f+1) f (-1) 0 (qx r) (Nat.lt_succ_self _) hfull (fun j h1 h2=>by omega) (by
    have:wayM (preF (-1) 0 f) (-1)=[]:=by unfold wayM;rw[qb9 _ (by omega)];rfl
    rw[this]
    exact qtx c)
  exact Le.fix (fun φ ψ hs y=>qfY φ ψ hs y) qfY (szF f+1) _ _ h
theorem sO_app (ns:List Int):∀r:ByteArray,(ns.foldl (fun r n=>r.push (UInt8.ofNat n.toNat)) r).data.toList=r.data.toList++ns.map fun n=>UInt8.ofNat n.toNat:=by
  induction ns with
  | nil=>intro r;simp
  | cons n ns ih =>
    intro r;rw[List.foldl_cons,ih];simp[ByteArray.push]
theorem sO_data (ns:List Int):(strOf ns).data.toList=ns.map fun n=>UInt8.ofNat n.toNat:=by
  unfold strOf;rw[sO_app];rfl
theorem bo_of (s:ByteArray):strOf (ql s)=s:=bt_ext (by
  rw[sO_data];unfold ql;rw[List.map_map];have:((fun n:Int=>UInt8.ofNat n.toNat)∘fun c:UInt8=>(c.toNat:Int))=id:=by
    funext c;simp
  rw[this,List.map_id])
theorem qrg (s:ByteArray):(ql s).length=s.size:=by unfold ql;rw[List.length_map,bt_size]
theorem bO_app (a b:ByteArray):ql a++ql b=ql (a++b):=by
  unfold ql;rw[bt_app,List.map_append]
theorem qpH {t:RTag} (h:TgO t):(tagB t).length≤54:=by
  have h1:=h.klen;have h2:=h.vlen;simp only[tagB,List.length_cons,List.length_append,List.length_nil];omega
theorem qf8:∀(ts:List RTag),(∀t∈ts,TgO t)→(tagsB ts).length≤54*ts.length
  | [],_=>Nat.le_refl _
  | t::ts,h=>by
    have h1:=qpH (h t List.mem_cons_self);have h2:=qf8 ts fun q hq=>h q (List.mem_cons_of_mem _ hq);simp only[tagsB,List.length_append,List.length_cons];omega
theorem qh8 (t:RTag):∀pre:List RTag,tagsB (pre++[t])=tagsB pre++tagB t
  | []=>by simp[tagsB]
  | q::pre=>by
    show tagB q++tagsB (pre++[t])=(tagB q++tagsB pre)++tagB t;rw[qh8 t pre,List.append_assoc]
theorem qtw (t:RTag):((((ByteArray.mk #[91])++t.1)++(ByteArray.mk #[32,34]))++t.2.1)++(ByteArray.mk #[34,93,10])=mkB (tagB t):=qdX (by
  rw[qab,qab,qab,qab,bl_mk];show((([91]++bl t.1)++[32,34])++bl t.2.1)++[34,93,10]=_
  simp[tagB])
theorem qr4 (x:TRec) (hx:x.1.length≤10) (ho:∀t∈x.1,TgO t):∀(ts pre:List RTag),x.1=pre++ts →
    iterW (qbL x) ((((pre.length:Nat):Int),()),(ql (mkB (tagsB pre)),()))=some ((),(ql (mkB (tagsB x.1)),()))
  | [],pre,e=>by
    rw[List.append_nil] at e;refine qg ?_;unfold qbL;simp only[e,show decide (((pre.length:Nat):Int)<((pre.length:Nat):Int))=false by simp,cond_false]
  | t::ts,pre,e=>by
    have hp:pre.length<x.1.length:=by rw[e];simp
    have hat:at? x.1 ((pre.length:Nat):Int)=some t:=by
      rw[qcS _ _ hp];simp[e]
    have h1:=ho t (by rw[e];simp)
    have hk:t.1.size≤8:=by rw[←qfN];exact h1.klen
    have hv:t.2.1.size≤40:=by rw[←qfN];exact h1.vlen
    have htb:=qpH h1;have hpl:=qf8 pre (fun q hq=>ho q (by rw[e];exact List.mem_append_left _ hq));have s1:(ByteArray.mk #[91]).size=1:=rfl;have s2:(ByteArray.mk #[32,34]).size=2:=rfl;have s3:(ByteArray.mk #[34,93,10]).size=3:=rfl;have ih:=qr4 x hx ho ts (pre++[t]) (by rw[e];simp);have hs:qbL x ((((pre.length:Nat):Int),()),(ql (mkB (tagsB pre)),()))=some (.inl ((((((pre++[t]).length:Nat):Int)),()),(ql (mkB (tagsB (pre++[t]))),()))):=by
      unfold qbL;simp only[show decide (((pre.length:Nat):Int)<((x.1.length:Nat):Int))=true by simp;exact hp,cond_true,hat,Option.bind_some];rw[qaf (by omega),qa,qaf (by rw[ByteArray.size_append];omega),qa,qaf (by simp only[ByteArray.size_append];omega),qa,qaf (by simp only[ByteArray.size_append];omega),qa,qtw];rw[qae (by rw[qrg,qU,qU];omega),qa,bO_app,qnG,←qh8]
      rw[show Nat.blt 0 (ql (mkB (tagsB (pre++[t])))).length=true by
        rw[qrg,qU,qh8,List.length_append];simp only[tagB,List.length_cons]
        exact Nat.ble_eq_true_of_le (by omega),qa]
      rw[qe (by omega) (by omega),List.length_append];rfl
    rw[qn hs,ih]
theorem quu (x:TRec) (hx:x.1.length≤10) (ho:∀t∈x.1,TgO t):∀(ts pre:List RTag),x.1=pre++ts →
    iterW (qaA x) ((mkB (tagsB pre),((pre.length:Nat):Int),()),())=some ((mkB (tagsB x.1),()),())
  | [],pre,e=>by
    rw[List.append_nil] at e;refine qg ?_;unfold qaA;simp only[e,show decide (((pre.length:Nat):Int)<((pre.length:Nat):Int))=false by simp,cond_false]
  | t::ts,pre,e=>by
    have hp:pre.length<x.1.length:=by rw[e];simp
    have hat:at? x.1 ((pre.length:Nat):Int)=some t:=by
      rw[qcS _ _ hp];simp[e]
    have h1:=ho t (by rw[e];simp)
    have hk:t.1.size≤8:=by rw[←qfN];exact h1.klen
    have hv:t.2.1.size≤40:=by rw[←qfN];exact h1.vlen
    have htb:=qpH h1;have hpl:=qf8 pre (fun q hq=>ho q (by rw[e];exact List.mem_append_left _ hq));have s1:(ByteArray.mk #[91]).size=1:=rfl;have s2:(ByteArray.mk #[32,34]).size=2:=rfl;have s3:(ByteArray.mk #[34,93,10]).size=3:=rfl;have ih:=quu x hx ho ts (pre++[t]) (by rw[e];simp);have hs:qaA x ((mkB (tagsB pre),((pre.length:Nat):Int),()),())=some (.inl ((mkB (tagsB (pre++[t])),(((pre++[t]).length:Nat):Int),()),())):=by
      unfold qaA;simp only[show decide (((pre.length:Nat):Int)<((x.1.length:Nat):Int))=true by simp;exact hp,cond_true,hat,Option.bind_some];rw[qaf (by omega),qa,qaf (by rw[ByteArray.size_append];omega),qa,qaf (by simp only[ByteArray.size_append];omega),qa,qaf (by simp only[ByteArray.size_append];omega),qa,qtw];rw[qaf (by rw[qU,qU];omega),qa,qnG,←qh8];rw[qe (by omega) (by omega),List.length_append];rfl
    rw[qn hs,ih]
theorem qug {r:Rules} {ts:List RTag} {com:ByteArray} {f:Fo} {i:Nat} (ht:∀t∈ts,TgO t) (htl:ts.length≤10) (hc:CmO com) (hp:PlF r (qx r) f) (hf:szF f≤30) (hi:i<4):(recB r ts com f i).length≤4000:=by
  have h1:=qf8 ts ht;have h2:=qeR r f true _ hp;have h3:=hc.2;obtain⟨_,_,_,h4⟩:=ResB.facts ⟨⟨i,hi,rfl⟩⟩
  have h5:(cmB com).length≤63:=by unfold cmB;split<;>simp only[List.length_cons,List.length_append,List.length_nil]<;>omega
  unfold recB;simp only[List.length_append,List.length_cons,List.length_nil];omega
theorem res_at {i:Nat} (hi:i<4):getD' [(qv).1,((qv).2).1,(((qv).2).2).1,((((qv).2).2).2).1] ((i:Int)).toNat ByteArray.empty=mkB (resL.getD i []):=by
  obtain rfl | rfl | rfl | rfl:i=0∨i=1∨i=2∨i=3:=by omega
  all_goals rfl
theorem res_at2 {i:Nat} (hi:i<4):getD' ([(ByteArray.mk #[42]),(ByteArray.mk #[49,45,48]),(ByteArray.mk #[48,45,49]),(ByteArray.mk #[49,47,50])]) (((i:Int)).toNat) ByteArray.empty=mkB (resL.getD i []):=by
  obtain rfl | rfl | rfl | rfl:i=0∨i=1∨i=2∨i=3:=by omega
  all_goals rfl
def comW (com:ByteArray):List ByteArray:=if bl com=[] then [] else [mkB (123::(bl com++[125]))]
theorem com_cat (com:ByteArray):catW (comW com)=cmB com:=by
  unfold comW cmB;split
  · rfl
  · simp[catW,bl_mk]
theorem qt1 {r:Rules} (hr:Rng qR r) (c:qu r=0) {ts:List RTag} {com:ByteArray} {f:Fo} {i:Nat} (hi:i<4) (ht:∀t∈ts,TgO t) (htl:ts.length≤10) (hc:CmO com) (hp:PlF r (qx r) f) (hf:szF f≤30)
    (hck:qa7 r (ts,(com,(preF (-1) 0 f,((i:Int),()))))=some 0):qbT r (ts,(com,(preF (-1) 0 f,((i:Int),()))))=some (mkB (recB r ts com f i),(0,())):=by
  have hlen:=qug ht htl hc hp hf hi;have h1:=qf8 ts ht
  have hcs:com.size≤60:=by rw[←qfN];exact hc.2
  have s1:(ByteArray.mk #[123]).size=1:=rfl;have s2:(ByteArray.mk #[125]).size=1:=rfl;have s3:(ByteArray.mk #[10]).size=1:=rfl;have l3:=qun (b:=true) hp
  have l4:(comW com).length≤1:=by unfold comW;split<;>simp
  have hne:(comW com++tkW r true (qx r) f)++[mkB (resL.getD i [])]≠[]:=by simp
  have hcat:catW ((comW com++tkW r true (qx r) f)++[mkB (resL.getD i [])])=(cmB com++txB r true (qx r) f)++(resL.getD i []++[32]):=by
    rw[qls,qls,com_cat,qq8];simp[catW,bl_mk]
  have hj:=qmz _ hne;rw[hcat] at hj;have hj2:bl (joinB 32 ((comW com++tkW r true (qx r) f)++[mkB (resL.getD i [])]))=cmB com++(txB r true (qx r) f++resL.getD i []):=by
    have e:(cmB com++txB r true (qx r) f)++(resL.getD i []++[32])=(cmB com++(txB r true (qx r) f++resL.getD i []))++[32]:=by simp
    rw[e] at hj;exact List.append_cancel_right hj
  have hjs:(joinB 32 ((comW com++tkW r true (qx r) f)++[mkB (resL.getD i [])])).size≤4000:=by
    rw[←qfN,hj2];unfold recB at hlen;simp only[List.length_append,List.length_cons,List.length_nil] at hlen ⊢;omega
  have hfin:mkB (tagsB ts)++(joinB 32 ((comW com++tkW r true (qx r) f)++[mkB (resL.getD i [])])++ByteArray.mk #[10])=mkB (recB r ts com f i):=qdX (by
    rw[qab,qab,hj2,bl_mk,bl_mk];show tagsB ts++((cmB com++(txB r true (qx r) f++resL.getD i []))++[10])=recB r ts com f i;unfold recB
    simp)
  have hx9:(bif (!(com.toList==(ByteArray.mk #[]).toList)) then req (qk (ByteArray.mk #[123]) com) (req (qk ((ByteArray.mk #[123])++com) (ByteArray.mk #[125])) (req (room (([]:List ByteArray).length+([(((ByteArray.mk #[123])++com)++(ByteArray.mk #[125]))]).length) 16) (some (((([]:List ByteArray)++[(((ByteArray.mk #[123])++com)++(ByteArray.mk #[125]))]),()),()))))
      else some ((([]:List ByteArray),()),()))=some ((comW com,()),()):=by
    rw[qtJ];unfold comW;by_cases h0:bl com=[]
    · rw[if_pos h0,decide_eq_true h0,Bool.not_true,cond_false]
    · rw[if_neg h0,decide_eq_false h0,Bool.not_false,cond_true,qaf (by omega),qa,qaf (by rw[ByteArray.size_append];omega),qa,qae (by simp),qa,braces];rfl
  unfold qbT;rw[hck,Option.bind_some];simp only[bne_self_eq_false,cond_false];have hl:=qr4 (ts,(com,(preF (-1) 0 f,((i:Int),())))) htl ht ts [] rfl;rw[show iterW (qbL (ts,(com,(preF (-1) 0 f,((i:Int),()))))) ((0,()),(([]:List Int),()))=_ from hl,Option.bind_some];rw[hx9,Option.bind_some];rw[qhQ r hr,if_pos c,Option.bind_some];show Option.bind (qbN (wr r (ts,(com,(preF (-1) 0 f,((i:Int),()))))) (qx r) (-1)) _=_;rw[writer_W hr c rfl (by omega) hp,Option.bind_some];simp only[];rw[qae (by omega),qa];rw[show inb (i:Int) 4=true from inb_iff.2 ⟨by omega,by omega⟩,qa,res_at hi];rw[qae (by simp only[List.length_append,List.length_cons,List.length_nil];omega),qa]
  rw[qpe 32 _ (by simp only[List.length_append,List.length_cons,List.length_nil];omega) (by omega),Option.bind_some];rw[qaf (by omega),qa];rw[qae (by rw[qrg,qU,ByteArray.size_append];omega),qa,bO_app,hfin]
  rw[show Nat.blt 0 (ql (mkB (recB r ts com f i))).length=true by
    rw[qrg,qU];refine Nat.ble_eq_true_of_le ?_;unfold recB;simp only[List.length_append,List.length_cons,List.length_nil]
    omega,qa]
  rw[decide_eq_false (by rw[qrg,qU];omega),cond_false,bo_of]
theorem ref_rec {r:Rules} (hr:Rng qR r) (c:qu r=0) {ts:List RTag} {com:ByteArray} {f:Fo} {i:Nat} (hi:i<4) (ht:∀t∈ts,TgO t) (htl:ts.length≤10) (hc:CmO com) (hp:PlF r (qx r) f) (hf:szF f≤30)
    (hn:∀i,i<(preF (-1) 0 f).length→nErr r (preF (-1) 0 f) i=0):qb1 r (ts,(com,(preF (-1) 0 f,((i:Int),()))))=some (mkB (recB r ts com f i)):=by
  have h1:=qf8 ts ht;have h2:=qeR r f true _ hp
  have hcs:com.size≤60:=by rw[←qfN];exact hc.2
  have h5:(cmB com).length≤63:=by unfold cmB;have:=hc.2;split<;>simp only[List.length_cons,List.length_append,List.length_nil]<;>omega
  obtain⟨_,_,_,h4⟩:=ResB.facts ⟨⟨i,hi,rfl⟩⟩;have s1:(ByteArray.mk #[123]).size=1:=rfl;have s2:(ByteArray.mk #[125,32]).size=2:=rfl;have s3:(ByteArray.mk #[10]).size=1:=rfl;unfold qb1;have hl:=quu (ts,(com,(preF (-1) 0 f,((i:Int),())))) htl ht ts [] rfl;rw[show iterW (qaA (ts,(com,(preF (-1) 0 f,((i:Int),()))))) ((ByteArray.mk #[],0,()),())=_ from hl,Option.bind_some]
  have hx5:(bif (!(com.toList==(ByteArray.mk #[]).toList)) then req (qk (ByteArray.mk #[123]) com) (req (qk ((ByteArray.mk #[123])++com) (ByteArray.mk #[125,32])) (req (qk (mkB (tagsB ts)) (((ByteArray.mk #[123])++com)++(ByteArray.mk #[125,32]))) (some (((mkB (tagsB ts)++(((ByteArray.mk #[123])++com)++(ByteArray.mk #[125,32]))),()),()))))
      else some ((mkB (tagsB ts),()),()))=some ((mkB (tagsB ts++cmB com),()),()):=by
    rw[qtJ];unfold cmB;by_cases h0:bl com=[]
    · rw[if_pos h0,decide_eq_true h0,Bool.not_true,cond_false,List.append_nil]
    · rw[if_neg h0,decide_eq_false h0,Bool.not_false,cond_true,qaf (by omega),qa,qaf (by rw[ByteArray.size_append];omega),qa,qaf (by rw[qU];simp only[ByteArray.size_append];omega),qa]
      have e:mkB (tagsB ts)++(((ByteArray.mk #[123])++com)++(ByteArray.mk #[125,32]))=mkB (tagsB ts++123::(bl com++[125,32])):=qdX (by
        rw[qab,qab,qab,bl_mk,bl_mk];show tagsB ts++(([123]++bl com)++[125,32])=_
        simp)
      rw[e]
  rw[hx5,Option.bind_some,line_W hr c (by omega) hn,Option.bind_some];simp only[];rw[qaf (by rw[qU,qU,List.length_append];omega),qa];rw[show inb (i:Int) ([(ByteArray.mk #[42]),(ByteArray.mk #[49,45,48]),(ByteArray.mk #[48,45,49]),(ByteArray.mk #[49,47,50])]).length=true from inb_iff.2 ⟨by omega,by show(i:Int)<4;omega⟩,qa,res_at2 hi,qnG];rw[qaf (by simp only[qU,List.length_append];omega),qa,qnG,qaf (by simp only[qU,List.length_append];omega),qa];rw[show(ByteArray.mk #[10])=mkB [10] from rfl,qnG];unfold recB;simp
theorem nErr_twin {r:Rules} {ns:List RNode} {i:Nat} (h:nErr r ns i=0):twinB ns i=false:=by
  unfold nErr at h;by_cases c1:cErr (rcom ns i)=0
  rotate_left
  · rw[if_pos c1] at h;exact absurd h c1
  rw[if_neg (fun h=>h c1)] at h;by_cases c2:ordB ns i=false
  · rw[if_pos c2] at h;cases h
  rw[if_neg c2] at h;by_cases c3:twinB ns i=true
  · rw[if_pos c3] at h;cases h
  simpa using c3
theorem qqG {r:Rules} {x:Rec} (h:qiC r x=0):qu r=0∧x.1.length≤10∧(∀t∈x.1,TgO t)∧(0≤x.2.2.2.1∧x.2.2.2.1≤3)∧CmO x.2.1∧∀i,i<x.2.2.1.length→nErr r x.2.2.1 i=0:=by
  unfold qiC at h;by_cases c1:qu r=0
  rotate_left
  · rw[if_pos c1] at h;exact absurd h c1
  rw[if_neg (fun h=>h c1)] at h;by_cases c2:10<x.1.length
  · rw[if_pos c2] at h;cases h
  rw[if_neg c2] at h;by_cases c3:qau (tErr x.1) x.1.length=0
  rotate_left
  · rw[if_pos c3] at h;exact absurd h c3
  rw[if_neg (fun h=>h c3)] at h;by_cases c4:x.2.2.2.1<0∨3<x.2.2.2.1
  · rw[if_pos c4] at h;cases h
  rw[if_neg c4] at h;by_cases c5:cErr x.2.1=0
  rotate_left
  · rw[if_pos c5] at h;exact absurd h c5
  rw[if_neg (fun h=>h c5)] at h;refine⟨c1,by omega,fun t ht=>?_,by omega,com_ok c5,qbs h⟩;obtain⟨i,hi,rfl⟩:=List.mem_iff_getElem.1 ht;have:=qbs c3 i hi;rw[qsL _ _ hi] at this;exact tag_ok this
theorem rec_shape {r:Rules} {x:Rec} (h:qiC r x=0) (h30:x.2.2.1.length≤30):∃(f:Fo) (i:Nat),x=(x.1,(x.2.1,(preF (-1) 0 f,((i:Int),()))))∧i<4∧szF f≤30∧PlF r (qx r) f∧∀i,i<(preF (-1) 0 f).length→nErr r (preF (-1) 0 f) i=0:=by
  obtain⟨c1,c2,c3,c4,c5,c6⟩:=qqG h;have ho:Ord x.2.2.1 x.2.2.1.length:=fun i hi=>qmt (c6 i hi);obtain⟨f,hf,_⟩:=qu5 ho (fun j hj=>nErr_twin (c6 j hj));obtain⟨ts,com,ns,ri,u⟩:=x;simp only at hf c4 c6 h30;subst hf;obtain⟨i,hi⟩:=Int.eq_ofNat_of_zero_le c4.1;subst hi
  have hs:szF f≤30:=by rw[qdg] at h30;exact h30
  refine⟨f,i,rfl,by omega,hs,?_,c6⟩
  exact qkW (qmp f) c6 f (-1) 0 _ ⟨[],by simp⟩ (by
    have:wayM (preF (-1) 0 f) (-1)=[]:=by unfold wayM;rw[qb9 _ (by omega)];rfl
    rw[this]
    exact qtx c1)
abbrev demoM:Mv:=(-1,(0,(0,())))
abbrev demoF:Fo := .cons demoM (ByteArray.mk #[]) .nil .nil
def demoX:Rec:=([],(ByteArray.mk #[],([(-1,(demoM,(ByteArray.mk #[],())))],(0,()))))
theorem demoX_rng:Rng tyRec demoX:=qjl _ _ (by decide +kernel)
theorem demoX_ok:qiC qT demoX=0:=by decide +kernel
theorem qrS:qh qT (qx qT) demoM=true:=by decide +kernel
theorem demo_open:qaJ qT (qx qT)=0:=by decide +kernel
theorem qu9:recB qT [] (ByteArray.mk #[]) demoF 0=[83,64,97,49,32,42,10]:=by decide +kernel
theorem no_com:CmO (ByteArray.mk #[]):=⟨fun b hb=>(by cases hb),by decide⟩
theorem demo_text:qbT qT demoX=some (ByteArray.mk #[83,64,97,49,32,42,10],(0,())):=by
  have hck:qa7 qT demoX=some 0:=by rw[qnD tic_rng demoX demoX_rng (by decide),demoX_ok]
  have:=qt1 (ts:=[]) (com:=ByteArray.mk #[]) (f:=demoF) (i:=0) tic_rng tic_ok (by decide) (fun t ht=>by cases ht) (by decide) no_com ⟨⟨qnA (qcb tic_ok),qrS,demo_open,no_com⟩,trivial,trivial⟩ (by decide) hck;rw[qu9] at this;exact this
theorem qry:qgy=some true:=by
  unfold qgy;have h:qbT ((qT).1,(((qT).2).1,((((qT).2).2).1,(((((qT).2).2).2).1,((((((qT).2).2).2).2).1,(((((((qT).2).2).2).2).2).1,((((((((qT).2).2).2).2).2).2).1,(((((((((qT).2).2).2).2).2).2).2).1,((((((((((qT).2).2).2).2).2).2).2).2).1,(((((((((((qT).2).2).2).2).2).2).2).2).2).1,((((((((((((qT).2).2).2).2).2).2).2).2).2).2).1,()))))))))))) ([],((ByteArray.mk #[]),([((-1:Int),((qkU (0:Int)),((ByteArray.mk #[]),())))],((0:Int),()))))=_:=demo_text;rw[h,Option.bind_some];decide +kernel
theorem qtj (x:Rec):qg5 x=some (x.1,(x.2.1,(x.2.2.1.take 30,x.2.2.2))):=by
  unfold qg5;by_cases h:30<((x.2.2.1.length:Nat):Int)
  · simp only[if_pos h];rw[show qj 0 30 x.2.2.1.length=true by simp only[qj,Bool.and_eq_true,decide_eq_true_eq];omega,qa];rfl
  · simp only[if_neg h];rw[show qj 0 ((x.2.2.1.length:Nat):Int) x.2.2.1.length=true by simp only[qj,Bool.and_eq_true,decide_eq_true_eq];omega,qa,Int.toNat_natCast,List.take_length,List.drop_zero,List.take_of_length_le (by omega)]
theorem law3RecordWrites_true (r:Rules) (x:Rec) (hr:Rng qR r) (hx:Rng tyRec x):qdJ r x=some true:=by
  unfold qdJ;obtain⟨y,hy,h30,hyr⟩:∃y:Rec,qg5 x=some y∧y.2.2.1.length≤30∧Rng tyRec y:=by
    refine⟨_,qtj x,?_,⟨hx.1,hx.2.1,⟨?_,fun d hd=>hx.2.2.1.2 d (List.mem_of_mem_take hd)⟩,hx.2.2.2⟩⟩
    · show(x.2.2.1.take 30).length≤30;rw[List.length_take];omega
    · have:=hx.2.2.1.1;show(x.2.2.1.take 30).length≤_;rw[List.length_take];exact Nat.le_trans (Nat.min_le_right _ _) this
  rw[qry,Option.bind_some,hy];simp only[Bool.not_true,cond_false,Option.bind_some];cases hg:qhv r
  rotate_left
  · rfl
  rw[cond_false];have hck:=qnD hr y hyr h30;have hft:=qu6 hr y hyr h30;by_cases c:qiC r y=0
  rotate_left
  · have ht:qbT r y=some (ByteArray.mk #[],(qiC r y,())):=by
      unfold qbT;rw[hck,Option.bind_some,bne_t c,cond_true]
    rw[ht,Option.bind_some,hft,Option.bind_some,bne_t c,cond_true];simp
  · rw[c] at hck hft;obtain⟨c1,c2,c3,c4,c5,c6⟩:=qqG c;obtain⟨f,i,e,hi,hs,hp,hn⟩:=rec_shape c h30;rw[e] at hck hft ⊢;have hlen:=qug c3 c2 c5 hp hs hi;have htx:=qt1 hr c1 hi c3 c2 c5 hp hs hck;have hrf:=ref_rec hr c1 hi c3 c2 c5 hp hs hn;have hrd:=read_rec hr c1 hi c3 c2 c5 hp hs (by omega) hck;rw[htx,Option.bind_some,hft,Option.bind_some,bne_self_eq_false,cond_false,hrf,Option.bind_some];rw[decide_eq_false (by rw[qU];omega),cond_false,hrd,Option.bind_some];have hft2:qa2 r (y.1,y.2.1,preF (-1) 0 f,(i:Int),())=some 0:=hft;simp only[hft2,hrf,gopt,beq_self_eq_true,Bool.and_self,cond_true,Option.bind_some,Bool.true_and]
end Go.Proofs.YthidcmjpbokeeaaGreatDoor
