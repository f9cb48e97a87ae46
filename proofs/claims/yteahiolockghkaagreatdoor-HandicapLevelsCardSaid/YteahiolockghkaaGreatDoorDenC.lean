/- Operations one after the other, calls that are entered. No condition of its own. -/
import Derived.Test.YteahiolockghkaaGreatDoorDenB
namespace Go.Den
open Go.Eng
set_option linter.unusedVariables false
set_option linter.unusedSectionVars false
set_option linter.unusedSimpArgs false
variable [CT : Ctx]

def Cl (σ:AState):Prop:=σ.gs=0∧σ.known=[]
structure Post {α:Type} (F:Fr) (σ:AState) (γ:Gh) (w:World) (K:Kt α) (res:α) (Q:Exit→Act→World→Prop):Prop where
 n:∀σ' γ' a' w',K.n σ'=some res→Rel F σ' γ' a' w'→Cl σ'→Step σ γ w σ' γ' w'→Q .normal a' w'
 x:∀i σ' γ' a' w',K.x i σ'=some res→Rel F σ' γ' a' w'→Cl σ'→Step σ γ w σ' γ' w'→Q (.exit i) a' w'
 r:∀σ' γ' a' w',K.r σ'=some res→Rel F σ' γ' a' w'→Cl σ'→Step σ γ w σ' γ' w'→Q .ret a' w'
def RcOK {α:Type} (P:Program) (rc:Ann→Code→AState→Kt α→Option α):Prop :=
 ∀ann c σ K res,rc ann c σ K=some res→∀F γ a w Q,Rel F σ γ a w→Cl σ→Post F σ γ w K res Q→c.wp P Q a w

section
variable {P : Program} {env : Env} {F : Fr} {σ : AState} {γ : Gh} {a : Act} {w : World} {ops : Array Oper} {o : Oper} {α : Type} {res : α} {Q : Exit → Act → World → Prop} [DqAll P]

theorem qnC {d:Nat} {b:Bool} {tg:Tag} (h:get σ.slots d=some (tg,.c (.v (.bool b)))) (t:Nat):get (σ.fix d b).slots t=if d=t then some ([],.c (.v (.bool b))) else get σ.slots t:=by
 simp only[AState.fix];rw[qU]
theorem qpM {d:Nat} {b:Bool} {tg:Tag} (h:get σ.slots d=some (tg,.c (.v (.bool b)))) (x:Nat×Bool):litB (σ.fix d b) x=litB σ x:=by
 simp only[litB,qnC h];by_cases e:d=x.1
 ·rw[if_pos e,←e,h]
 ·rw[if_neg e]
theorem Rel.fix (r:Rel F σ γ a w) {d:Nat} {b:Bool} {tg:Tag} (h:get σ.slots d=some (tg,.c (.v (.bool b)))) (hk:subT σ.known tg []=true):Rel F (σ.fix d b) γ a w:=by
 have hT:∀tg,tagT (σ.fix d b) tg↔tagT σ tg:=fun tg=>by simp only[tagT,qpM h]
 have hd:tagT σ tg:=fun x hx=>(qnx hk x hx).elim (fun hk=>(r.known x hk).1) (fun h=>by cases h);refine⟨r.size,r.defers,fun t tg' pv ht hh=>?_,fun t tg' pv ht hh=>?_,fun t tg' pv ht x hx=>?_,fun x hx=>?_,r.o⟩
 ·rw[qnC h] at ht;by_cases e:d=t
  ·rw[if_pos e] at ht;cases ht;subst e;exact r.slots d tg _ h hd
  ·rw[if_neg e] at ht;exact r.slots t tg' pv ht ((hT tg').1 hh)
 ·rw[qnC h] at ht;by_cases e:d=t
  ·rw[if_pos e] at ht;cases ht;exact absurd (fun x hx=>by cases hx) hh
  ·rw[if_neg e] at ht;exact r.off t tg' pv ht (fun h'=>hh ((hT tg').2 h'))
 ·rw[qnC h] at ht;by_cases e:d=t
  ·rw[if_pos e] at ht;cases ht;cases hx
  ·rw[if_neg e] at ht;exact qef (r.gs t tg' pv ht x hx)
 ·simp only[AState.fix] at hx;rcases List.mem_cons.1 hx with rfl | hx
  ·refine⟨?_,qnl _ _⟩;rw[qpM h];simp only[litB,h]
   cases b<;>rfl
  ·exact⟨by rw[qpM h];exact(r.known x hx).1,qef (r.known x hx).2⟩
theorem Step.fix {d:Nat} {b:Bool} {tg:Tag} (h:get σ.slots d=some (tg,.c (.v (.bool b)))):Step σ γ w (σ.fix d b) γ w :=
 ⟨rfl,rfl,rfl,fun t e _ he=>by
  unfold kf at he ⊢;rw[qnC h];by_cases e1:d=t
  ·subst e1;rw[h] at he;simp only[Option.bind_some,chk_some,Option.some.injEq] at he;obtain⟨h1,rfl⟩:=he;simp only[Bool.and_eq_true,List.isEmpty_iff] at h1;rw[if_pos rfl];simp[chk,h1.1,stable]
  ·rw[if_neg e1];exact he,fun _ _ _=>rfl,Keep.refl _ _ _⟩

theorem qea:∀ {vs:List PV} {i t:Nat} {tg:Tag} {pv:PV},get (qbi i vs) t=some (tg,pv)→tg=[]∧i≤t∧vs[t-i]?=some pv
 | [],i,t,tg,pv,h=>by simp[qbi,get] at h
 | v::r,i,t,tg,pv,h=>by
  simp only[qbi] at h;rw[qU] at h;split at h
  ·rename_i e;subst e;cases h;simp
  ·rename_i e;obtain⟨h1,h2,h3⟩:=qea h;refine⟨h1,by omega,?_⟩;rw[show t-i=(t-(i+1))+1 by omega];simpa using h3
theorem PRL.length {objs:List OB}:∀ {vs:List PV} {us:List Value},PRL objs γ w vs us→us.length=vs.length
 | [],_,h=>by simp[PRL] at h;simp[h]
 | _::_,_,⟨_,_,e,_,h⟩=>by simp[e,PRL.length h]
theorem PRL.get {objs:List OB}:∀ {vs:List PV} {us:List Value} {i:Nat} {v:PV},PRL objs γ w vs us→vs[i]?=some v→∃u,us[i]?=some u∧PR objs γ w v u
 | [],_,_,_,_,h=>by simp at h
 | _::_,_,0,_,⟨u,q,e,h1,_⟩,h=>by simp at h;subst h;exact⟨u,by simp[e],h1⟩
 | _::_,_,i+1,_,⟨u,q,e,_,h2⟩,h=>by
  obtain⟨x,h3,h4⟩:=PRL.get h2 (by simpa using h);exact⟨x,by simpa[e] using h3,h4⟩
theorem PRL.append {objs:List OB}:∀ {l r:List PV} {us vs:List Value},PRL objs γ w l us→PRL objs γ w r vs→PRL objs γ w (l++r) (us++vs)
 | [],_,_,_,h,g=>by simp[PRL] at h;simpa[h] using g
 | _::_,_,_,vs,⟨v,q,e,h1,h2⟩,g=>⟨v,q++vs,by simp[e],h1,PRL.append h2 g⟩
theorem qrd {objs:List OB}:∀ {caps:List (Nat×Nat)} {l:List Value},capsLt objs.length caps→PtrL γ caps l→PRL objs γ w (ptrs caps) l
 | [],_,_,h=>h
 | (o,off)::r,_,hb,⟨b,q,e,h1,h2⟩=>⟨_,q,e,⟨hb.1,b,h1,rfl⟩,qrd hb.2 h2⟩
theorem qmD:∀(caps:List (Nat×Nat)),(ptrs caps).length=caps.length
 | []=>rfl
 | _::r=>by simp[ptrs,qmD r]
theorem ql8 (r:Rel F σ γ a w) {n:Nat} {vs:List PV} {args:List Value} (hv:PRL σ.objs γ w vs args) (hn:vs.length≤n) :
  Rel F ⟨n,qbi 0 vs,σ.objs,0,σ.prO,0,[]⟩ γ { tmps:=args.toArray++Array.replicate (n-args.toArray.size) undef,defers:=[] } w:=by
 have hlen:=hv.length;refine⟨by simp;omega,fun d hd=>(by cases hd),fun t tg pv ht _=>?_,fun t tg pv ht hn=>?_,fun t tg pv ht x hx=>?_,fun x hx=>(by cases hx),r.o⟩
 ·obtain⟨rfl,_,h3⟩:=qea ht;rw[Nat.sub_zero] at h3;obtain⟨u,hu,hp⟩:=hv.get h3;refine⟨u,?_,hp⟩
  have hlt:t<args.toArray.size:=by simpa using qw hu
  rw[Array.getElem?_append_left hlt];simpa using hu
 ·obtain⟨rfl,_,_⟩:=qea ht;exact absurd (qj _) hn
 ·obtain⟨rfl,_,_⟩:=qea ht;cases hx
theorem qeL (r:Rel F σ γ a w):∀ {l:List ResultVar} {us:List PV},resOf P σ l=some us→∃vals,PRL σ.objs γ w us vals∧l.length=vals.length∧∀(i:Nat) (x:ResultVar) (y:Value),l[i]?=some x→vals[i]?=some y→(qnG a.tmps x).run P w = .ok y w
 | [],us,h=>by simp only[resOf,Option.some.injEq] at h;subst h;exact⟨[],rfl,rfl,fun i x y hx=>by simp at hx⟩
 | .tmp t::l,us,h=>by
  simp only[resOf,Option.bind_eq_some_iff,chk_some,Option.some.injEq] at h;obtain⟨⟨tg,pv⟩,h1,h2,vs,h3,rfl⟩:=h
  have htg:tg=[]:=by simpa using h2
  subst htg;obtain⟨v,hv,hp⟩:=r.slots t [] pv h1 (qj _);obtain⟨vals,h4,h5,h6⟩:=qeL r h3;refine⟨v::vals,⟨v,vals,rfl,hp,h4⟩,by simp[h5],fun i x y hx hy=>?_⟩
  cases i with
  | zero =>
   simp at hx hy;subst hx;subst hy;simp[qnG,Array.getD_eq_getD_getElem?,hv]
  | succ i=>exact h6 i x y (by simpa using hx) (by simpa using hy)
 | .cell b t::l,us,h=>by
  simp only[resOf,Option.bind_eq_some_iff,chk_some,Option.some.injEq] at h;obtain⟨⟨tg,pv⟩,h1,h2,u,h7,vs,h3,rfl⟩:=h
  have htg:tg=[]:=by simpa using h2
  subst htg;obtain⟨v,hv,hp⟩:=r.slots b [] pv h1 (qj _);obtain⟨ad,y0,e1,hl,hu⟩:=qnq r.o h7 hp;obtain⟨vals,h4,h5,h6⟩:=qeL r h3;refine⟨y0::vals,⟨y0,vals,rfl,hu,h4⟩,by simp[h5],fun i x y hx hy=>?_⟩
  cases i with
  | zero =>
   simp at hx hy;subst hx;subst hy;have:=hl w (Chg.refl _ _);simp[qnG,Array.getD_eq_getD_getElem?,hv,e1,asAddr,this]
  | succ i=>exact h6 i x y (by simpa using hx) (by simpa using hy)
theorem qhV {fn:Func} {vals:List Value} (hl:fn.results.toList.length=vals.length) (h:∀(i:Nat) (x:ResultVar) (y:Value),fn.results.toList[i]?=some x→vals[i]?=some y→(qnG a.tmps x).run P w = .ok y w) :
  (results fn a.tmps).run P w = .ok (qg5 vals) w:=by
 have hm:=qfB (P:=P) (w:=w) (qnG a.tmps) fn.results.toList vals h hl;have hm':(fn.results.mapM (qnG a.tmps)).run P w = .ok vals.toArray w:=by
  rw[Array.mapM_eq_mapM_toList];simp[hm]
 have hf:results fn a.tmps=(do let us ←fn.results.mapM (qnG a.tmps);pure (if h:us.size=1 then us[0] else .tuple us)):=by
  unfold results;congr 1
 rw[hf];simp only[Sem.run_bind,hm',Result.andThen_ok,Sem.run_pure];congr 1
 match vals with
 | []=>rfl
 | [v]=>rfl
 | _::_::_=>simp[qg5]
theorem qmV {objs:List OB}:∀ {us:List PV} {l:List PW} {vals:List Value},pwOf us=some l→PRL objs γ w us vals→PWL objs γ w l vals
 | [],l,vals,h,hv=>by simp only[pwOf,Option.some.injEq] at h;subst h;exact hv
 | u::us,l,vals,h,⟨v,q,e,h1,h2⟩=>by
  cases u with
  | c x =>
   simp only[pwOf,Option.bind_eq_some_iff,Option.some.injEq] at h;obtain⟨l',h3,rfl⟩:=h;exact⟨v,q,e,h1,qmV h3 h2⟩
  | agg x =>
   simp only[pwOf,Option.bind_eq_some_iff,Option.some.injEq] at h;obtain⟨l',h3,rfl⟩:=h;exact⟨v,q,e,h1,qmV h3 h2⟩
  | _=>simp[pwOf] at h
theorem qtp {objs:List OB} {us:List PV} {u:PV} {vals:List Value} (h:qsz us=some u) (hv:PRL objs γ w us vals):PR objs γ w u (qg5 vals):=by
 unfold qsz at h;split at h
 ·cases h;obtain⟨v,q,rfl,h1,h2⟩:=hv;simp only[PRL] at h2;subst h2;exact h1
 ·rename_i hne;simp only[Option.bind_eq_some_iff,Option.some.injEq] at h;obtain⟨l,h1,rfl⟩:=h;have hp:=qmV h1 hv;have hlen:=hv.length;have:qg5 vals = .tuple vals.toArray:=by
   match vals,us with
   | [v],[u]=>exact absurd rfl (hne u)
   | [v],[]=>simp at hlen
   | [v],_::_::_=>simp at hlen
   | [],_=>rfl
   | _::_::_,_=>rfl
  rw[this];exact⟨_,rfl,hp⟩
theorem qf7:∀(s:Slots) (t:Nat),get (dropU s) t=(get s t).bind fun e=>bif stable e.2 then some e else none
 | [],t=>rfl
 | (i,none)::r,t=>by
  simp only[dropU];rw[qU,qU];split
  ·rfl
  ·exact qf7 r t
 | (i,some (tg,pv))::r,t=>by
  simp only[dropU];rw[qU,qU];split
  ·simp
  ·exact qf7 r t
theorem qpd (x:Nat×Bool) {objs:List OB}:litB { σ with objs:=objs,slots:=dropU σ.slots } x=litB σ x:=by
 simp only[litB,qf7]
 cases hg:get σ.slots x.1 with
 | none=>rfl
 | some e =>
  obtain⟨tg,pv⟩:=e
  cases pv<;>simp[stable]
theorem Rel.dropU (r:Rel F σ γ a w) {objs':List OB} {γ':Gh} {w':World} (K:Keep σ.objs γ w objs' γ' w' σ.objs.length) (ho:ORel F objs' γ' w'):Rel F { σ with objs:=objs',slots:=dropU σ.slots } γ' a w':=by
 have hget:∀ {t tg pv},get (Den.dropU σ.slots) t=some (tg,pv)→get σ.slots t=some (tg,pv)∧stable pv=true:=fun {t tg pv} h=>by
  rw[qf7] at h;obtain⟨e,h1,h2⟩:=Option.bind_eq_some_iff.1 h;cases hs:stable e.2
  ·rw[hs] at h2;cases h2
  ·rw[hs] at h2;simp only[cond_true,Option.some.injEq] at h2;subst h2;exact⟨h1,hs⟩
 have hT:∀tg,tagT { σ with objs:=objs',slots:=Den.dropU σ.slots } tg↔tagT σ tg:=fun tg=>by simp only[tagT,qpd]
 refine⟨r.size,r.defers,fun t tg pv ht hh=>?_,fun t tg pv ht hh=>?_,fun t tg pv ht x hx=>?_,fun x hx=>?_,ho⟩
 ·obtain⟨h1,h2⟩:=hget ht;obtain⟨v,h3,h4⟩:=r.slots t tg pv h1 ((hT tg).1 hh);exact⟨v,h3,PR.keep K h4.below (.inl h2) h4⟩
 ·exact r.off t tg pv (hget ht).1 (fun h'=>hh ((hT tg).2 h'))
 ·exact r.gs t tg pv (hget ht).1 x hx
 ·exact⟨by rw[qpd];exact(r.known x hx).1,(r.known x hx).2⟩
theorem kf_dropU (s:Slots) (t:Nat):kf (dropU s) t=kf s t:=by
 unfold kf;rw[qf7]
 cases hg:get s t with
 | none=>rfl
 | some e =>
  cases hs:stable e.2<;>simp[hs,chk]
theorem qqw (hE:EnvOK P env) (r:Rel F σ γ a w) {q:FuncId×Func×Code×List PV} (h:inlined P σ env o=some q):∃args:List Value,execOp a.eval o=callFunc q.1 args.toArray∧bodied P q.1=true∧P.funcs[q.1]?=some q.2.1∧q.2.1.body=some q.2.2.1∧PRL σ.objs γ w q.2.2.2 args∧q.2.2.2.length≤q.2.1.ntmps:=by
 unfold inlined at h;split at h
 ·rename_i f args ats ho;simp only[Option.bind_eq_some_iff,chk_some,Option.some.injEq] at h;obtain⟨p,h1,⟨g,caps⟩,h2,fn,h3,hbo,c,h4,vs,h5,h6,rfl⟩:=h;obtain⟨hcl,l,hfv,hpl⟩:VR σ.objs γ w (.fn g caps) (a.eval f):=by
   have:=qf r (qj σ) h1;rw[qc7 h2] at this;exact this
  have hv:=(qnF r (qj σ) h5).append (qrd (w:=w) hcl hpl);refine⟨_,qdV ho hfv,hbo,hE.fn g fn h3,h4,hv,?_⟩;have:=Nat.le_of_ble_eq_true h6;simp only[List.length_append,qmD];exact this
 ·cases h
theorem qlm (hE:EnvOK P env) {rc:Ann→Code→AState→Kt α→Option α} (hrc:RcOK P rc) (r:Rel F σ γ a w) {ann:Ann} {k:AState→Option α} (h:quT P env rc ann σ o k=some res):EfR P F σ γ a w o k res Q:=by
 simp only[quT,Option.bind_eq_some_iff] at h;obtain⟨q,h1,h2⟩:=h;obtain⟨args,hx,hbo,hf,hb,hv,hn⟩:=qqw hE r h1;have r0:=ql8 (n:=q.2.1.ntmps) r hv hn;unfold EfR Oper.wp;rw[hx,qaP hbo,Oper.upon_enter]
 have hlast:∀σ' γ' a' w',((resOf P σ' q.2.1.results.toList).bind fun us=>(qsz us).bind fun u=>(AState.putO { σ with objs:=σ'.objs,slots:=dropU σ.slots } o.dst [] u).bind k)=some res→Rel F σ' γ' a' w'→Step ⟨q.2.1.ntmps,qbi 0 q.2.2.2,σ.objs,0,σ.prO,0,[]⟩ γ w σ' γ' w' →
   ∃v,(results q.2.1 a'.tmps).run P w' = .ok v w'∧∃σ2 γ2,k σ2=some res∧Rel F σ2 γ2 (a.put o.dst v) w'∧Step σ γ w σ2 γ2 w':=by
  intro σ' γ' a' w' hk r' s';simp only[Option.bind_eq_some_iff] at hk;obtain⟨us,h3,u,h4,σ2,h5,h6⟩:=hk;obtain⟨vals,h7,h8,h9⟩:=qeL (P:=P) r' h3;refine⟨_,qhV h8 h9,σ2,γ',h6,?_,?_⟩
  ·exact(r.dropU s'.keep r'.o).putO h5 (fun x hx=>by cases hx) (fun _=>qtp h4 h7) (fun hn=>absurd (qj _) hn)
  ·have s1:Step σ γ w { σ with objs:=σ'.objs,slots:=dropU σ.slots } γ' w':=⟨rfl,rfl,rfl,fun t e _ he=>by rw[kf_dropU];exact he,s'.objs,s'.keep⟩;exact s1.trans (Step.putO h5)
 refine Calls.mono (R:=fun e w'=>∃v,e = .returned v∧∃σ2 γ2,k σ2=some res∧Rel F σ2 γ2 (a.put o.dst v) w'∧Step σ γ w σ2 γ2 w') (calls_of_wp_defers hf hb ?_) fun e w' hh=>?_
 ·refine hrc _ _ _ _ _ h2 F γ _ w _ r0 ⟨rfl,rfl⟩ ⟨fun σ' γ' a' w' hk r' _ s'=>?_,fun i σ' γ' a' w' hk=>(by cases hk),fun σ' γ' a' w' hk r' _ s'=>?_⟩
  ·refine qdD r'.defers fun w'' hch=>?_;obtain⟨v,h4,h5⟩:=hlast σ' γ' a' w'' hk (r'.ext hch) (s'.trans (Step.ext hch));exact⟨v,h4,v,rfl,h5⟩
  ·refine qdD r'.defers fun w'' hch=>?_;obtain⟨v,h4,h5⟩:=hlast σ' γ' a' w'' hk (r'.ext hch) (s'.trans (Step.ext hch));exact⟨v,h4,v,rfl,h5⟩
 ·obtain⟨v,rfl,h5⟩:=hh;exact h5

theorem qaq (hE:EnvOK P env) {rc:Ann→Code→AState→Kt α→Option α} (hrc:RcOK P rc) {k:AState→Option α}:∀(m:Nat) (l:List Oper) {ann:Ann} {σ:AState} {γ:Gh} {a:Act} {w:World},Rel F σ γ a w→qgy P env rc ops m l ann σ k=some res →
  (∀σ' γ' a' w',k σ'=some res→Rel F σ' γ' a' w'→Step σ γ w σ' γ' w'→Q .normal a' w')→wpList P ops Q l a w
 | m,[],ann,σ,γ,a,w,r,h,hQ=>by
  simp only[qgy] at h;exact hQ σ γ a w h r (Step.refl _ _ _)
 | 0,o::l,ann,σ,γ,a,w,r,h,hQ=>by simp[qgy] at h
 | m+1,o::l,ann,σ,γ,a,w,r,h,hQ=>by
  simp only[qgy,Option.bind_eq_some_iff] at h;obtain⟨q,h1,h2⟩:=h;obtain⟨hsk,hw,hgs⟩:=qhk r h1;have r1:=r.gsUp q.2.2;have s1:=Step.gsUp σ γ w q.2.2;by_cases hq:q.2.1=true
  ·simp only[hq,cond_true,Option.bind_eq_some_iff] at h2;obtain⟨σ',h3,h4⟩:=h2;obtain⟨h5,h6⟩:=hsk hq;unfold wpList;rw[if_neg (by rw[h5];simp)];exact qaq hE hrc m l (r1.putO h3 hgs (fun hT=>absurd hT h6) (fun _=>rfl)) h4 fun σ2 γ2 a2 w2 hk r2 s2=>hQ σ2 γ2 a2 w2 hk r2 (s1.trans ((Step.putO h3).trans s2))
  ·have hq:=Bool.eq_false_iff.2 hq;simp only[hq,cond_false] at h2;have hw:=hw hq;by_cases hst:qkf P env σ q.1 o=true
   ·simp only[hst,cond_true] at h2;obtain⟨hA,hB⟩:=qfC hE r h2;unfold wpList;split
    ·rename_i hwt;have hT:=hw.1 hwt;obtain⟨pv,v,hqu,hp,h5⟩:=hB hT;obtain⟨σ',h6,h7⟩:=Option.bind_eq_some_iff.1 h5;refine .inl (Oper.wp_of_quiet (C:=Chg [] w) (K:=fun a'=>a'=a.put o.dst v) (Chg.refl _ _) (fun a' w' hc ha'=>?_) ⟨v,fun w' hc=>qhc (hqu w' hc) fun _ h=>Chg.trans' hc h,rfl⟩);subst ha';have r2:Rel F σ' γ (a.put o.dst v) w':=(r1.ext hc).putO h6 hgs (fun _=>hp.ext hc) (fun hn=>absurd hT hn);exact qaq hE hrc m l r2 h7 fun σ2 γ2 a2 w2 hk r3 s2=>hQ σ2 γ2 a2 w2 hk r3 ((Step.ext hc).trans ((Step.gsUp σ γ w' q.2.2).trans ((Step.putO h6).trans s2)))
    ·rename_i hwt;have hnT:¬tagT σ q.1:=fun hT=>hwt (hw.2 hT);obtain⟨pv,h5⟩:=hA;obtain⟨σ',h6,h7⟩:=Option.bind_eq_some_iff.1 h5;exact qaq hE hrc m l (r1.putO h6 hgs (fun hT=>absurd hT hnT) (fun _=>rfl)) h7 fun σ2 γ2 a2 w2 hk r2 s2=>hQ σ2 γ2 a2 w2 hk r2 (s1.trans ((Step.putO h6).trans s2))
   ·have hst:=Bool.eq_false_iff.2 hst;simp only[hst,cond_false] at h2;split at h2
    ·rename_i d hd;simp only[qo5,Option.bind_eq_some_iff,chk_some] at h2;obtain⟨⟨tg,pv⟩,h3,h4,b,h5,h6⟩:=h2;have hpv:=qbl h5;simp only at hpv;subst hpv;cases b
     ·exact qaq hE hrc m (o::l) (r.fix h3 h4) h6 fun σ2 γ2 a2 w2 hk r2 s2=>hQ σ2 γ2 a2 w2 hk r2 ((Step.fix h3).trans s2)
     ·exact qaq hE hrc m (o::l) (r.fix h3 h4) h6 fun σ2 γ2 a2 w2 hk r2 s2=>hQ σ2 γ2 a2 w2 hk r2 ((Step.fix h3).trans s2)
    ·rename_i hd;have hnil:q.1=[]:=by
      cases hq1:q.1 with
      | nil=>rfl
      | cons x t =>
       rw[hq1] at hd;have:∀(t:Tag) (x:Nat×Bool),lastT (x::t)≠none:=by
        intro t
        induction t with
        | nil=>intro x h;cases h
        | cons y t ih=>intro x h;exact ih y h
       exact absurd hd (this t x)
     have hwt:Region.wanted o (yielded ops a.tmps)=true:=hw.2 (by rw[hnil];exact qj _);unfold wpList;rw[if_pos hwt];refine .inl ?_;by_cases hin:(inlined P σ env o).isSome=true
     ·simp only[hin,cond_true] at h2;have:=qlm (Q:=Q) hE hrc r1 h2;exact Oper.wp_mono (fun a' w' ⟨σ',γ',hk,r',s'⟩=>qaq hE hrc m l r' hk fun σ2 γ2 a2 w2 hk r2 s2=>hQ σ2 γ2 a2 w2 hk r2 (s1.trans (s'.trans s2))) this
     ·simp only[Bool.eq_false_iff.2 hin,cond_false] at h2;have:=qms (Q:=Q) hE r1 h2;exact Oper.wp_mono (fun a' w' ⟨σ',γ',hk,r',s'⟩=>qaq hE hrc m l r' hk fun σ2 γ2 a2 w2 hk r2 s2=>hQ σ2 γ2 a2 w2 hk r2 (s1.trans (s'.trans s2))) this
theorem last_nil {tg:Tag} (h:lastT tg=none):tg=[]:=by
 cases tg with
 | nil=>rfl
 | cons x t =>
  have:∀(t:Tag) (x:Nat×Bool),lastT (x::t)≠none:=by
   intro t
   induction t with
   | nil=>intro x h;cases h
   | cons y t ih=>intro x h;exact ih y h
  exact absurd h (this t x)
def After (F:Fr) (σ:AState) (γ:Gh) (w:World) (next:AState→Option α) (res:α) (a':Act) (w':World):Prop:=∃σ' γ',next σ'=some res∧Rel F σ' γ' a' w'∧Step σ γ w σ' γ' w'
theorem qnS {s g i:Nat} {x:Ann} {again next:AState→Option α} {rc:Ann→Code→AState→Kt α→Option α} (hE:EnvOK P env) (r:Rel F σ γ a w) (hs:bitB s i=true) (h:qoQ P env rc ops s g i x σ again next=some res) :
  ∃o v,ops[i]?=some o∧YieldsG P ops w o v a∧(qm6 o=false→qqI o=false→Yields P ops o v a)∧After F σ γ w next res (a.put o.dst v) w:=by
 simp only[qoQ,Option.bind_eq_some_iff] at h;obtain⟨o,ho,q,h1,h2⟩:=h;obtain⟨hsk,hw,hgs⟩:=qhk r h1;have r1:=r.gsUp q.2.2;have s1:=Step.gsUp σ γ w q.2.2;by_cases hq:q.2.1=true
 ·simp only[hq,cond_true,Option.bind_eq_some_iff] at h2;obtain⟨σ',h3,h4⟩:=h2;obtain⟨h5,h6⟩:=hsk hq;exact⟨o,undef,ho,.inr ⟨h5,rfl⟩,fun _ _ => .inr ⟨h5,rfl⟩,σ',γ,h4,r1.putO h3 hgs (fun hT=>absurd hT h6) (fun _=>rfl),s1.trans (Step.putO h3)⟩
 ·have hq:=Bool.eq_false_iff.2 hq;simp only[hq,cond_false,hs,cond_true,chk_some] at h2;have hw:=hw hq;obtain⟨_,h3⟩:=h2;by_cases hcall:qqI o=true
  ·obtain⟨hA,hB⟩:=qfC hE r h3;by_cases hwt:Region.wanted o (yielded ops a.tmps)=true
   ·have hT:=hw.1 hwt;obtain⟨pv,v,hqu,hp,h5⟩:=hB hT;obtain⟨σ',h6,h7⟩:=Option.bind_eq_some_iff.1 h5;exact⟨o,v,ho,.inl ⟨hwt,hqu⟩,fun _ hn=>(by rw[hcall] at hn;cases hn),σ',γ,h7,r1.putO h6 hgs (fun _=>hp) (fun hn=>absurd hT hn),s1.trans (Step.putO h6)⟩
   ·have hnT:¬tagT σ q.1:=fun hT=>hwt (hw.2 hT);obtain⟨pv,h5⟩:=hA;obtain⟨σ',h6,h7⟩:=Option.bind_eq_some_iff.1 h5;exact⟨o,undef,ho,.inr ⟨Bool.eq_false_iff.2 hwt,rfl⟩,fun _ _ => .inr ⟨Bool.eq_false_iff.2 hwt,rfl⟩,σ',γ,h7,r1.putO h6 hgs (fun hT=>absurd hT hnT) (fun _=>rfl),s1.trans (Step.putO h6)⟩
  obtain⟨hA,hB⟩:=stepS_val (Bool.eq_false_iff.2 hcall) r h3;by_cases hwt:Region.wanted o (yielded ops a.tmps)=true
  ·have hT:=hw.1 hwt;obtain⟨pv,⟨v,hrun,hp⟩,h5⟩:=hB hT;obtain⟨σ',h6,h7⟩:=Option.bind_eq_some_iff.1 h5;exact⟨o,v,ho,.inl ⟨hwt,QV.of_run fun w' hc=>hrun w' (fun _=>hc)⟩,fun hl _ => .inl ⟨hwt,fun w'=>hrun w' (fun h=>by rw[hl] at h;cases h)⟩,σ',γ,h7,r1.putO h6 hgs (fun _=>hp) (fun hn=>absurd hT hn),s1.trans (Step.putO h6)⟩
  ·have hnT:¬tagT σ q.1:=fun hT=>hwt (hw.2 hT);obtain⟨pv,h5⟩:=hA;obtain⟨σ',h6,h7⟩:=Option.bind_eq_some_iff.1 h5;exact⟨o,undef,ho,.inr ⟨Bool.eq_false_iff.2 hwt,rfl⟩,fun _ _ => .inr ⟨Bool.eq_false_iff.2 hwt,rfl⟩,σ',γ,h7,r1.putO h6 hgs (fun hT=>absurd hT hnT) (fun _=>rfl),s1.trans (Step.putO h6)⟩
theorem After.ext {next:AState→Option α} {a':Act} {w' w'':World} (h:After F σ γ w next res a' w') (hc:Chg [] w' w''):After F σ γ w next res a' w'':=by
 obtain⟨σ',γ',h1,h2,h3⟩:=h;exact⟨σ',γ',h1,h2.ext hc,h3.trans (Step.ext hc)⟩
theorem qkS {s g i:Nat} {x:Ann} {again next:AState→Option α} (hE:EnvOK P env) {rc:Ann→Code→AState→Kt α→Option α} (hrc:RcOK P rc) (r:Rel F σ γ a w) (h:qoQ P env rc ops s g i x σ again next=some res) :
  vStep P ops s g Q i (After F σ γ w next res) a w∨∃σ',again σ'=some res∧Rel F σ' γ a w∧Step σ γ w σ' γ w:=by
 by_cases hs:bitB s i=true
 ·obtain⟨o,v,ho,hy,_,hk⟩:=qnS hE r hs h;exact .inl (hy.vStep ho fun w' hc=>hk.ext hc)
 ·simp only[qoQ,Option.bind_eq_some_iff] at h;obtain⟨o,ho,q,h1,h2⟩:=h;obtain⟨hsk,hw,hgs⟩:=qhk r h1;have r1:=r.gsUp q.2.2;have s1:=Step.gsUp σ γ w q.2.2;have up:∀(K':Act→World→Prop),(∀a' w',(∃σ' γ',next σ'=some res∧Rel F σ' γ' a' w'∧Step { σ with gs:=Nat.lor σ.gs q.2.2 } γ w σ' γ' w')→After F σ γ w next res a' w'):=fun _ a' w' ⟨σ',γ',h1,h2,h3⟩=>⟨σ',γ',h1,h2,s1.trans h3⟩;by_cases hq:q.2.1=true
  ·simp only[hq,cond_true,Option.bind_eq_some_iff] at h2;obtain⟨σ',h3,h4⟩:=h2;obtain⟨h5,h6⟩:=hsk hq;left;unfold vStep;simp only[ho];rw[if_neg (by rw[h5];simp)];exact fun w' hc=>After.ext ⟨σ',γ,h4,r1.putO h3 hgs (fun hT=>absurd hT h6) (fun _=>rfl),s1.trans (Step.putO h3)⟩ hc
  ·have hq:=Bool.eq_false_iff.2 hq;simp only[hq,cond_false,Bool.eq_false_iff.2 hs] at h2;have hw:=hw hq;split at h2
   ·rename_i d hd;right;simp only[qo5,Option.bind_eq_some_iff,chk_some] at h2;obtain⟨⟨tg,pv⟩,h3,h4,b,h5,h6⟩:=h2;have hpv:=qbl h5;simp only at hpv;subst hpv;cases b
    ·exact⟨_,h6,r.fix h3 h4,Step.fix h3⟩
    ·exact⟨_,h6,r.fix h3 h4,Step.fix h3⟩
   ·rename_i hd;have hnil:=last_nil hd
    have hT:tagT σ q.1:=by rw[hnil];exact qj _
    have hwt:Region.wanted o (yielded ops a.tmps)=true:=hw.2 hT;left;unfold vStep;simp only[ho];rw[if_pos hwt,if_neg hs];by_cases hg:bitB g i=true
    ·simp only[hg,cond_true,chk_some] at h2;rw[if_pos hg];exact Oper.wp_mono (fun a' w' hh=>⟨hh.1,fun w'' hc=>(up (fun _ _=>True) a' w' hh.2).ext hc⟩) (qsZ (Q:=only Q) hE r1 h2.1 h2.2)
    ·simp only[Bool.eq_false_iff.2 hg,cond_false] at h2;rw[if_neg hg];by_cases hst:qkf P env σ q.1 o=true
     ·simp only[hst,cond_true] at h2;obtain⟨hA,hB⟩:=qfC hE r h2;obtain⟨pv,v,hqu,hp,h5⟩:=hB hT;obtain⟨σ',h6,h7⟩:=Option.bind_eq_some_iff.1 h5;refine Oper.wp_of_quiet (C:=Chg [] w) (K:=fun a'=>a'=a.put o.dst v) (Chg.refl _ _) (fun a' w' hc ha'=>?_) ⟨v,fun w' hc=>qhc (hqu w' hc) fun _ h=>Chg.trans' hc h,rfl⟩;subst ha';refine fun w'' hc''=>After.ext ?_ hc'';exact⟨σ',γ,h7,(r1.ext hc).putO h6 hgs (fun _=>hp.ext hc) (fun hn=>absurd hT hn),(Step.ext hc).trans ((Step.gsUp σ γ w' q.2.2).trans (Step.putO h6))⟩
     ·simp only[Bool.eq_false_iff.2 hst,cond_false] at h2;by_cases hin:(inlined P σ env o).isSome=true
      ·simp only[hin,cond_true] at h2;exact Oper.wp_mono (fun a' w' hh w'' hc=>(up (fun _ _=>True) a' w' hh).ext hc) (qlm (Q:=only Q) hE hrc r1 h2)
      ·simp only[Bool.eq_false_iff.2 hin,cond_false] at h2;exact Oper.wp_mono (fun a' w' hh w'' hc=>(up (fun _ _=>True) a' w' hh).ext hc) (qms (Q:=only Q) hE r1 h2)
theorem qoS {x y:Option α} (h:agree x y=some res):x=some res∧y=some res:=by
 unfold agree at h;split at h
 ·rename_i e;exact⟨h,e▸h⟩
 ·cases h
theorem qiT {run:Nat→Ann→Ann→Option α}:∀(l:List Nat) (ann:Ann),qkD run l ann=some res→∀i∈l,∃x n,run i x n=some res
 | [],ann,h,i,hi=>by cases hi
 | [j],ann,h,i,hi=>by
  unfold qkD at h;split at h
  ·rename_i i0 j0 u x n heq;simp only[List.cons.injEq,and_true] at heq;subst heq
   have:i=j:=by simpa using hi
   subst this;exact⟨x,n,(chk_some.1 h).2⟩
  ·rename_i i0 r0 j0 u x n b heq;simp only[List.cons.injEq] at heq;obtain⟨rfl,rfl⟩:=heq;obtain⟨h1,h2⟩:=chk_some.1 h;obtain⟨h3,_⟩:=qoS h2
   have:i=j:=by simpa using hi
   subst this;exact⟨x,n,h3⟩
  ·cases h
 | j::k::l,ann,h,i,hi=>by
  unfold qkD at h;split at h
  ·rename_i heq;simp at heq
  ·rename_i i0 r0 j0 u x n b heq;simp only[List.cons.injEq] at heq;obtain⟨rfl,rfl⟩:=heq;obtain⟨h1,h2⟩:=chk_some.1 h;obtain⟨h3,h4⟩:=qoS h2;rcases List.mem_cons.1 hi with rfl | hi
   ·exact⟨x,n,h3⟩
   ·exact qiT (k::l) b h4 i hi
  ·cases h
def nUn (listed:Array Bool):Nat:=listed.toList.countP fun b=>!b
theorem qsA:∀(l:List Bool) (i:Nat),l[i]?=some false→(l.set i true).countP (fun b=>!b)<l.countP (fun b=>!b)
 | [],_,h=>by simp at h
 | b::l,0,h=>by
  simp only[List.getElem?_cons_zero,Option.some.injEq] at h;subst h;simp[List.countP_cons]
 | b::l,i+1,h=>by
  have:=qsA l i (by simpa using h);simp only[List.set_cons_succ,List.countP_cons];omega
theorem ready_get {listed:Array Bool} {i:Nat} (hls:listed.size=ops.size) (h:i∈Region.ready .any ops listed):listed.toList[i]?=some false:=by
 obtain⟨h0,o,ho,_⟩:=mem_ready.1 h
 have hlt:i<listed.size:=by rw[hls];exact(Array.getElem?_eq_some_iff.1 ho).1
 simp only[Array.getD_eq_getD_getElem?,Array.getElem?_eq_getElem hlt,Option.getD_some] at h0;simp[Array.getElem?_toList,Array.getElem?_eq_getElem hlt,h0]
theorem nUn_set {listed:Array Bool} {i:Nat} (hls:listed.size=ops.size) (h:i∈Region.ready .any ops listed):nUn (listed.setIfInBounds i true)<nUn listed:=by
 unfold nUn;rw[Array.toList_setIfInBounds];exact qsA _ _ (ready_get hls h)
theorem qsB (hE:EnvOK P env) {rc:Ann→Code→AState→Kt α→Option α} (hrc:RcOK P rc) (hsel:Region.noSelect ops=true) {s g:Nat} {k:AState→Option α}:∀(m f:Nat) {listed:Array Bool} {ann:Ann} {σ:AState} {γ:Gh} {a:Act} {w:World},listed.size=ops.size→nUn listed≤f →
  Rel F σ γ a w→qaE P env rc ops s g m listed ann σ k=some res→(∀σ' γ' a' w',k σ'=some res→Rel F σ' γ' a' w'→Step σ γ w σ' γ' w'→Q .normal a' w')→vAny P ops s g Q f listed a w:=by
 intro m
 induction m with
 | zero=>intro f listed ann σ γ a w _ _ _ h;simp[qaE] at h
 | succ m ih =>
  intro f listed ann σ γ a w hls hf r h hQ;have pos:∀i∈Region.ready .any ops listed,∃f',f=f'+1∧nUn (listed.setIfInBounds i true)≤f':=fun i hi=>by
   have:=nUn_set hls hi;exact⟨f-1,by omega,by omega⟩
  have fin:(Region.ready .any ops listed).isEmpty=true→k σ=some res→vAny P ops s g Q f listed a w:=fun he hk=>by
   have he:=List.isEmpty_iff.1 he;have hq:=hQ σ γ a w hk r (Step.refl _ _ _)
   cases f with
   | zero=>exact⟨he,hq⟩
   | succ f=>exact⟨fun _=>hq,fun i hi=>by rw[he] at hi;cases hi⟩
  cases ann with
  | ord i u x n =>
   simp only[qaE,chk_some] at h;obtain⟨ht,h⟩:=h
   have next:∀f',nUn (listed.setIfInBounds i true)≤f'→∀a' w',After F σ γ w (fun σ'=>qaE P env rc ops s g m (listed.setIfInBounds i true) n σ' k) res a' w'→vAny P ops s g Q f' (listed.setIfInBounds i true) a' w':=fun f' hf' a' w' ⟨σ',γ',h1,h2,h3⟩ =>
    ih f' (by simpa using hls) hf' h2 h1 fun σ2 γ2 a2 w2 hk r2 s2=>hQ σ2 γ2 a2 w2 hk r2 (h3.trans s2)
   unfold takeOk at ht;split at ht
   ·rename_i j hj;have hij:=Nat.eq_of_beq_eq_true ht;subst hij;obtain⟨f',rfl,hf'⟩:=pos j (by rw[hj];simp);rcases qkS (Q:=Q) hE hrc r h with h1 | ⟨σ',h1,h2,h3⟩
    ·refine⟨fun h0=>(by rw[hj] at h0;cases h0),fun i hi=>?_⟩
     have:i=j:=by rw[hj] at hi;simpa using hi
     subst this;exact qos (next f' hf') h1
    ·exact ih (f'+1) hls hf h2 h1 fun σ2 γ2 a2 w2 hk r2 s2=>hQ σ2 γ2 a2 w2 hk r2 (h3.trans s2)
   ·simp only[Bool.and_eq_true,List.contains_iff_mem] at ht;obtain⟨hi,hfr,hs,hu⟩:=ht;obtain⟨f',rfl,hf'⟩:=pos i hi;obtain⟨o,v,ho,hy,hyE,hk⟩:=qnS hE r hs h;rcases Bool.or_eq_true _ _▸hu with hu | hu
    ·refine vAny_free ho (Region.noSelect_spec hsel) f' listed a w (Region.free_spec ho hfr) hi (hyE (by have:=hu;simp[regOp,ho] at this;exact this.1) (by have:=hu;simp[regOp,ho] at this;exact this.2)) (fun w2 hc=>next f' hf' _ _ (hk.ext hc))
    exact vAny_take ho (Region.noSelect_spec hsel) (qqK hls hu) f' listed a w (fun _ h=>h) (qqK hls hu).le (Region.free_spec ho hfr) hi hy (fun w2 hc=>next f' hf' _ _ (hk.ext hc))
  | alt x y =>
   simp only[qaE] at h;by_cases he:Region.ready .any ops listed=[]
   ·rw[he] at h;simp[qkD] at h
   ·have hall:=qiT _ _ h;obtain⟨i0,hi0⟩:∃i,i∈Region.ready .any ops listed:=List.exists_mem_of_ne_nil _ he;obtain⟨f',rfl,_⟩:=pos i0 hi0;refine⟨fun h0=>absurd h0 he,fun i hi=>?_⟩;obtain⟨f2,hf2,hf3⟩:=pos i hi
    have:f2=f':=by omega
    subst this;obtain⟨x,n,hrun⟩:=hall i hi;rcases qkS (Q:=Q) hE hrc r hrun with h1 | ⟨σ',h1,_⟩
    ·refine qos (fun a' w' hh=>?_) h1;obtain⟨σ',γ',h1,h2,h3⟩:=hh;exact ih f2 (by simpa using hls) hf3 h2 h1 fun σ2 γ2 a2 w2 hk r2 s2=>hQ σ2 γ2 a2 w2 hk r2 (h3.trans s2)
    ·cases h1
  | spl d n =>
   simp only[qaE] at h;by_cases hc:canS σ d=true
   ·simp only[hc,cond_true,qo5,Option.bind_eq_some_iff,chk_some] at h;obtain⟨⟨tg,pv⟩,h3,h4,b,h5,h6⟩:=h;have hpv:=qbl h5;simp only at hpv;subst hpv;cases b
    ·exact ih f hls hf (r.fix h3 h4) h6 fun σ2 γ2 a2 w2 hk r2 s2=>hQ σ2 γ2 a2 w2 hk r2 ((Step.fix h3).trans s2)
    ·exact ih f hls hf (r.fix h3 h4) h6 fun σ2 γ2 a2 w2 hk r2 s2=>hQ σ2 γ2 a2 w2 hk r2 ((Step.fix h3).trans s2)
   ·simp only[Bool.eq_false_iff.2 hc,cond_false] at h;exact ih f hls hf r h hQ
  | nil=>simp only[qaE,chk_some] at h;exact fin h.1 h.2
  | two _ _=>simp only[qaE,chk_some] at h;exact fin h.1 h.2
  | join _ _=>simp only[qaE,chk_some] at h;exact fin h.1 h.2
  | joinE _ _=>simp only[qaE,chk_some] at h;exact fin h.1 h.2
  | loop _ _=>simp only[qaE,chk_some] at h;exact fin h.1 h.2
  | own _=>simp only[qaE,chk_some] at h;exact fin h.1 h.2
  | vw _=>simp only[qaE,chk_some] at h;exact fin h.1 h.2
  | tail _ _=>simp only[qaE,chk_some] at h;exact fin h.1 h.2
  | any _ _ _=>simp only[qaE,chk_some] at h;exact fin h.1 h.2
  | sel _ _ _ _=>simp only[qaE,chk_some] at h;exact fin h.1 h.2
  | frz _ _=>simp only[qaE,chk_some] at h;exact fin h.1 h.2
  | fra _=>simp only[qaE,chk_some] at h;exact fin h.1 h.2
  | slk _ _ _=>simp only[qaE,chk_some] at h;exact fin h.1 h.2
  | mbs _ _ _=>simp only[qaE,chk_some] at h;exact fin h.1 h.2
  | hop _ _ _=>simp only[qaE,chk_some] at h;exact fin h.1 h.2
  | hcl _ _=>simp only[qaE,chk_some] at h;exact fin h.1 h.2
theorem qfD:∀(s:Slots) (t:Nat) (tg:Tag) (pv:PV),get (endS s) t=some (tg,pv)↔get s t=some (tg,pv)∧tg=[]
 | [],t,tg,pv=>by simp[endS,get]
 | (i,none)::r,t,tg,pv=>by
  simp only[endS];rw[qU,qU];split
  ·simp
  ·exact qfD r t tg pv
 | (i,some ([],p))::r,t,tg,pv=>by
  simp only[endS];rw[qU,qU];split
  ·simp only[Option.some.injEq,Prod.mk.injEq];exact⟨fun h=>⟨h,h.1.symm⟩,fun h=>h.1⟩
  ·exact qfD r t tg pv
 | (i,some (x::q,p))::r,t,tg,pv=>by
  simp only[endS];rw[qU,qU];split
  ·simp only[reduceCtorEq,Option.some.injEq,Prod.mk.injEq,false_iff]
   rintro ⟨⟨rfl,_⟩,h⟩
   cases h
  ·exact qfD r t tg pv
theorem Rel.endR (r:Rel F σ γ a w):Rel F σ.endR γ a w:=by
 refine⟨r.size,r.defers,fun t tg pv ht hh=>?_,fun t tg pv ht hh=>?_,fun t tg pv ht x hx=>?_,fun x hx=>(by cases hx),r.o⟩
 ·obtain⟨h1,rfl⟩:=(qfD σ.slots t tg pv).1 ht;exact r.slots t [] pv h1 (qj _)
 ·obtain⟨h1,rfl⟩:=(qfD σ.slots t tg pv).1 ht;exact absurd (qj _) hh
 ·obtain⟨h1,rfl⟩:=(qfD σ.slots t tg pv).1 ht;cases hx
theorem Step.endR:Step σ γ w σ.endR γ w:=by
 refine⟨rfl,rfl,rfl,fun t e _ he=>?_,fun _ _ _=>rfl,Keep.refl _ _ _⟩;unfold kf at he ⊢;simp only[Option.bind_eq_some_iff,chk_some,Bool.and_eq_true,Option.some.injEq] at he ⊢;obtain⟨e',h1,⟨h2,h3⟩,rfl⟩:=he;obtain⟨tg,pv⟩:=e'
 have htg:tg=[]:=by simpa using h2
 subst htg;exact⟨([],pv),(qfD _ _ _ _).2 ⟨h1,rfl⟩,⟨h2,h3⟩,rfl⟩
end
end Go.Den

