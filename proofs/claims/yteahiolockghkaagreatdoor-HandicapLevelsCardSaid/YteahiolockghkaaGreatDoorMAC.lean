/- Several texts in one: Den7, Den8, Den9. -/
import Derived.Test.YteahiolockghkaaGreatDoorMAB
import Derived.LaidEqlPtr
namespace Go.Den
open Go.Eng
set_option linter.unusedVariables false
set_option linter.unusedSectionVars false
set_option linter.unusedSimpArgs false
variable [CT : Ctx]

theorem qkp {A:Type} (cu vs:List A) (m j z off:Nat) (hn:j+z≤m) (hcl:m≤cu.length) (hfit:off+vs.length≤z) :
  (cu.take (j+off)++vs++cu.drop (j+off+vs.length)).take m=(cu.take m).take j++((((cu.take m).drop j).take z).take off++vs++(((cu.take m).drop j).take z).drop (off+vs.length))++(cu.take m).drop (j+z):=by
 apply List.ext_getElem?;intro q;simp only[List.getElem?_take,List.getElem?_append,List.getElem?_drop,List.length_append,List.length_take,List.length_drop]
 grind

section
variable {P : Program} {env : Env} {F : Fr} {σ : AState} {γ : Gh} {a : Act} {w : World} {o : Oper} {α : Type} {k : AState → Option α} {res : α} {Q : Exit → Act → World → Prop}

def EfR (P:Program) (F:Fr) (σ:AState) (γ:Gh) (a:Act) (w:World) (o:Oper) (k:AState→Option α) (res:α) (Q:Exit→Act→World→Prop):Prop :=
 o.wp P a w (fun a' w'=>∃σ' γ',k σ'=some res∧Rel F σ' γ' a' w'∧Step σ γ w σ' γ' w') Q
theorem EfR.val {v:Value} {w':World} {σ':AState} {γ':Gh} (h:(execOp a.eval o).run P w = .ok (.value v) w') (hk:k σ'=some res) (hr:Rel F σ' γ' (a.put o.dst v) w') (hs:Step σ γ w σ' γ' w'):EfR P F σ γ a w o k res Q:=by
 unfold EfR Oper.wp;rw[h];exact⟨σ',γ',hk,hr,hs⟩
theorem qj (σ:AState):tagT σ []:=fun x hx=>by cases hx
def EfA (P:Program) (F:Fr) (σ:AState) (γ:Gh) (a:Act) (w:World) (o:Oper) (k:AState→Option α) (res:α) (Q:Exit→Act→World→Prop):Prop :=
 o.wp P a w (fun a' w'=>Chg [] w w'∧∃σ' γ',k σ'=some res∧Rel F σ' γ' a' w'∧Step σ γ w σ' γ' w') Q
theorem EfA.val {v:Value} {w':World} {σ':AState} {γ':Gh} (h:(execOp a.eval o).run P w = .ok (.value v) w') (hc:Chg [] w w') (hk:k σ'=some res) (hr:Rel F σ' γ' (a.put o.dst v) w') (hs:Step σ γ w σ' γ' w'):EfA P F σ γ a w o k res Q:=by
 unfold EfA Oper.wp;rw[h];exact⟨hc,σ',γ',hk,hr,hs⟩
theorem EfA.toR (h:EfA P F σ γ a w o k res Q):EfR P F σ γ a w o k res Q:=Oper.wp_mono (fun _ _ h=>h.2) h

theorem qch (r:Rel F σ γ a w) {objs':List OB} {γ':Gh} {w':World} {pv:PV} {v:Value} {σ':AState} (K:Keep σ.objs γ w objs' γ' w' σ.objs.length) (ho:ORel F objs' γ' w') (hs:SameLen σ.objs objs')
  (hp:∀o,o<σ.objs.length→bitB σ.prO o=true→objs'[o]?=σ.objs[o]?) (hput:AState.putO { σ with objs:=objs' } o.dst [] pv=some σ') (hv:PR objs' γ' w' pv v) :
  Rel F σ' γ' (a.put o.dst v) w'∧Step σ γ w σ' γ' w':=by
 have r1:Rel F { σ with objs:=objs' } γ' a w':=r.setObjs K hs ho;refine⟨r1.putO hput (fun x hx=>by cases hx) (fun _=>hv) (fun hn=>absurd (qj _) hn),?_⟩;have s1:Step σ γ w { σ with objs:=objs' } γ' w':=⟨rfl,rfl,rfl,fun _ _ _ h=>h,hp,K⟩;exact s1.trans (Step.putO hput)
theorem ef_putN (r:Rel F σ γ a w) {objs':List OB} {γ':Gh} {w':World} {pv:PV} {v:Value} {σ':AState} (K:Keep σ.objs γ w objs' γ' w' σ.objs.length) (ho:ORel F objs' γ' w')
  (hp:∀o,o<σ.objs.length→bitB σ.prO o=true→objs'[o]?=σ.objs[o]?) (hput:AState.putO { σ with objs:=objs' } o.dst [] pv=some σ') (hv:PR objs' γ' w' pv v) :
  Rel F σ' γ' (a.put o.dst v) w'∧Step σ γ w σ' γ' w':=by
 have r1:Rel F { σ with objs:=objs' } γ' a w':=r.setObjsN K ho;refine⟨r1.putO hput (fun x hx=>by cases hx) (fun _=>hv) (fun hn=>absurd (qj _) hn),?_⟩;have s1:Step σ γ w { σ with objs:=objs' } γ' w':=⟨rfl,rfl,rfl,fun _ _ _ h=>h,hp,K⟩;exact s1.trans (Step.putO hput)
theorem qhb {objs:List OB} {w':World} {news:List OB} {gs:List (Value×Option Nat)} {M:List Nat} (r:ORel F objs γ w) (hc:Chg [] w w') (hgs:gs.length=news.length) (hM:M=gs.flatMap fun g=>g.2.toList) (hnd:M.Nodup)
  (hfresh:∀b∈M,w.heap.size≤b∧b<w'.heap.size)
  (hnew:Keep objs γ w (objs++news) (upd γ objs.length gs) w' objs.length→∀(j:Nat) ob g,news[j]?=some ob→gs[j]?=some g→ObR (objs++news) (upd γ objs.length gs) w' ob g∧mutOb ob=true) :
  ORel F (objs++news) (upd γ objs.length gs) w'∧Keep objs γ w (objs++news) (upd γ objs.length gs) w' objs.length :=
 qry r (Keep.ext hc) rfl (Chg.trans' r.chg hc) hgs hM hnd (fun o ob ho => .inl ⟨r.rep o ob ho,fun b hb=>hc.block b (r.lt o b (qw ho) hb) (by simp)⟩) (fun _ h=>h) (fun _ _ _ _ h=>h)
  (fun b hb=>⟨(hfresh b hb).2,.inl (Nat.le_trans r.chg.size (hfresh b hb).1),fun o hm hb'=>Nat.not_le_of_lt (r.lt o b hm.lt hb') (hfresh b hb).1,fun hi=>Nat.not_le_of_lt hi.lt (hfresh b hb).1⟩) hnew
  (fun b hb hB=>Nat.not_le_of_lt (r.bl b hB).1 (hfresh b hb).1) (fun k hk=>hc.block k (r.bl k hk).1 (by simp)) (SameAr.refl _)
theorem qbQ {objs news:List OB}:SameLen objs (objs++news):=fun o ti e xs fz hx hlt=>by
 rw[List.getElem?_append_left hlt] at hx;exact⟨_,_,_,_,hx,rfl⟩
theorem qgS {A:Type} {x y:A} {j:Nat} (h:[x][j]?=some y):j=0∧y=x:=by
 cases j with
 | zero=>simp at h;exact⟨rfl,h.symm⟩
 | succ j=>simp at h
theorem ef_bld (r:Rel F σ γ a w) {t:TypeId} {σ':AState} (hrun:(execOp a.eval o).run P w = .ok (.value (.pointer (some ⟨w.heap.size,0,none⟩))) (w.alloc (.cells #[.pointer none,.slice none 0 0] t)))
  (hput:σ.new o.dst (.bld t (.v (.slice none 0 0))) (.c (.ptr σ.objs.length 0))=some σ') (hk:k σ'=some res):EfA P F σ γ a w o k res Q:=by
 have hc:=qdj w (.cells #[.pointer none,.slice none 0 0] t)
 obtain⟨ho,K⟩:=qhb (news:=[.bld t (.v (.slice none 0 0))]) (gs:=[(.pointer (some ⟨w.heap.size,0,none⟩),some w.heap.size)]) (M:=[w.heap.size]) r.o hc rfl (by simp) (by simp) (fun b hb=>by
   simp at hb;subst hb;exact⟨Nat.le_refl _,by rw[qbJ];omega⟩) (fun K j ob g hj hg=>by
   obtain⟨rfl,rfl⟩:=qgS hj;obtain⟨_,rfl⟩:=qgS hg
   exact⟨⟨_,.pointer none,.slice none 0 0,rfl,by have:=qjk w #[.pointer none,.slice none 0 0] t;unfold Blk at this;simpa using this,⟨.inl rfl,.inl rfl⟩,rfl⟩,rfl⟩)
 obtain⟨h1,h2⟩:=qch r K ho qbQ (fun o ho _=>by rw[List.getElem?_append_left ho]) hput (v := .pointer (some ⟨w.heap.size,0,none⟩))
  ⟨by simp,w.heap.size,by have:=qcB (γ:=γ) (n:=σ.objs.length) (j:=0) (gs:=[(.pointer (some ⟨w.heap.size,0,none⟩),some w.heap.size)]) rfl;rw[Nat.add_zero] at this;rw[this],rfl⟩
 exact EfA.val hrun hc hk h1 h2
theorem ef_box (r:Rel F σ γ a w) {l:List Cv} {v:Value} {t:TypeId} {σ':AState} (hl:VRL σ.objs γ w l v.cells.toList) (hrun:(execOp a.eval o).run P w = .ok (.value (.pointer (some ⟨w.heap.size,0,none⟩))) (w.alloc (.cells v.cells t)))
  (hput:σ.new o.dst (.box l) (.c (.ptr σ.objs.length 0))=some σ') (hk:k σ'=some res):EfA P F σ γ a w o k res Q:=by
 have hc:=qdj w (.cells v.cells t)
 obtain⟨ho,K⟩:=qhb (news:=[.box l]) (gs:=[(.pointer (some ⟨w.heap.size,0,none⟩),some w.heap.size)]) (M:=[w.heap.size]) r.o hc rfl (by simp) (by simp) (fun b hb=>by
   simp at hb;subst hb;exact⟨Nat.le_refl _,by rw[qbJ];omega⟩) (fun K j ob g hj hg=>by
   obtain⟨rfl,rfl⟩:=qgS hj;obtain⟨_,rfl⟩:=qgS hg
   exact⟨⟨_,t,v.cells,rfl,by have:=qjk w v.cells t;unfold Blk at this;simpa using this,VRL.keep K hl.below hl⟩,rfl⟩)
 obtain⟨h1,h2⟩:=qch r K ho qbQ (fun o ho _=>by rw[List.getElem?_append_left ho]) hput (v := .pointer (some ⟨w.heap.size,0,none⟩))
  ⟨by simp,w.heap.size,by have:=qcB (γ:=γ) (n:=σ.objs.length) (j:=0) (gs:=[(.pointer (some ⟨w.heap.size,0,none⟩),some w.heap.size)]) rfl;rw[Nat.add_zero] at this;rw[this],rfl⟩
 exact EfA.val hrun hc hk h1 h2
theorem qrA:∀ {ls:List (Nat×List Nat)} {i j:Nat} {q q':Nat×List Nat} {k:Nat},(flatB ls).Nodup→ls[i]?=some q→ls[j]?=some q'→k∈q.1::q.2→k∈q'.1::q'.2→i=j
 | [],i,j,q,q',k,_,h,_,_,_=>by simp at h
 | x::r,i,j,q,q',k,hn,h1,h2,h3,h4=>by
  have hn':((x.1::x.2)++flatB r).Nodup:=hn;obtain⟨_,n2,n3⟩:=List.nodup_append.1 hn'
  cases i with
  | zero =>
   cases j with
   | zero=>rfl
   | succ j =>
    simp only[List.getElem?_cons_zero,Option.some.injEq] at h1;subst h1;exact absurd rfl (n3 k h3 k (qeT (by simpa using h2) k h4))
  | succ i =>
   cases j with
   | zero =>
    simp only[List.getElem?_cons_zero,Option.some.injEq] at h2;subst h2;exact absurd rfl (n3 k h4 k (qeT (by simpa using h1) k h3))
   | succ j=>exact congrArg _ (qrA (ls:=r) n2 (by simpa using h1) (by simpa using h2) h3 h4)
theorem qbz {A:Type} {l:List A} {i j:Nat} {x y:A} (h:(l.set i x)[j]?=some y):(j=i∧i<l.length∧y=x)∨(j≠i∧l[j]?=some y):=by
 rw[List.getElem?_set] at h;by_cases e:i=j
 ·subst e;rw[if_pos rfl] at h;by_cases hl:i<l.length
  ·rw[if_pos hl] at h;cases h;exact .inl ⟨rfl,hl,rfl⟩
  ·rw[if_neg hl] at h;cases h
 ·rw[if_neg e] at h;exact .inr ⟨fun e'=>e e'.symm,h⟩
theorem qnB {objs:List OB} {p:Nat} {t:TypeId} {q:Ty} {ow:Option TypeId} {xs:Ents q} {lent:Option Nat} {o:Nat} (h:Mut (objs.set p (.ar t q ow xs lent)) o):Mut objs o∧o≠p:=by
 obtain⟨ob,h1,h2⟩:=h;rw[List.getElem?_set] at h1;split at h1
 ·split at h1
  ·cases h1;cases h2
  ·cases h1
 ·rename_i e;exact⟨⟨ob,h1,h2⟩,fun e'=>e e'.symm⟩
theorem quF (r:Rel F σ γ a w) {t:TypeId} {x:Operand} (ho:o.op = .box t x) (h:((ev σ [] x).bind fun v=>(qbb v).bind fun l=>(σ.new o.dst (.box l) (.c (.ptr σ.objs.length 0))).bind k)=some res):EfA P F σ γ a w o k res Q:=by
 simp only[Option.bind_eq_some_iff] at h;obtain⟨pv,h1,l,h2,h⟩:=h;have key:(execOp a.eval o).run P w = .ok (.value (.pointer (some ⟨w.heap.size,0,none⟩))) (w.alloc (.cells (a.eval x).cells t)):=?_
 ·obtain⟨σ',h3,h4⟩:=h;exact ef_box r (v:=a.eval x) (t:=t) (qcc h2 (qf r (qj σ) h1)) key h3 h4
 obtain⟨dst,op,type,pos,after,guard⟩:=o;simp only at ho;subst ho;simp only[execOp,Instr.box,newVar,newRow,newObj];rfl
theorem quN (r:Rel F σ γ a w) {t:TypeId} (ho:o.op = .alloc t) (h:allocE P env σ o t k=some res):EfA P F σ γ a w o k res Q:=by
 obtain⟨l,h2,h⟩:=Option.bind_eq_some_iff.1 h;obtain⟨i,z,hi,hz,hzv⟩:=qmn (P:=P) (σ:=σ) (γ:=γ) (w:=w) h2
 have hzr:(zeroValue t).run P w = .ok z w:=by simp[zeroValue,typeInfo,hi,hz,go_sem]
 have hrun:(execOp a.eval o).run P w = .ok (.value (.pointer (some ⟨w.heap.size,0,none⟩))) (w.alloc (.cells z.cells t)):=by
  obtain⟨dst,op,type,pos,after,guard⟩:=o;simp only at ho;subst ho;simp only[execOp,Instr.alloc,Sem.run_bind,hzr,Result.andThen_ok,newVar,newRow,newObj];rfl
 cases hb:env.bldT t with
 | false =>
  rw[hb,cond_false] at h;obtain⟨σ',h3,h4⟩:=Option.bind_eq_some_iff.1 h;exact ef_box r (v:=z) (t:=t) hzv hrun h3 h4
 | true =>
  rw[hb,cond_true] at h;split at h
  ·obtain⟨σ',h3,h4⟩:=Option.bind_eq_some_iff.1 h;have hc:z.cells = #[.pointer none,.slice none 0 0]:=by
    obtain⟨v1,q1,e1,e2,v2,q2,e3,e4,e5⟩:=hzv;simp only[VR] at e2 e4;simp only[VRL] at e5;subst e2 e4 e5 e3;rw[←Array.toList_inj,e1]
   rw[hc] at hrun;exact ef_bld r hrun h3 h4
  ·cases h

theorem qeH {t:TypeId} {inf:TypeInfo} {b off:Nat} {cur:Array Value} {T:TypeId} {v:Value} (hi:P.info? t=some inf) (hb:Row w b cur T) (hs:v.cells.size=inf.size) (hfit:off+v.cells.toList.length≤cur.size) (h1:∀u∈v.cells.toList,u.oneCell'=true)
  {ad x:Operand} (ho:o.op = .store t ad x) (e1:a.eval ad = .pointer (some ⟨b,off,none⟩)) (e2:a.eval x=v) :
  (execOp a.eval o).run P w = .ok .skip (w.setRow b (cur.toList.take off++v.cells.toList++cur.toList.drop (off+v.cells.toList.length)).toArray):=by
 have hst:=qfh (P:=P) hb off v.cells.toList hfit h1
 have hsr:(sizeOf t).run P w = .ok inf.size w:=by simp[sizeOf,typeInfo,hi,go_sem]
 have hv1:(storeVar t ⟨b,off,none⟩ v).run P w = .ok () (w.setRow b (cur.toList.take off++v.cells.toList++cur.toList.drop (off+v.cells.toList.length)).toArray):=by
  unfold storeVar;rw[Sem.run_bind,hsr,Result.andThen_ok];rw[if_neg (fun hn=>hn hs)];exact hst
 obtain⟨dst,op,type,pos,after,guard⟩:=o;simp only at ho;subst ho;simp only[execOp,Sem.run_bind,e1,e2,Instr.storeAt,Instr.sureAddr,Sem.run_pure,Result.andThen_ok,hv1]
theorem qe3 {b:Nat} {cs:Array Value}:Chg [b] w (w.setRow b cs) :=
 ⟨rfl,rfl,rfl,by simp[World.setRow],fun j hj hn=>setRow_other w b j cs (fun e=>hn (by simp[e])),fun _=>Nat.le_refl _⟩
theorem qpL {objs:List OB} {p b:Nat} {ob:OB} {w':World} (hch:Chg [b] w w') (r:ORel F objs γ w) (hm:Mut objs p) (hg:(γ p).2=some b)
  (hmut:∀(i:TypeId) (e:Ty) (xs:List (D e)),ob ≠ .arr i e xs true) (hob:Keep objs γ w (objs.set p ob) γ w' objs.length→ObR (objs.set p ob) γ w' ob (γ p)) (hna:isAr ob=false:=by rfl) :
  ORel F (objs.set p ob) γ w'∧Keep objs γ w (objs.set p ob) γ w' objs.length:=by
 have hlt:=hm.lt;have hget:∀o',(objs.set p ob)[o']?=if p=o' then some ob else objs[o']?:=fun o'=>by
  rw[List.getElem?_set];by_cases e1:p=o'
  ·subst e1;simp[hlt]
  ·simp[e1]
 have hmu:∀o',Mut (objs.set p ob) o'→Mut objs o':=by
  rintro o' ⟨ob',h1,h2⟩
  rw[hget] at h1;split at h1
  ·rename_i e;subst e;exact hm
  ·exact⟨ob',h1,h2⟩
 have K:Keep objs γ w (objs.set p ob) γ w' objs.length :=
  ⟨⟨fun k hk=>⟨Nat.lt_of_lt_of_le hk.lt hch.size,hk.s,fun o' hm'=>hk.own o' (hmu o' hm'),hk.nb⟩,fun _ _ h=>h⟩,fun k hk=>hch.block k hk.lt (by simp;intro e;subst e;exact hk.own p hm hg),by simp,fun _ _=>rfl,hch.size,rfl,fun _ _ _ _ h=>h⟩
 have hne:∀o' b',p≠o'→o'<objs.length→(γ o').2=some b'→(∃ob',objs[o']?=some ob'∧(mutOb ob'=true∨(∃i,∃e:Ty,∃xs:List (D e),ob' = .arr i e xs true)))→b'≠b:=by
  rintro o' b' h1 h2 h3 ⟨ob',h4,h5⟩ rfl
  rcases h5 with h5 | ⟨i,e,xs,rfl⟩
  ·exact h1 (r.inj p o' b' hm ⟨ob',h4,h5⟩ hg h3)
  ·exact(r.frz o' i e xs b' h4 h3).own p hm hg
 refine⟨⟨fun o' ob' h1=>?_,fun o1 o2 b' h1 h2=>r.inj o1 o2 b' (hmu o1 h1) (hmu o2 h2),fun o1 b' h1=>r.own o1 b' (hmu o1 h1),fun o1 b' h1 h2=>Nat.lt_of_lt_of_le (r.lt o1 b' (by simpa using h1) h2) hch.size,?_,fun o1 i e xs b' h1 h2=>?_,r.up,r.tab.mono K.imm K.heap,fun k hk=>⟨Nat.lt_of_lt_of_le (r.bl k hk).1 hch.size,(r.bl k hk).2⟩,fun o1 b' h1=>r.bo o1 b' (hmu o1 h1),
  fun o1 t1 p1 w1 x1 l1 h1=>(r.ar o1 t1 p1 w1 x1 l1 (SameAr.set objs p hna o1 t1 p1 w1 x1 l1 h1)).keep K rfl rfl (fun _=>rfl) fun k hk=>hch.block k (r.bl k hk).1 (by simp;intro e;subst e;exact r.bo p k hm hg hk)⟩,K⟩
 ·rw[hget] at h1;split at h1
  ·rename_i e;subst e;cases h1;exact hob K
  ·rename_i e
   cases hd:ob' with
   | dead=>trivial
   | ar _ _ _ _ _=>rw[hd] at h1;exact r.rep o' _ h1
   | bld t c =>
    rw[hd] at h1;exact ObR.keep K (fun b' hb'=>hch.block b' (r.lt o' b' (qw h1) hb') (by simpa using hne o' b' e (qw h1) hb' ⟨_,h1,.inl rfl⟩)) (r.rep o' _ h1)
   | mbr i e' x =>
    rw[hd] at h1;exact ObR.keep K (fun b' hb'=>hch.block b' (r.lt o' b' (qw h1) hb') (by simpa using hne o' b' e (qw h1) hb' ⟨_,h1,.inl rfl⟩)) (r.rep o' _ h1)
   | nilr =>
    rw[hd] at h1;exact ObR.keep K (fun b' hb'=>hch.block b' (r.lt o' b' (qw h1) hb') (by simpa using hne o' b' e (qw h1) hb' ⟨_,h1,.inl rfl⟩)) (r.rep o' _ h1)
   | hr _ _ _ _ _ _ =>
    rw[hd] at h1;exact ObR.keep K (fun b' hb'=>hch.block b' (r.lt o' b' (qw h1) hb') (by simpa using hne o' b' e (qw h1) hb' ⟨_,h1,.inl rfl⟩)) (r.rep o' _ h1)
   | mp k v xs =>
    rw[hd] at h1;exact ObR.keep K (fun b' hb'=>hch.block b' (r.lt o' b' (qw h1) hb') (by simpa using hne o' b' e (qw h1) hb' ⟨_,h1,.inl rfl⟩)) (r.rep o' _ h1)
   | box l =>
    rw[hd] at h1;exact ObR.keep K (fun b' hb'=>hch.block b' (r.lt o' b' (qw h1) hb') (by simpa using hne o' b' e (qw h1) hb' ⟨_,h1,.inl rfl⟩)) (r.rep o' _ h1)
   | fbx l =>
    rw[hd] at h1;refine ObR.keep K (fun b' hb'=>hch.block b' (r.lt o' b' (qw h1) hb') ?_) (r.rep o' _ h1);obtain⟨b1,_,_,e1,_,_,hi⟩:=r.rep o' _ h1;rw[e1] at hb'
    obtain rfl:b1=b':=by simpa using hb'
    intro hm'
    obtain rfl:b1=b:=by simpa using hm'
    exact hi.own p hm hg
   | arr i e' xs fz =>
    rw[hd] at h1;have hcase:mutOb (.arr i e' xs fz)=true∨(∃i2,∃e2:Ty,∃xs2:List (D e2),OB.arr i e' xs fz = .arr i2 e2 xs2 true):=by
     cases fz
     ·exact .inl rfl
     ·exact .inr ⟨i,e',xs,rfl⟩
    exact ObR.keep K (fun b' hb'=>hch.block b' (r.lt o' b' (qw h1) hb') (by simpa using hne o' b' e (qw h1) hb' ⟨_,h1,hcase⟩)) (r.rep o' _ h1)
 ·have:=r.chg;refine⟨hch.os.trans this.os,hch.tape.trans this.tape,hch.output.trans this.output,Nat.le_trans this.size hch.size,fun k hk hn=>(hch.block k (Nat.lt_of_lt_of_le hk this.size) ?_).trans (this.block k hk hn),fun e=>Nat.le_trans (this.drawn e) (hch.drawn e)⟩;simp;intro e;subst e;rcases r.own p k hm hg with h1 | h1
  ·omega
  ·exact hn h1
 ·rw[hget] at h1;split at h1
  ·cases h1;exact absurd rfl (hmut _ _ _)
  ·exact K.imm _ (r.frz o1 i e xs b' h1 h2)
theorem qpp {objs:List OB} {p b:Nat} {ob:OB} {w':World} (hch:Chg [b] w w') (r:ORel F objs γ w) (hm:Mut objs p) (hg:(γ p).2=some b)
  (hmut:mutOb ob=true) (hob:Keep objs γ w (objs.set p ob) γ w' objs.length→ObR (objs.set p ob) γ w' ob (γ p)) :
  ORel F (objs.set p ob) γ w'∧Keep objs γ w (objs.set p ob) γ w' objs.length:=qpL hch r hm hg (fun i e xs h=>by rw[h] at hmut;cases hmut) hob (by cases ob<;>first | rfl | cases hmut)
theorem qhX {objs:List OB} {p b:Nat} {ob:OB} {cs:Array Value} (r:ORel F objs γ w) (hm:Mut objs p) (hg:(γ p).2=some b)
  (hmut:mutOb ob=true) (hob:Keep objs γ w (objs.set p ob) γ (w.setRow b cs) objs.length→ObR (objs.set p ob) γ (w.setRow b cs) ob (γ p)) :
  ORel F (objs.set p ob) γ (w.setRow b cs)∧Keep objs γ w (objs.set p ob) γ (w.setRow b cs) objs.length:=qpp qe3 r hm hg hmut hob
theorem VRL.setv {objs:List OB}:∀ {l:List Cv} {vs:List Value} {c:Cv} {v:Value} (j:Nat),VRL objs γ w l vs→VR objs γ w c v→VRL objs γ w (l.set j c) (vs.set j v)
 | [],_,_,_,_,h,_=>by simp[VRL] at h;simp[h,VRL]
 | _::_,_,_,_,0,⟨u,q,e,h1,h2⟩,h=>by subst e;exact⟨_,q,rfl,h,h2⟩
 | _::_,_,_,_,j+1,⟨u,q,e,h1,h2⟩,h=>by subst e;exact⟨u,_,rfl,h1,VRL.setv j h2 h⟩
theorem qh1 {objs:List OB} {i:Int} {x:Cv} {off sz inner:Nat} {v:Value} (hx:VR objs γ w x v):∀ {n j:Nat} {cs cs':List Cv} {vs:List Value},qqE i x off sz inner n j cs=some cs'→VRL objs γ w cs vs →
  (((j:Int)≤i∧i<((j+n:Nat):Int))→VRL objs γ w cs' (vs.set (off+i.toNat*sz+inner) v)∧off+i.toNat*sz+inner<vs.length)∧((i<(j:Int)∨((j+n:Nat):Int)≤i)→VRL objs γ w cs' vs)
 | 0,j,cs,cs',vs,h,hv=>by
  simp only[qqE,Option.some.injEq] at h;subst h;exact⟨fun hh=>by omega,fun _=>hv⟩
 | n+1,j,cs,cs',vs,h,hv=>by
  simp only[qqE] at h;split at h
  ·rename_i c q hc;obtain⟨c',h1,h2⟩:=Option.bind_eq_some_iff.1 h;have h0:cs[off+j*sz+inner]?=some c:=by
    have:=congrArg (fun l:List Cv=>l[0]?) hc;simpa using this
   obtain⟨u,hu,hcu⟩:=hv.get h0;by_cases hij:i=(j:Int)
   ·subst hij;have hc':VR objs γ w c' v:=(qcO h1).1 (by simp) hx;have hv':=VRL.setv (off+j*sz+inner) hv hc';have ih:=(qh1 hx (n:=n) (j:=j+1) h2 hv').2 (.inl (by omega));refine⟨fun _=>⟨?_,?_⟩,fun hh=>by omega⟩
    ·simpa using ih
    ·simpa using qw hu
   ·have hc':VR objs γ w c' u:=(qcO h1).2 (by simpa using hij) hcu;have hv':=VRL.setv (off+j*sz+inner) hv hc';have hset:vs.set (off+j*sz+inner) u=vs:=by
     apply List.ext_getElem?;intro m;rw[List.getElem?_set];split
     ·rename_i e;subst e;rw[if_pos (qw hu)];exact hu.symm
     ·rfl
    rw[hset] at hv';have ih:=qh1 hx (n:=n) (j:=j+1) h2 hv';refine⟨fun hh=>ih.1 (by omega),fun hh=>ih.2 (by omega)⟩
  ·cases h
theorem all_one {l:List Cv} {vs:List Value} (h:l.all quM=true) (hv:VRL σ.objs γ w l vs):∀u∈vs,u.oneCell'=true:=by
 induction l generalizing vs with
 | nil=>simp only[VRL] at hv;subst hv;intro u hu;cases hu
 | cons c l ih =>
  obtain⟨v,q,rfl,h1,h2⟩:=hv;simp only[List.all_cons,Bool.and_eq_true] at h;intro u hu;rcases List.mem_cons.1 hu with rfl | hu
  ·exact qin h.1 h1
  ·exact ih h.2 h2 u hu
theorem EfR.skip {w':World} {σ':AState} {γ':Gh} (hd:o.dst=none) (h:(execOp a.eval o).run P w = .ok .skip w') (hk:k σ'=some res) (hr:Rel F σ' γ' a w') (hs:Step σ γ w σ' γ' w'):EfR P F σ γ a w o k res Q:=by
 unfold EfR Oper.wp;rw[h];refine⟨σ',γ',hk,?_,hs⟩;rw[hd];exact hr
theorem qeR {objs':List OB} {γ':Gh} {w':World} (K:Keep σ.objs γ w objs' γ' w' σ.objs.length) (hp:∀o,o<σ.objs.length→bitB σ.prO o=true→objs'[o]?=σ.objs[o]?):Step σ γ w { σ with objs:=objs' } γ' w':=⟨rfl,rfl,rfl,fun _ _ _ h=>h,hp,K⟩
theorem qs {A:Type} {l:List A} {i j:Nat} {x:A} (h:i≠j):(l.set i x)[j]?=l[j]?:=by rw[List.getElem?_set,if_neg h]
theorem qns {objs:List OB} {p:Nat} {l:List Cv}:SameLen objs (objs.set p (.box l)):=fun o ti e xs fz hx hlt=>by
 rw[List.getElem?_set] at hx;split at hx
 ·split at hx
  ·cases hx
  ·cases hx
 ·exact⟨_,_,_,_,hx,rfl⟩
theorem qta {objs:List OB} {p:Nat} {t:TypeId} {c:Cv}:SameLen objs (objs.set p (.bld t c)):=fun o ti e xs fz hx hlt=>by
 rw[List.getElem?_set] at hx;split at hx
 ·split at hx
  ·cases hx
  ·cases hx
 ·exact⟨_,_,_,_,hx,rfl⟩
theorem chg_arena {objs:List OB} {w':World} {b:Nat} (r:ORel F objs γ w) (hb:b∈γ.B) (hch:Chg [b] w w'):Chg F.M F.w0 w':=by
 have:=r.chg;refine⟨hch.os.trans this.os,hch.tape.trans this.tape,hch.output.trans this.output,Nat.le_trans this.size hch.size,fun k hk hn=>(hch.block k (Nat.lt_of_lt_of_le hk this.size) ?_).trans (this.block k hk hn),fun e=>Nat.le_trans (this.drawn e) (hch.drawn e)⟩;simp;intro e;subst e;rcases(r.bl k hb).2 with h1 | h1
 ·omega
 ·exact hn h1
theorem ob_notB {objs:List OB} (r:ORel F objs γ w) {p:Nat} {ob:OB} (h:objs[p]?=some ob):ob = .dead∨isAr ob=true∨∀b,(γ p).2=some b→b∉γ.B:=by
 cases hm:mutOb ob with
 | true=>exact .inr (.inr fun b hb=>r.bo p b ⟨ob,h,hm⟩ hb)
 | false =>
  cases ob with
  | dead=>exact .inl rfl
  | ar _ _ _ _ _ =>
   have h0:(γ p).2=none:=r.rep p _ h;exact .inr (.inr fun b hb=>by rw[h0] at hb;cases hb)
  | fbx l =>
   obtain⟨b1,_,_,e1,_,_,hi⟩:=r.rep p _ h;refine .inr (.inr fun b hb=>?_);rw[e1] at hb
   obtain rfl:b1=b:=by simpa using hb
   exact hi.nb
  | arr i e xs fz =>
   cases fz with
   | true=>exact .inr (.inr fun b hb=>(r.frz p i e xs b h hb).nb)
   | false=>cases hm
  | _=>cases hm
theorem ef_storeN (r:Rel F σ γ a w) {t:TypeId} {ad x:Operand} {inf:TypeInfo} (ho:o.op = .store t ad x) (hd:o.dst=none) (hi:P.info? t=some inf) {l:List Cv} {y sz j off:Nat} {objs':List OB}
  (hvl:VRL σ.objs γ w l (a.eval x).cells.toList) (hone:∀u∈(a.eval x).cells.toList,u.oneCell'=true) (hcs:(a.eval x).cells.size=inf.size) (hp:PR σ.objs γ w (.ra y sz j off) (a.eval ad))
  (h4:storeAt σ.objs σ.prO l (.ra y sz j off)=some objs') (h5:k { σ with objs:=objs' }=some res):EfR P F σ γ a w o k res Q:=by
 obtain⟨b,n,c,hy,hm,hjn,e1⟩:=hp;have hlen:=hvl.length;simp only[storeAt,Option.bind_eq_some_iff] at h4;obtain⟨p,hpo,ob,hob,h4⟩:=h4
 cases ob with
 | ar tn q ow xs lent =>
  cases q with
  | sl e =>
   simp only[chk_some,Bool.and_eq_true,Bool.not_eq_true',Option.bind_eq_some_iff] at h4;obtain⟨⟨hpr,hpure,hsz2,hfit⟩,d,hd2,objs1,hfr,ob1,hob1,h7⟩:=h4;have hsz2:=Nat.eq_of_beq_eq_true hsz2;subst hsz2;have hfit:=Nat.le_of_ble_eq_true hfit;obtain⟨f,f2⟩:=qar r.o hfr
   cases ob1 with
   | ar t1 q1 ow1 xs1 lent1 =>
    have hsame:=f.ar p _ _ _ _ _ hob1;rw[hob] at hsame;cases hsame;simp only[Option.some.injEq] at h7;subst h7;obtain⟨hlt,b0,us,hb0,ho0,hr0⟩:=qpt r.o hob hy hm;have eR:ndP (A:=List (D e)) xs [] y=xs[y-1].1:=congrArg Prod.fst (getE (A:=List (D e)×Option (List Nat)) (d:=([],none)) hlt);have eS:(getD' xs (y-1) (([]:List (D e)),none)).2=xs[y-1].2:=congrArg Prod.snd (getE (A:=List (D e)×Option (List Nat)) (d:=([],none)) hlt);obtain⟨cap0,cur0,hv0,hrow0,hc1,hc2,hc3,hc4⟩:=ho0.one;simp only[Value.slice.injEq,Option.some.injEq,Addr.mk.injEq,and_true] at hv0;obtain⟨hbb,hnn,hcc⟩:=hv0;subst hbb;subst hcc;obtain⟨ls,hs,hA,hB,hkc,hj'⟩:=f.o.ar p _ _ _ _ _ hob1;have hm':γ.m (y-1+1)=(hs[y-1]?).join:=hA.m (y-1);rw[show y-1+1=y by omega,hm] at hm'
    have hlt2:y-1<hs.length:=by rw[hA.lenH];exact hlt
    have hlt3:y-1<ls.length:=by rw[hA.len];exact hlt
    rw[List.getElem?_eq_getElem hlt2] at hm';have hm2:hs[y-1]=some (.slice (some ⟨b,0,none⟩) n c):=hm'.symm;have hls:ls[y-1]?=some ls[y-1]:=List.getElem?_eq_getElem hlt3;obtain⟨v1,us1,k1,k2,k3,k4,k5⟩:=hA.node (y-1) _ _ _ hls (List.getElem?_eq_getElem hlt) (List.getElem?_eq_getElem hlt2);rw[hm2] at k1;cases k1;obtain⟨cap1,cur1,hv1,hrow1,_,_,_,hc5⟩:=k2.one;simp only[Value.slice.injEq,Option.some.injEq,Addr.mk.injEq,and_true] at hv1;obtain⟨hbb,hnn1,hcc⟩:=hv1;have hlsb:ls[y-1]=(b,[]):=Prod.ext hbb.symm k4;have hcur:cur1=cur0:=by
     rw[←hbb] at hrow1;exact hrow1.eq hrow0
    subst hcur
    have hus:us1=us:=by rw[←hc5,←hc4,eR]
    subst hus
    have hjl:j<(ndP (A:=List (D e)) xs [] y).length:=by rw[←hnn];exact hjn
    have hr0:RepL (fun x c=>Rep w (Imm σ.objs γ w) e x [] c) (ndP (A:=List (D e)) xs [] y) us1:=hr0
    have hr1:RepL (fun x c=>Rep w (Imm objs1 γ w) e x [] c) (ndP (A:=List (D e)) xs [] y) us1:=by rw[eR];exact k3
    have hx0:=hr0.get (Rep.slen e) (j:=j) (x:=getD' (ndP (A:=List (D e)) xs [] y) j (dflt e)) (by simp[getD',hjl]);have hcell0:=qJ e hx0;have hdl:((us1.drop (j*e.size)).take e.size).length=e.size:=Rep.length e hx0
    have hnew:VRL σ.objs γ w ((cellsOf e (getD' (ndP (A:=List (D e)) xs [] y) j (dflt e))).take off++l++(cellsOf e (getD' (ndP (A:=List (D e)) xs [] y) j (dflt e))).drop (off+l.length)) (((us1.drop (j*e.size)).take e.size).take off++(a.eval x).cells.toList++((us1.drop (j*e.size)).take e.size).drop (off+l.length)) :=
     ((hcell0.take off).append hvl).append (hcell0.drop _)
    obtain⟨hdr,_⟩:=qaS (S:=Imm objs1 γ w) r.o f.keep.imm e hd2 hnew (fun o' ho' b' hb'=>f2 o' (by rw[qe6 (objs':=[]) e hpure] at ho';exact ho') b' hb');rw[Ty.pure_ids e hpure] at hdr;have hdr:Rep w (Imm objs1 γ w) e d [] _:=hdr;have hset:=hr1.set (Rep.slen e) hdr j hjl;have hcurlen:j*e.size+e.size≤cur1.size:=by
     rw[hc3,←Nat.succ_mul];exact Nat.mul_le_mul_right _ (by omega)
    have hrun:=qeH (a:=a) hi hrow0 hcs (off:=j*e.size+off) (by rw[hlen];omega) hone ho e1 rfl;have hbB:b∈γ.B:=hb0;generalize hcs':(cur1.toList.take (j*e.size+off)++(a.eval x).cells.toList++cur1.toList.drop (j*e.size+off+(a.eval x).cells.toList.length)).toArray=cs' at hrun;have hcsz:cs'.size=cur1.size:=by
     subst hcs';simp only[List.size_toArray,List.length_append,List.length_take,List.length_drop,Array.length_toList,hlen];omega
    have hrow':Row (w.setRow b cs') b cs' tn:=hrow0.set _ hcsz;have hch:Chg [b] w (w.setRow b cs'):=qe3;generalize hw':w.setRow b cs'=w' at hch hrow' hrun
    let xs':List (List (D e)×Option (List Nat)):=xs.set (y-1) ((ndP (A:=List (D e)) xs [] y).set j d,xs[y-1].2)
    have exs:setP (A:=List (D e)) xs [] y ((ndP (A:=List (D e)) xs [] y).set j d)=xs':=by
     show xs.set (y-1) (_,(getD' xs (y-1) (([]:List (D e)),none)).2)=_;rw[eS]
    have h5:k { σ with objs:=objs1.set p (.ar tn (.sl e) ow xs' lent) }=some res:=by
     rw[←exs];exact h5
    have hlx:xs'.length=xs.length:=List.length_set
    have K0:Keep objs1 γ w (objs1.set p (.ar tn (.sl e) ow xs' lent)) (γ.arn γ.m γ.B γ.kc) w' objs1.length :=
     ⟨⟨fun k hk=>⟨Nat.lt_of_lt_of_le hk.lt hch.size,hk.s,fun o' hm'=>hk.own o' (qnB hm').1,hk.nb⟩,fun _ _ h=>h⟩,fun k hk=>hch.block k hk.lt (by simp;intro e;subst e;exact hk.nb hbB),by simp,fun _ _=>rfl,hch.size,rfl,fun _ _ _ _ h=>h⟩
    obtain⟨hor,K⟩:=qkh (news:=[]) (gs:=[]) (M:=[]) f.o K0 (by simp) (chg_arena f.o hbB hch) rfl rfl List.nodup_nil (fun o' ob ho'=>by
      rcases qbz ho' with ⟨rfl,_,rfl⟩ | ⟨_,ho'⟩
      ·exact .inr (.inr fun _=>f.o.rep _ _ hob1)
      ·rcases ob_notB f.o ho' with rfl | h1 | h1
       ·exact .inr (.inl rfl)
       ·exact .inr (.inr fun _=>by cases ob<;>first | exact r.o.rep _ _ ho' | exact f.o.rep _ _ ho' | cases h1)
       ·exact .inl ⟨f.o.rep o' ob ho',fun b' hb'=>hch.block b' (f.o.lt o' b' (qw ho') hb') (by simp;intro e;subst e;exact h1 _ hb' hbB)⟩) (fun o' hm=>(qnB hm).1) (fun o' i e ys ho'=>by
      rcases qbz ho' with ⟨_,_,e⟩ | ⟨_,ho'⟩
      ·cases e
      ·exact ho') (fun b hb=>by cases hb) (fun _ j ob g hj'=>by simp at hj') (fun k hk=>⟨Nat.lt_of_lt_of_le (f.o.bl k hk).1 hch.size,(f.o.bl k hk).2⟩) (fun o' b' hm hb'=>f.o.bo o' b' (qnB hm).1 hb') (fun b hb=>by cases hb) (fun K o' t2 p2 w2 x2 l2 ho'=>by
      rw[List.append_nil] at ho';rcases qbz ho' with ⟨rfl,_,e⟩ | ⟨hne,ho'⟩
      rotate_left
      ·exact absurd (qre hpo o' t2 p2 w2 x2 l2 (f.ar o' t2 p2 w2 x2 l2 ho')) hne
      cases e;refine⟨ls,hs,ArW.mk (hA.len.trans hlx.symm) (hA.lenH.trans hlx.symm) hA.m0 hA.m hA.nd (fun i q' x' h' g1 g2 g3=>?_),hB,hkc,fun z hz=>hj' z (hlx▸hz)⟩;by_cases hiy:i=y-1
      ·subst hiy;rw[hls] at g1;have gx:xs'[y-1]?=some ((ndP (A:=List (D e)) xs [] y).set j d,xs[y-1].2):=by
        exact List.getElem?_set_self (a:=(((ndP (A:=List (D e)) xs [] y).set j d,xs[y-1].2):List (D e)×Option (List Nat))) hlt
       have g2:=gx.symm.trans g2;rw[List.getElem?_eq_getElem hlt2] at g3;cases g1;cases g2;cases g3;refine⟨.slice (some ⟨b,0,none⟩) n c,cs'.toList.take ((ndP (A:=List (D e)) xs [] y).length*e.size),hm2,.inr ⟨b,c,cs',by rw[hlsb],by rw[hnn];simp,hrow',by simpa using hc1,hc2,by rw[hcsz];exact hc3,by simp⟩,?_,k4,k5⟩;refine RepL.mono (fun d c hd=>Rep.mono K.imm K.heap e hd (by simp)) ?_
       have hn:j*e.size+e.size≤(ndP (A:=List (D e)) xs [] y).length*e.size:=by rw[←Nat.succ_mul];exact Nat.mul_le_mul_right _ hjl
       have hcl:(ndP (A:=List (D e)) xs [] y).length*e.size≤cur1.toList.length:=by simp only[Array.length_toList];rw[hc3];exact Nat.mul_le_mul_right _ hc1
       have hlv:(a.eval x).cells.toList.length=l.length:=hlen;have:=qkp cur1.toList (a.eval x).cells.toList _ (j*e.size) e.size off hn hcl (by rw[hlv];exact hfit);rw[←hcs',List.toList_toArray,this,hc4,hlv];exact hset
      ·have gx:xs'[i]?=xs[i]?:=by
        exact List.getElem?_set_ne (a:=(((ndP (A:=List (D e)) xs [] y).set j d,xs[y-1].2):List (D e)×Option (List Nat))) (fun e=>hiy e.symm)
       have g2:=gx.symm.trans g2;refine(hA.node i q' x' h' g1 g2 g3).mono K.imm K.heap fun k hk=>hch.block k (f.o.bl k (hB k (qeT g1 k hk))).1 ?_;simp;intro e;subst e
       exact hiy (qrA hA.nd g1 hls hk (by rw[hlsb];simp)))
    rw[List.append_nil] at hor K;have hK:Keep σ.objs γ w (objs1.set p (.ar tn (.sl e) ow xs' lent)) _ w' σ.objs.length:=f.keep.trans (by rw[←f.len];exact K);refine EfR.skip hd hrun h5 (r.setObjsN hK hor) (qeR hK fun o' ho' hp'=>?_);rw[qs (fun e2=>by subst e2;rw[hpr] at hp';cases hp')];exact f.prot o' hp'
   | _=>simp at h7
  | _=>simp at h4
 | _=>simp at h4
theorem qqf {objs:List OB}:∀(τ:Ty) (l:List Cv),τ.flat=true→idsD objs τ l=[]
 | .sl _,_,h=>by cases h
 | .osl _ _,_,h=>by cases h
 | .obx _,_,h=>by cases h
 | .onl _ _,_,h=>by cases h
 | .err,_,h=>by cases h
 | .bld _ _,_,h=>by cases h
 | .ref,_,h=>by cases h
 | .ifc _ _,_,h=>by cases h
 | .omp _ _,_,h=>by cases h
 | .hrl _ _ _ _ _,_,h=>by cases h
 | .int _,_,_=>rfl
 | .bool,_,_=>rfl
 | .str,_,_=>rfl
 | .nil,_,_=>rfl
 | .st f r,l,h=>by
  simp only[Ty.flat,Bool.and_eq_true] at h;simp only[idsD,qqf f _ h.1,qqf r _ h.2,List.append_nil]
theorem qjX:∀(τ:Ty),τ.flat=true→τ.pure=true
 | .sl _,h=>by cases h
 | .osl _ _,h=>by cases h
 | .obx _,h=>by cases h
 | .onl _ _,h=>by cases h
 | .err,h=>by cases h
 | .bld _ _,h=>by cases h
 | .ref,h=>by cases h
 | .ifc _ _,h=>by cases h
 | .omp _ _,h=>by cases h
 | .hrl _ _ _ _ _,h=>by cases h
 | .int _,_=>rfl
 | .bool,_=>rfl
 | .str,_=>rfl
 | .nil,_=>rfl
 | .st f r,h=>by
  simp only[Ty.flat,Bool.and_eq_true] at h;simp only[Ty.pure,qjX f h.1,qjX r h.2,Bool.and_self]
theorem qrV (r:Rel F σ γ a w) {t:TypeId} {ad x:Operand} {inf:TypeInfo} (ho:o.op = .store t ad x) (hd:o.dst=none) (hi:P.info? t=some inf) (hcs:(a.eval x).cells.size=inf.size) (hone:∀u∈(a.eval x).cells.toList,u.oneCell'=true)
  {q i off:Nat} {ti:TypeId} {p qt:Ty} {j:TypeId} {xs xs':List (El p qt)} {hole hole':Option (Nat×Nat)} (hob:σ.objs[q]?=some (.hr ti p qt j xs hole)) (hpr:bitB σ.prO q=false) (hp:PR σ.objs γ w (.ep q (p.size+(1+qt.size)) i off) (a.eval ad))
  (hfit:off+(a.eval x).cells.toList.length≤p.size+(1+qt.size)) {y y':El p qt×Option Value} (hl:xs'.length=xs.length) (hy0:(hz (hole.map fun h=>(h.1,(γ h.2).1)) xs)[i]?=some y) (hz':hz (hole'.map fun h=>(h.1,(γ h.2).1)) xs'=(hz (hole.map fun h=>(h.1,(γ h.2).1)) xs).set i y')
  (hy:∀c,ElR (fun x c=>Rep w (Imm σ.objs γ w) p x [] c) (fun x c=>Rep w (Imm σ.objs γ w) qt x [] c) (KidI w (Imm σ.objs γ w)) y c→ElR (fun x c=>Rep w (Imm σ.objs γ w) p x [] c) (fun x c=>Rep w (Imm σ.objs γ w) qt x [] c) (KidI w (Imm σ.objs γ w)) y' (c.take off++(a.eval x).cells.toList++c.drop (off+(a.eval x).cells.toList.length)))
  (hh':∀k r,hole'=some (k,r)→k<xs'.length∧VR σ.objs γ w (.os r) (γ r).1) (h5:k { σ with objs:=σ.objs.set q (.hr ti p qt j xs' hole') }=some res):EfR P F σ γ a w o k res Q:=by
 obtain⟨hq,b,hg,ep1,ao0,n0,c0,hg0,hil⟩:=hp
 have hil:i<xs.length:=by rw[←qrq r.o hob hg0];exact hil
 obtain⟨us,hown,hrep,hhole⟩:=r.o.rep q _ hob;rcases hown with ⟨_,_,h8,_⟩ | ⟨b1,cap1,cur1,h8,h9,h10,h11,h12,h13,h14⟩
 ·exact absurd hil (by omega)
 have hb1:b1=b:=by
  have:=toList_some h8;rw[this] at hg;simpa using hg
 subst hb1;have hsz0:(a.eval x).cells.toList.length=(a.eval x).cells.size:=Array.length_toList;have hS:∀m,(m+1)*(p.size+(1+qt.size))=m*(p.size+(1+qt.size))+(p.size+(1+qt.size)):=fun m=>Nat.succ_mul _ _;have hcurlen:i*(p.size+(1+qt.size))+(p.size+(1+qt.size))≤cur1.size:=by
  rw[h13,←hS];exact Nat.mul_le_mul_right _ (by omega)
 have hrun:=qeH (a:=a) hi h10 hcs (off:=i*(p.size+(1+qt.size))+off) (by omega) hone ho ep1 rfl;have hx0:=hrep.get (sz:=p.size+(1+qt.size)) (fun _ _ h=>ElR.len h) hy0
 have hzl:i<(hz (hole.map fun h=>(h.1,(γ h.2).1)) xs).length:=by rw[qss];exact hil
 have hset:=RepL.set (R:=ElR (fun x c=>Rep w (Imm σ.objs γ w) p x [] c) (fun x c=>Rep w (Imm σ.objs γ w) qt x [] c) (KidI w (Imm σ.objs γ w))) (sz:=p.size+(1+qt.size)) (fun _ _ h=>ElR.len h) (hy _ hx0) i hzl hrep;rw[←hz'] at hset
 obtain⟨hor,K⟩:=qhX (ob := .hr ti p qt j xs' hole') (cs:=(cur1.toList.take (i*(p.size+(1+qt.size))+off)++(a.eval x).cells.toList++cur1.toList.drop (i*(p.size+(1+qt.size))+off+(a.eval x).cells.toList.length)).toArray) r.o ⟨_,hob,rfl⟩ hg rfl (fun K=>by
  refine⟨_,.inr ⟨b1,cap1,_,h8,?_,h10.set _ (by simp only[List.size_toArray,List.length_append,List.length_take,List.length_drop,Array.length_toList];omega),?_,h12,?_,?_⟩,
   hset.mono (ElR.mono (fun x c=>Rep.keep K) (fun x c=>Rep.keep K) fun ks v hk=>hk.mono K.imm K.heap),fun k' r' e=>⟨(hh' k' r' e).1,VR.keep K (hh' k' r' e).2.1 (hh' k' r' e).2⟩⟩
  ·rw[h9,hl]
  ·rw[hl];exact h11
  ·simp only[List.size_toArray,List.length_append,List.length_take,List.length_drop,Array.length_toList];omega
  ·rw[hl];simp only[List.toList_toArray];rw[←h14]
   exact qkp cur1.toList _ (xs.length*(p.size+(1+qt.size))) (i*(p.size+(1+qt.size))) (p.size+(1+qt.size)) off (by rw[←hS];exact Nat.mul_le_mul_right _ hil) (by simp only[Array.length_toList];rw[h13];exact Nat.mul_le_mul_right _ h11) hfit)
 refine EfR.skip hd hrun h5 (r.setObjs K (fun o' ti' e' xs'' fz' hx' hlt'=>?_) hor) (qeR K fun o' _ hp'=>qs (fun e=>by subst e;rw[hpr] at hp';cases hp'));rw[List.getElem?_set] at hx';by_cases e2:q=o'
 ·subst e2;rw[if_pos rfl,if_pos (qw hob)] at hx';cases hx'
 ·rw[if_neg e2] at hx';exact⟨_,_,_,_,hx',rfl⟩
theorem hz_set {A:Type} (h:Option (Nat×Value)) (xs:List A) (i:Nat) (x:A):hz h (xs.set i x)=(hz h xs).set i (x,hvAt h i):=by
 refine List.ext_getElem? fun t=>?_;rw[qiM,List.getElem?_set,List.getElem?_set,qss];by_cases e:i=t
 ·subst e;by_cases hi:i<xs.length
  ·simp[hi]
  ·simp[hi]
 ·simp[e,qiM]
theorem hz_hole {A:Type} (k:Nat) (v v':Value) (xs:List A) {x:A} (hx:xs[k]?=some x):hz (some (k,v')) xs=(hz (some (k,v)) xs).set k (x,some v'):=by
 refine List.ext_getElem? fun t=>?_;rw[qiM,List.getElem?_set,qss,qiM];by_cases e:k=t
 ·subst e;have hi:=(List.getElem?_eq_some_iff.1 hx).1;simp[hx,hi,hvAt,Nat.beq_refl];exact(List.getElem?_eq_some_iff.1 hx).2
 ·have:Nat.beq k t=false:=by
   cases hb:Nat.beq k t with
   | false=>rfl
   | true=>exact absurd (Nat.eq_of_beq_eq_true hb) e
  simp[e,hvAt,this]
theorem ef_store (r:Rel F σ γ a w) {t:TypeId} {ad x:Operand} (ho:o.op = .store t ad x) (h:storeE P σ o t ad x k=some res):EfR P F σ γ a w o k res Q:=by
 simp only[storeE,Option.bind_eq_some_iff,chk_some,req_some,Bool.and_eq_true] at h;obtain⟨p,h1,pv,h2,l,h3,⟨hc,hd,hok⟩,hsb,objs',h4,h5⟩:=h
 have hd:o.dst=none:=by simpa using hd
 obtain⟨inf,hi,hsz⟩:=qL hc;have hp:=qjB (qf r (qj σ) h1);have hvl:=qcc h3 (qf r (qj σ) h2);generalize faOf p=p at *;have hone:=all_one hok hvl;have hlen:=hvl.length
 have hcs:(a.eval x).cells.size=inf.size:=by rw[hsz];simpa using hlen
 cases p with
 | c c =>
  cases c<;>simp only[storeAt] at h4<;>try (cases h4;done)
  rename_i q off;obtain⟨ob,hob,h6⟩:=Option.bind_eq_some_iff.1 h4
  cases ob with
  | box cs =>
   simp only[chk_some,Bool.and_eq_true,Bool.not_eq_true',Option.some.injEq] at h6;obtain⟨⟨hpr,hfit⟩,rfl⟩:=h6;have hfit:=Nat.le_of_ble_eq_true hfit;obtain⟨hq,b,hg,e1⟩:=hp;obtain⟨b',T,cells,hgg,hheap,hbv⟩:=r.o.rep q _ hob
   have hbb:b'=b:=by rw[hgg] at hg;simpa using hg
   subst hbb;have hcl:=hbv.length;have hrun:=qeH (a:=a) hi (Row.of hheap) hcs (by rw[hlen];simp only[Array.length_toList] at hcl;omega) hone ho e1 rfl
   have hd3:VRL σ.objs γ w (cs.drop (off+l.length)) (cells.toList.drop (off+(a.eval x).cells.toList.length)):=by rw[hlen];exact hbv.drop _
   obtain⟨hor,K⟩:=qhX (ob := .box (cs.take off++l++cs.drop (off+l.length))) (cs:=(cells.toList.take off++(a.eval x).cells.toList++cells.toList.drop (off+(a.eval x).cells.toList.length)).toArray) r.o ⟨_,hob,rfl⟩ hg rfl (fun K =>
    ⟨b',T,_,hgg,setRow_heap w b' cells _ T (0,0) hheap,VRL.keep K (((hbv.take off).append hvl).append hd3).below (((hbv.take off).append hvl).append hd3)⟩)
   refine EfR.skip hd hrun h5 (r.setObjs K qns hor) (qeR K fun o' _ hp'=>qs (fun e=>by subst e;rw[hpr] at hp';cases hp'))
  | bld tb c =>
   simp only at h6;split at h6
   ·rename_i ro;obtain⟨ob2,hob2,h6⟩:=Option.bind_eq_some_iff.1 h6
    cases ob2 with
    | arr ri re rxs rfz =>
    simp only[chk_some,req_some,Bool.and_eq_true,Bool.not_eq_true',Option.some.injEq] at h6;obtain⟨⟨hpr,ho1⟩,rfl⟩:=h6;have hrn:Nat.blt 0 rxs.length=true:=by
     simp only[storeB,hob,hob2] at hsb;exact hsb
    obtain rfl:=Nat.eq_of_beq_eq_true ho1;obtain⟨hq,b,hg,e1⟩:=hp;obtain⟨b',pp,vv,hgg,hheap,hpp,hvc⟩:=r.o.rep q _ hob
    have hbb:b'=b:=by rw[hgg] at hg;simpa using hg
    subst hbb;obtain⟨v,hv1,hv2⟩:=hvl.one';have hrun:=qeH (a:=a) hi (Row.of hheap) hcs (by rw[hv1];simp) hone ho e1 rfl;rw[hv1] at hrun;have hset:((#[pp,vv]:Array Value).toList.take 1++[v]++(#[pp,vv]:Array Value).toList.drop (1+[v].length)).toArray = #[pp,v]:=rfl;rw[hset] at hrun;have hne:NE v:=by
     obtain⟨_,e2,_⟩:=hv2;obtain⟨us,hown,_⟩:=r.o.rep ro _ hob2;rw[←e2] at hown
     have hrn:0<rxs.length:=by simpa[Nat.blt_eq] using hrn
     rcases hown with ⟨_,_,h0,_⟩ | ⟨b2,cap2,cur2,_,e3,_,h4,_⟩
     ·omega
     ·exact .inr ⟨_,_,_,e3,by omega⟩
    obtain⟨hor,K⟩:=qhX (ob := .bld tb (.os ro)) (cs:=#[pp,v]) r.o ⟨_,hob,rfl⟩ hg rfl (fun K =>
     ⟨b',pp,v,hgg,setRow_heap w b' _ _ tb (0,0) hheap,⟨hpp.1,hne⟩,VR.keep K hv2.below hv2⟩)
    refine EfR.skip hd hrun h5 (r.setObjs K qta hor) (qeR K fun o' _ hp'=>qs (fun e=>by subst e;rw[hpr] at hp';cases hp'))
    | _=>simp at h6
   ·cases h6
  | _=>simp at h6
 | pa q off sz cnt inner i =>
  simp only[storeAt] at h4;obtain⟨ob,hob,h6⟩:=Option.bind_eq_some_iff.1 h4
  cases ob with
  | box cs =>
   simp only at h6;split at h6
   ·rename_i y;simp only[chk_some,Bool.not_eq_true',Option.bind_eq_some_iff,Option.some.injEq] at h6;obtain⟨hpr,cs',hset,rfl⟩:=h6;obtain⟨hq,b,hg,hi0,hi1,e1⟩:=hp;obtain⟨b',T,cells,hgg,hheap,hbv⟩:=r.o.rep q _ hob
    have hbb:b'=b:=by rw[hgg] at hg;simpa using hg
    subst hbb;obtain⟨v,hv1,hv2⟩:=hvl.one';obtain⟨hs1,hs2⟩:=(qh1 hv2 hset hbv).1 ⟨by simpa using hi0,by simpa using hi1⟩;have hrun:=qeH (a:=a) hi (Row.of hheap) hcs (by rw[hv1];simp at hs2 ⊢;omega) hone ho e1 rfl;rw[hv1] at hrun;have hset':cells.toList.take (off+i.toNat*sz+inner)++[v]++cells.toList.drop (off+i.toNat*sz+inner+[v].length)=cells.toList.set (off+i.toNat*sz+inner) v:=by
     rw[List.set_eq_take_append_cons_drop,if_pos hs2];simp
    rw[hset'] at hrun
    obtain⟨hor,K⟩:=qhX (ob := .box cs') (cs:=(cells.toList.set (off+i.toNat*sz+inner) v).toArray) r.o ⟨_,hob,rfl⟩ hg rfl (fun K =>
     ⟨b',T,_,hgg,setRow_heap w b' cells _ T (0,0) hheap,VRL.keep K hs1.below hs1⟩)
    refine EfR.skip hd hrun h5 (r.setObjs K qns hor) (qeR K fun o' _ hp'=>qs (fun e=>by subst e;rw[hpr] at hp';cases hp'))
   ·cases h6
  | _=>simp at h6
 | ep q sz i off =>
  simp only[storeAt] at h4;obtain⟨ob,hob,h6⟩:=Option.bind_eq_some_iff.1 h4
  cases ob with
  | arr ti e xs fz =>
   cases fz with
   | true=>simp at h6
   | false =>
   simp only[chk_some,Bool.and_eq_true,Bool.not_eq_true',Option.bind_eq_some_iff] at h6;obtain⟨⟨hpr,hsz2,hfit,hpure⟩,d,hd2,objs1,hfr,ob1,hob1,h7⟩:=h6;have hsz2:=Nat.eq_of_beq_eq_true hsz2;subst hsz2;have hfit:=Nat.le_of_ble_eq_true hfit
   cases ob1 with
   | arr ti1 e1 xs1 fz1 =>
    cases fz1 with
    | true=>simp at h7
    | false =>
    simp only[Option.some.injEq] at h7;subst h7;obtain⟨hq,b,hg,ep1,ao0,n0,c0,hg0,hil⟩:=hp
    have hil:i<xs.length:=by rw[←ObR.len (r.o.rep q _ hob) hg0];exact hil
    obtain⟨f1,f2⟩:=qar r.o hfr
    have hob1':objs1[q]?=some (.arr ti e xs false):=by rw[f1.mt q ⟨_,hob1,rfl⟩,hob]
    have r1:Rel F { σ with objs:=objs1 } γ a w:=r.setObjs f1.keep f1.same f1.o;obtain⟨us,hown,hrep⟩:=f1.o.rep q _ hob1';have hrep0:RepL (fun x c=>Rep w (Imm σ.objs γ w) e x [] c) xs us:=by
     obtain⟨us0,hown0,hrep0⟩:=r.o.rep q _ hob;rcases hown with ⟨_,_,h8,_⟩ | ⟨b1,cap1,cur1,h8,h9,h10,h11,h12,h13,h14⟩
     ·exact absurd hil (by omega)
     ·rcases hown0 with ⟨_,_,h8',_⟩ | ⟨b2,cap2,cur2,h8',h9',h10',h11',h12',h13',h14'⟩
      ·exact absurd hil (by omega)
      ·have:b1=b2:=by rw[h8] at h8';simpa using h8'
       subst this;rw[←h14,h10.eq h10',h14'];exact hrep0
    have hx0:=hrep0.get (Rep.slen e) (j:=i) (x:=getD' xs i (dflt e)) (by simp[getD',hil]);have hcell0:=qJ e hx0;have hdl:((us.drop (i*e.size)).take e.size).length=e.size:=Rep.length e hx0
    have hnew:VRL σ.objs γ w ((cellsOf e (getD' xs i (dflt e))).take off++l++(cellsOf e (getD' xs i (dflt e))).drop (off+l.length)) (((us.drop (i*e.size)).take e.size).take off++(a.eval x).cells.toList++((us.drop (i*e.size)).take e.size).drop (off+l.length)) :=
     ((hcell0.take off).append hvl).append (hcell0.drop _)
    obtain⟨hdr,_⟩:=qaS (S:=Imm objs1 γ w) r.o f1.keep.imm e hd2 hnew (fun o' ho' b' hb'=>f2 o' (by rw[qe6 (objs':=[]) e hpure] at ho';exact ho') b' hb');rw[Ty.pure_ids e hpure] at hdr;have hdr:Rep w (Imm objs1 γ w) e d [] _:=hdr;rcases hown with ⟨_,_,h8,_⟩ | ⟨b1,cap1,cur1,h8,h9,h10,h11,h12,h13,h14⟩
    ·exact absurd hil (by omega)
    ·have hb1:b1=b:=by
      have:=toList_some h8;rw[this] at hg;simpa using hg
     subst hb1;have hcurlen:i*e.size+e.size≤cur1.size:=by
      rw[h13,←Nat.succ_mul];exact Nat.mul_le_mul_right _ (by omega)
     have hrun:=qeH (a:=a) hi h10 hcs (off:=i*e.size+off) (by rw[hlen];omega) hone ho ep1 rfl;have hset:=hrep.set (Rep.slen e) hdr i hil
     obtain⟨hor,K⟩:=qhX (ob := .arr ti e (xs.set i d) false) (cs:=(cur1.toList.take (i*e.size+off)++(a.eval x).cells.toList++cur1.toList.drop (i*e.size+off+(a.eval x).cells.toList.length)).toArray) f1.o ⟨_,hob1',rfl⟩ hg rfl (fun K=>by
      refine⟨_,.inr ⟨b1,cap1,_,h8,?_,h10.set _ (by simp only[List.size_toArray,List.length_append,List.length_take,List.length_drop,Array.length_toList,hlen];omega),?_,h12,?_,?_⟩,RepL.keep K hset⟩
      ·rw[h9];simp
      ·simpa using h11
      ·simp only[List.size_toArray,List.length_append,List.length_take,List.length_drop,Array.length_toList,hlen];omega
      ·rw[hlen];simp only[List.length_set];rw[←h14]
       have hn:i*e.size+e.size≤xs.length*e.size:=by rw[←Nat.succ_mul];exact Nat.mul_le_mul_right _ hil
       have hcl:xs.length*e.size≤cur1.toList.length:=by simp only[Array.length_toList];rw[h13];exact Nat.mul_le_mul_right _ h11
       have hlv:(a.eval x).cells.toList.length=l.length:=hlen;generalize (a.eval x).cells.toList=vs at hlv ⊢;rw[←hlv] at hfit ⊢
       exact qkp cur1.toList vs (xs.length*e.size) (i*e.size) e.size off hn hcl hfit)
     have hK:Keep σ.objs γ w (objs1.set q (.arr ti e (xs.set i d) false)) γ (w.setRow b1 _) σ.objs.length:=f1.keep.trans (by rw[←f1.len];exact K);refine EfR.skip hd hrun h5 (r.setObjs hK (f1.same.trans (fun o' ti' e' xs' fz' hx' hlt'=>?_) (by rw[f1.len];exact Nat.le_refl _)) hor) (qeR hK fun o' ho' hp'=>?_)
     ·rw[List.getElem?_set] at hx';by_cases e2:q=o'
      ·subst e2;rw[if_pos rfl,if_pos (qw hob1')] at hx';cases hx';exact⟨_,_,_,_,hob1',by simp⟩
      ·rw[if_neg e2] at hx';exact⟨_,_,_,_,hx',rfl⟩
     ·rw[qs (fun e2=>by subst e2;rw[hpr] at hp';cases hp')];exact f1.prot o' hp'
   | _=>simp at h7
  | hr ti pt qt jj xs hole =>
   by_cases hoff:Nat.blt pt.size off=true
   ·simp only[hoff,cond_true,chk_some,Bool.and_eq_true,Bool.not_eq_true',Option.bind_eq_some_iff,Option.some.injEq] at h6;obtain⟨⟨hpr,hsz2,hfit,hflat⟩,d,hd2,rfl⟩:=h6;obtain rfl:=Nat.eq_of_beq_eq_true hsz2;have hfit:=Nat.le_of_ble_eq_true hfit
    have hoff:pt.size<off:=by rwa [Nat.blt_eq] at hoff
    have hil:i<xs.length:=by
     obtain⟨_,_,_,_,_,_,_,hg0,hil⟩:=hp;rw[←qrq r.o hob hg0];exact hil
    have hgd:getD' xs i (dflt (eT pt qt))=xs[i]:=getE (A:=El pt qt) hil;rw[hgd] at hd2 h5
    refine qrV r ho hd hi hcs hone hob hpr hp (by rw[hlen];exact hfit) (y:=(xs[i],hvAt (hole.map fun h=>(h.1,(γ h.2).1)) i)) (y':=((xs[i].1,xs[i].2.1,d),hvAt (hole.map fun h=>(h.1,(γ h.2).1)) i)) (by simp) (by rw[qiM,List.getElem?_eq_getElem hil];rfl) (hz_set _ _ _ _) (fun c hc=>?_) (fun k' r' e=>by
     obtain⟨_,_,_,hh⟩:=r.o.rep q _ hob;rw[List.length_set]
     exact hh k' r' e) h5
    obtain⟨c1,u,c2,e1,e2,e3,e4,e5⟩:=hc;have hl1:=Rep.length pt e2;have hl2:=Rep.length qt e3;have hnew:=((qJ qt e3).take (off-(pt.size+1))).append hvl |>.append ((qJ qt e3).drop (off-(pt.size+1)+l.length));obtain⟨hdr,_⟩:=qaS (S:=Imm σ.objs γ w) r.o (Sp.le.refl _) qt hd2 hnew (fun o' ho'=>by rw[qqf qt _ hflat] at ho';cases ho');rw[Ty.pure_ids qt (qjX qt hflat)] at hdr;refine⟨c1,u,_,?_,e2,hdr,e4,e5⟩;subst e1;rw[hlen];have k1:(c1++u::c2).take off=c1++u::c2.take (off-(pt.size+1)):=by
     rw[List.take_append,List.take_of_length_le (by omega),show off-c1.length=(off-(pt.size+1))+1 by omega,List.take_succ_cons]
    have k2:(c1++u::c2).drop (off+l.length)=c2.drop (off-(pt.size+1)+l.length):=by
     rw[List.drop_append,List.drop_of_length_le (by omega),List.nil_append,show off+l.length-c1.length=(off-(pt.size+1)+l.length)+1 by omega,List.drop_succ_cons]
    rw[k1,k2];simp
   ·simp only[Bool.eq_false_iff.2 hoff,cond_false] at h6;split at h6
    ·rename_i r' k' r0;obtain⟨ob',hob',h7⟩:=Option.bind_eq_some_iff.1 h6
     cases ob' with
     | arr j' e' ys fz =>
      split at h7
      ·rename_i hm;cases hm;simp only[chk_some,Bool.and_eq_true,Bool.not_eq_true',Option.some.injEq] at h7;obtain⟨⟨hpr,hsz2,hoff2,hj⟩,rfl⟩:=h7;obtain rfl:=Nat.eq_of_beq_eq_true hsz2;obtain rfl:=Nat.eq_of_beq_eq_true hoff2;have hik:i=k':=by
        have:(Nat.blt pt.size pt.size||Nat.beq i k')=true:=by simpa[storeB,hob] using hsb
        simp only[Bool.or_eq_true] at this;rcases this with h | h
        ·rw[Nat.blt_eq] at h;exact absurd h (Nat.lt_irrefl _)
        ·exact Nat.eq_of_beq_eq_true h
       subst hik;have hil:i<xs.length:=by
        obtain⟨_,_,_,_,_,_,_,hg0,hil⟩:=hp;rw[←qrq r.o hob hg0];exact hil
       obtain⟨v',hvv,hvr⟩:=hvl.one';have hvv2:v'=(γ r').1:=hvr.2.1
       have hlen1:(a.eval x).cells.toList.length=1:=by rw[hvv];rfl
       refine qrV r ho hd hi hcs hone hob hpr hp (by rw[hlen1];omega) (y:=(xs[i],some (γ r0).1)) (y':=(xs[i],some (γ r').1)) (hole':=some (i,r')) rfl (by rw[qiM,List.getElem?_eq_getElem hil];simp[hvAt,Nat.beq_refl]) (hz_hole i _ _ xs (List.getElem?_eq_getElem hil)) (fun c hc=>?_) (fun k2 r2 e=>by
        cases e
        exact⟨hil,by rw[←hvv2];exact hvr⟩) h5
       obtain⟨c1,u,c2,e1,e2,e3,e4,e5⟩:=hc;have hl1:=Rep.length pt e2;refine⟨c1,v',c2,?_,e2,e3,?_,hvv2⟩
       ·subst e1;rw[hvv];rw[List.take_append,List.take_of_length_le (by omega),hl1,Nat.sub_self,List.take_zero,List.drop_append,List.drop_of_length_le (by simp;omega)];simp[hl1]
       ·obtain⟨_,_,ao,n,c,rfl⟩:=hvr;rfl
      ·cases h7
     | _=>simp at h7
    ·cases h6
  | _=>simp at h6
 | ra y sz j off=>exact ef_storeN r ho hd hi hvl hone hcs hp h4 h5
 | _=>simp[storeAt] at h4
end
end Go.Den
namespace Go.Den
open Go.Eng
set_option linter.unusedVariables false
set_option linter.unusedSectionVars false
set_option linter.unusedSimpArgs false
variable [CT : Ctx]

theorem qdT {vs:List Value} {c:Cv} (h:cv1 (cvs vs)=some c):∃v,vs=[v]∧c = .v v:=by
 cases vs with
 | nil=>cases h
 | cons v r=>cases r with
  | nil=>simp only[cvs,cv1,Option.some.injEq] at h;exact⟨v,rfl,h.symm⟩
  | cons _ _=>cases h
theorem quc:∀(vs:List Value) (n:Nat),(cvs vs).take n=cvs (vs.take n)
 | [],n=>by simp[cvs]
 | v::r,0=>by simp[cvs]
 | v::r,n+1=>by simp[cvs,quc r n]
theorem qtW:∀(vs:List Value) (n:Nat),(cvs vs).drop n=cvs (vs.drop n)
 | [],n=>by simp[cvs]
 | v::r,0=>by simp[cvs]
 | v::r,n+1=>by simp[cvs,qtW r n]
theorem zero_rep {w:World} {S:Sp} (τ:Ty):∀ {x:D τ} {vs:List Value},toD [] τ (cvs vs)=some x→Rep w S τ x [] vs:=by
 induction τ with
 | int k =>
  intro x vs h;obtain⟨c,h1,h2⟩:=Option.bind_eq_some_iff.1 h;obtain⟨v,rfl,rfl⟩:=qdT h1;have:=qpg h2;simp only[Cv.v.injEq] at this;exact⟨rfl,by rw[this]⟩
 | bool =>
  intro x vs h;obtain⟨c,h1,h2⟩:=Option.bind_eq_some_iff.1 h;obtain⟨v,rfl,rfl⟩:=qdT h1;have:=qmb h2;simp only[Cv.v.injEq] at this;exact⟨rfl,by rw[this]⟩
 | str =>
  intro x vs h;obtain⟨c,h1,h2⟩:=Option.bind_eq_some_iff.1 h;obtain⟨v,rfl,rfl⟩:=qdT h1;have:=qoE h2;simp only[Cv.v.injEq] at this;exact⟨rfl,by rw[this]⟩
 | nil =>
  intro x vs h
  cases vs with
  | nil=>exact⟨rfl,rfl⟩
  | cons _ _=>cases h
 | sl e _ =>
  intro x vs h;obtain⟨c,h1,h2⟩:=Option.bind_eq_some_iff.1 h;obtain⟨v,rfl,rfl⟩:=qdT h1;obtain⟨rfl,rfl⟩:=ofSl_v h2;exact⟨rfl,none,0,[],rfl,Nat.le_refl _,rfl,fun hn=>absurd rfl hn⟩
 | osl i e _ =>
  intro x vs h;obtain⟨c,h1,h2⟩:=Option.bind_eq_some_iff.1 h;obtain⟨v,rfl,rfl⟩:=qdT h1;obtain⟨rfl,rfl⟩:=ofOsl_v h2;exact⟨_,[],rfl,.inl ⟨rfl,⟨_,rfl⟩,rfl,rfl⟩,rfl⟩
 | onl i e _ =>
  intro x vs h;obtain⟨c,h1,h2⟩:=Option.bind_eq_some_iff.1 h;obtain⟨v,rfl,rfl⟩:=qdT h1;obtain⟨rfl,rfl⟩:=ofOnl_v h2;exact .inl ⟨rfl,rfl,rfl⟩
 | obx e _ =>
  intro x vs h;obtain⟨bl,h1,_⟩:=Option.bind_eq_some_iff.1 h;obtain⟨o,off,_,_,hob⟩:=qfY h1;simp at hob
 | err =>
  intro x vs h;obtain⟨c,h1,h2⟩:=Option.bind_eq_some_iff.1 h;obtain⟨v,rfl,rfl⟩:=qdT h1;exact⟨rfl,v,rfl,qo1 (objs:=[]) (γ:=⟨fun _=>(undef,none),fun _=>False,fun _=>none,[],fun _ _=>none⟩) (w:=w) h2 rfl⟩
 | bld t i =>
  intro x vs h;obtain⟨c,h1,_⟩:=Option.bind_eq_some_iff.1 h;obtain⟨o,off,_,_,hob⟩:=qrW h1;simp at hob
 | ref =>
  intro x vs h;obtain⟨c,h1,h2⟩:=Option.bind_eq_some_iff.1 h;obtain⟨v,rfl,rfl⟩:=qdT h1;exact⟨rfl,qoX (objs:=[]) (γ:=⟨fun _=>(undef,none),fun _=>False,fun _=>none,[],fun _ _=>none⟩) (w:=w) (fun _ _ h=>by cases h) h2 rfl⟩
 | ifc t e _ =>
  intro x vs h;obtain⟨c,h1,h2⟩:=Option.bind_eq_some_iff.1 h;obtain⟨v,rfl,rfl⟩:=qdT h1;cases h2
 | hrl i p q j b _ _ =>
  intro x vs h;obtain⟨c,h1,h2⟩:=Option.bind_eq_some_iff.1 h;obtain⟨v,rfl,rfl⟩:=qdT h1;cases h2
 | omp k v _ _ =>
  intro x vs h;obtain⟨c,h1,h2⟩:=Option.bind_eq_some_iff.1 h;obtain⟨v,rfl,rfl⟩:=qdT h1;cases h2
 | st f q ihf ihq =>
  intro x vs h;simp only[toD,Option.bind_eq_some_iff] at h;obtain⟨x1,h1,x2,h2,hx⟩:=h;have hx:(x1,x2)=x:=Option.some.inj hx;subst hx;rw[quc] at h1;rw[qtW] at h2;exact⟨_,_,[],[],(List.take_append_drop f.size vs).symm,rfl,ihf h1,ihq h2⟩
theorem qc9 (z:Array Value) (hz:0<z.size):∀n:Nat,(madeCells z (n*z.size)).toList=(List.replicate n z.toList).flatten
 | 0=>by simp[madeCells]
 | n+1=>by
  have ih:=qc9 z hz n;simp only[madeCells,Array.toList_map,Array.toList_range] at ih ⊢;rw[List.replicate_succ,List.flatten_cons,←ih,show(n+1)*z.size=z.size+n*z.size by rw[Nat.add_mul];omega,List.range_add,List.map_append,List.map_map];congr 1
  ·apply List.ext_getElem
   ·simp
   ·intro i h1 h2;simp at h2;simp[Nat.mod_eq_of_lt h2,h2]
  ·apply List.map_congr_left;intro i _;simp
section
variable {P : Program} {env : Env} {F : Fr} {σ : AState} {γ : Gh} {a : Act} {w : World} {o : Oper} {α : Type} {k : AState → Option α} {res : α} {Q : Exit → Act → World → Prop}

theorem qbv {i:TypeId} {τ:Ty} {x:D τ} (h:qhz P i τ=some x):∃inf z,P.info? i=some inf∧inf.zero=some z∧inf.size=τ.size∧z.cells.size=τ.size∧0<τ.size∧∀(w:World) (S:Sp),Rep w S τ x [] z.cells.toList:=by
 simp only[qhz,Option.bind_eq_some_iff,chk_some,Bool.and_eq_true,Bool.not_eq_true'] at h;obtain⟨inf,h1,z,h2,⟨h3,h4,h5⟩,h6⟩:=h;have h3:=Nat.eq_of_beq_eq_true h3;refine⟨inf,z,h1,h2,h3,Nat.eq_of_beq_eq_true h4,?_,fun w S=>zero_rep τ h6⟩;rcases Nat.eq_zero_or_pos τ.size with h | h
 ·rw[h3,h] at h5;cases h5
 ·exact h
theorem ef_row {objs1:List OB} {i:TypeId} {τ:Ty} {xs:List (D τ)} {cells:Array Value} {σ':AState} (r:Rel F σ γ a w) (f1:Frz F σ.prO σ.objs γ w objs1) {cap:Nat} (hcap:xs.length≤cap) (hcm:cap≤maxLen) (hsz:cells.size=cap*τ.size)
  (hrep:RepL (fun x c=>Rep w (Imm objs1 γ w) τ x [] c) xs (cells.toList.take (xs.length*τ.size)))
  (hrun:(execOp a.eval o).run P w = .ok (.value (.slice (some ⟨w.heap.size,0,none⟩) xs.length cap)) (w.alloc (.cells cells i)))
  (hput:AState.new { σ with objs:=objs1 } o.dst (.arr i τ xs false) (.c (.os objs1.length))=some σ') (hk:k σ'=some res):EfA P F σ γ a w o k res Q:=by
 have hc:=qdj w (.cells cells i)
 obtain⟨ho,K⟩:=qhb (news:=[.arr i τ xs false]) (gs:=[(.slice (some ⟨w.heap.size,0,none⟩) xs.length cap,some w.heap.size)]) (M:=[w.heap.size]) f1.o hc rfl (by simp) (by simp) (fun b hb=>by
   simp at hb;subst hb;exact⟨Nat.le_refl _,by rw[qbJ];omega⟩) (fun K j ob g hj hg=>by
   obtain⟨rfl,rfl⟩:=qgS hj;obtain⟨_,rfl⟩:=qgS hg
   exact⟨⟨_,.inr ⟨w.heap.size,cap,cells,rfl,rfl,Row.of (by have:=qjk w cells i;unfold Blk at this;simpa using this),hcap,hcm,hsz,rfl⟩,RepL.keep K hrep⟩,rfl⟩)
 have hK:Keep σ.objs γ w (objs1++[.arr i τ xs false]) _ _ σ.objs.length:=f1.keep.trans (by rw[←f1.len];exact K);obtain⟨h1,h2⟩:=qch r hK ho (f1.same.trans qbQ (by rw[f1.len];exact Nat.le_refl _)) (fun o' ho' hp=>by rw[List.getElem?_append_left (by rw[f1.len];exact ho')];exact f1.prot o' hp) hput (v := .slice (some ⟨w.heap.size,0,none⟩) xs.length cap)
  ⟨by simp,by have:=qcB (γ:=γ) (n:=objs1.length) (j:=0) (gs:=[(Value.slice (some ⟨w.heap.size,0,none⟩) xs.length cap,some w.heap.size)]) rfl;rw[Nat.add_zero] at this;rw[this],_,_,_,rfl⟩
 exact EfA.val hrun hc hk h1 h2
theorem qjV {n b:Nat} (h:room n b=true) (hb:Nat.beq b 0=false):n*b≤140737488355328∧n≤140737488355328:=by
 have h1:=Nat.le_of_ble_eq_true h;have h2:0<b:=by
  rcases Nat.eq_zero_or_pos b with h | h
  ·subst h;cases hb
  ·exact h
 exact⟨h1,Nat.le_trans (Nat.le_mul_of_pos_right n h2) h1⟩
theorem qsb {l:Operand} (h:qnQ l=true):∃kk,l = .const (.int kk 0):=by
 unfold qnQ at h;split at h
 ·rename_i kk n
  have:n=0:=by simpa using h
  subst this;exact⟨kk,rfl⟩
 ·cases h
theorem ef_makeC (r:Rel F σ γ a w) {t:TypeId} {l c:Operand} (ho:o.op = .makeSlice t l c) (hz0:qnQ l=true) (h:makeC P σ o t c k=some res):EfA P F σ γ a w o k res Q:=by
 simp only[makeC,Option.bind_eq_some_iff,chk_some,req_some,Bool.and_eq_true,Bool.not_eq_true'] at h;obtain⟨i,hu,τ,hτ,z,hz,v,h3,⟨km,m⟩,h4,inf,hinf,⟨hby,hpure⟩,⟨hn0,hroom⟩,σ',h5,h6⟩:=h;have hu:=qx hu;obtain⟨inf',zv,hi,hzv,hsz,hzs,hpos,hzr⟩:=qbv hz;rw[hinf] at hi;cases hi;obtain⟨kk,rfl⟩:=qsb hz0
 have hn0:0≤m:=by simpa using hn0
 obtain⟨hr1,hr2⟩:=qjV hroom hby;have e2:=qaY r (qj σ) h3 h4;have hb2:(inf.bytes:Int)*m≤281474976710656:=by
  have:((m.toNat*inf.bytes:Nat):Int)≤(140737488355328:Nat):=Int.ofNat_le.2 hr1;rw[Int.natCast_mul,Int.toNat_of_nonneg hn0,Int.mul_comm] at this;omega
 have hrun0:=run_make (P:=P) w t i inf zv hu hinf hzv kk km 0 m (Int.le_refl _) hn0 hb2 (by omega);refine ef_row (xs:=([]:List (D τ))) (cells:=madeCells zv.cells (m.toNat*inf.size)) (cap:=m.toNat) r (Frz.refl r.o σ.prO) (by simp) (by unfold maxLen;omega) (by simp[madeCells,hsz]) ?_ ?_ h5 h6
 ·simp only[List.length_nil,Nat.zero_mul,List.take_zero];rfl
 ·obtain⟨dst,op,type,pos,after,guard⟩:=o;simp only at ho;subst ho;have e1:a.eval (.const (.int kk 0)) = .int kk 0:=rfl;simp only[execOp,Sem.run_bind,e1,e2,hrun0,Result.andThen_ok,Sem.run_pure,List.length_nil];rfl
theorem ef_make (r:Rel F σ γ a w) {t:TypeId} {l c:Operand} (ho:o.op = .makeSlice t l c) (h:makeE P σ o t l c k=some res):EfA P F σ γ a w o k res Q:=by
 unfold makeE at h
 cases hz0:(qnQ l && !isConst c) with
 | true =>
  rw[hz0,cond_true] at h;simp only[Bool.and_eq_true] at hz0;exact ef_makeC r ho hz0.1 h
 | false =>
 rw[hz0,cond_false] at h;simp only[Option.bind_eq_some_iff,chk_some,req_some,Bool.and_eq_true,Bool.not_eq_true'] at h;obtain⟨i,hu,τ,hτ,z,hz,u,h1,⟨kn,n⟩,h2,v,h3,⟨km,m⟩,h4,inf,hinf,⟨hby,hpure⟩,⟨hn0,hnm,hroom⟩,σ',h5,h6⟩:=h;have hu:=qx hu;obtain⟨inf',zv,hi,hzv,hsz,hzs,hpos,hzr⟩:=qbv hz;rw[hinf] at hi;cases hi
 have hnm:n=m:=by simpa using hnm
 subst hnm
 have hn0:0≤n:=by simpa using hn0
 obtain⟨hr1,hr2⟩:=qjV hroom hby;have e1:=qaY r (qj σ) h1 h2;have e2:=qaY r (qj σ) h3 h4;have hb2:(inf.bytes:Int)*n≤281474976710656:=by
  have:((n.toNat*inf.bytes:Nat):Int)≤(140737488355328:Nat):=Int.ofNat_le.2 hr1;rw[Int.natCast_mul,Int.toNat_of_nonneg hn0,Int.mul_comm] at this;omega
 have hrun0:=run_make (P:=P) w t i inf zv hu hinf hzv kn km n n hn0 (Int.le_refl _) hb2 (by omega);refine ef_row (xs:=List.replicate n.toNat z) (cells:=madeCells zv.cells (n.toNat*inf.size)) (cap:=n.toNat) r (Frz.refl r.o σ.prO) (by simp) (by unfold maxLen;omega) (by simp[madeCells,hsz]) ?_ ?_ h5 h6
 ·rw[hsz,←hzs,qc9 _ (by omega)];rw[List.take_of_length_le]
  ·exact RepL.replicate (R:=fun x c=>Rep w (Imm σ.objs γ w) τ x [] c) (hzr w _) _
  ·simp[hzs]
 ·obtain⟨dst,op,type,pos,after,guard⟩:=o;simp only at ho;subst ho;simp only[execOp,Sem.run_bind,e1,e2,hrun0,Result.andThen_ok,Sem.run_pure,List.length_replicate]
theorem qrn {S:Sp} {τ:Ty} (r:ORel F σ.objs γ w) (hS:Sp.le (Imm σ.objs γ w) S) (hpure:τ.pure=true):∀ {ps:List (Nat×List Cv)} {vals:List (Nat×Value)} {xs ys:List (D τ)} {cells:Array Value},litE σ.objs τ xs ps=some ys→RepL (fun x c=>Rep w S τ x [] c) xs cells.toList→ps.length=vals.length →
  (∀(j:Nat) (p:Nat×Value) (q:Nat×List Cv),vals[j]?=some p→ps[j]?=some q→q.1=p.1∧VRL σ.objs γ w q.2 p.2.cells.toList)→(∀o∈qrF τ ps,∀b,(γ o).2=some b→S b) →
  ∃out,Instr.fill (fun i=>some (i*τ.size,τ.size)) cells vals=some out∧RepL (fun x c=>Rep w S τ x [] c) ys out.toList∧ys.length=xs.length∧out.size=cells.size
 | [],[],xs,ys,cells,h,hv,_,_,_=>by simp only[litE,Option.some.injEq] at h;subst h;exact⟨cells,rfl,hv,rfl,rfl⟩
 | (i,c)::ps,(i',v)::vals,xs,ys,cells,h,hv,hl,hp,hids=>by
  simp only[litE,Option.bind_eq_some_iff,chk_some] at h;obtain⟨d,h1,h2,h4⟩:=h
  have h2:i<xs.length:=by simpa[Nat.blt_eq] using h2
  obtain⟨rfl,hc⟩:=hp 0 _ _ rfl rfl;obtain⟨hd,_⟩:=qaS (S:=S) r hS τ h1 hc (fun o ho=>hids o (by rw[qe6 (objs':=[]) τ hpure] at ho;simp[qrF,ho]));rw[Ty.pure_ids τ hpure] at hd;have hd:Rep w S τ d [] v.cells.toList:=hd;have lc:=Rep.length τ hd;have lx:=hv.length (Rep.slen τ)
  have hz:v.cells.size=τ.size:=by simpa using lc
  have hfit:i*τ.size+τ.size≤cells.size:=by
   have:i*τ.size+τ.size≤xs.length*τ.size:=by rw[←Nat.succ_mul];exact Nat.mul_le_mul_right _ h2
   simp only[Array.length_toList] at lx;omega
  have hf:(v.cells.zipIdx.foldl (fun cs (p:Value×Nat)=>cs.setIfInBounds (i*τ.size+p.2) p.1) cells).toList=cells.toList.take (i*τ.size)++v.cells.toList++cells.toList.drop (i*τ.size+v.cells.toList.length):=by
   have:=qp4 (i*τ.size) v.cells.toList cells 0 (by simp;omega);simp only[Nat.add_zero] at this;rw[←this];rw[←Array.foldl_toList];congr 2;simp
  have hset:=hv.set (Rep.slen τ) hd i h2;rw[←lc,lc] at hf;obtain⟨out,h5,h6,h7,h8⟩:=qrn (cells:=v.cells.zipIdx.foldl (fun cs (p:Value×Nat)=>cs.setIfInBounds (i*τ.size+p.2) p.1) cells) r hS hpure h4 (by rw[hf];exact hset) (by simpa using hl) (fun j p q hj hq=>hp (j+1) p q (by simpa using hj) (by simpa using hq)) (fun o ho=>hids o (by simp[qrF,ho]));refine⟨out,?_,h6,by simpa using h7,?_⟩
  ·simp only[Instr.fill];rw[if_neg (by simp[hz];omega)];exact h5
  ·rw[h8];have:=congrArg List.length hf;simp only[Array.length_toList,List.length_append,List.length_take,List.length_drop] at this;omega
 | [],_::_,_,_,_,_,_,hl,_,_=>by simp at hl
 | _::_,[],_,_,_,_,_,hl,_,_=>by simp at hl
theorem fill_one {cells:Array Value} {v:Value} {sz:Nat} (hv:v.cells.size=sz) (hc:cells.size=sz):∃out,Instr.fill (fun i=>some (i*sz,sz)) cells [(0,v)]=some out∧out.toList=v.cells.toList:=by
 refine⟨v.cells.zipIdx.foldl (fun cs (p:Value×Nat)=>cs.setIfInBounds (0*sz+p.2) p.1) cells,?_,?_⟩
 ·simp only[Instr.fill];rw[if_neg (by simp[hv];omega)]
 ·have:=qp4 (0*sz) v.cells.toList cells 0 (by simp;omega);simp only[Nat.add_zero] at this;rw[←Array.foldl_toList]
  have e:v.cells.zipIdx.toList=v.cells.toList.zipIdx:=by simp
  rw[e,this];simp only[Nat.zero_mul,Nat.zero_add,List.take_zero,List.nil_append,Array.length_toList];rw[List.drop_of_length_le (by simp;omega),List.append_nil]
theorem ef_rowS (r:Rel F σ γ a w) {t i:TypeId} {len:Nat} {parts:Array (Nat×Operand)} (ho:o.op = .buildSlice t len parts) (hu:P.underlying t=some (.slice i)) (h:rowE P σ o i len parts k=some res):EfA P F σ γ a w o k res Q:=by
 unfold rowE at h;split at h
 rotate_left
 ·cases h
 rename_i x hparts;simp only[Option.bind_eq_some_iff] at h;obtain⟨pv,h1,c,h2,h⟩:=h;split at h
 rotate_left
 ·cases h
 rename_i p;obtain⟨ob,hob,h⟩:=Option.bind_eq_some_iff.1 h;split at h
 rotate_left
 ·cases h
 rename_i j ee ys;simp only[Option.bind_eq_some_iff] at h;obtain⟨q,hqo,obq,hobq,h⟩:=h;split at h
 rotate_left
 ·cases h
 rename_i tn e' ow xs lent;simp only[Option.bind_eq_some_iff,chk_some,req_some,Bool.and_eq_true,Bool.not_eq_true'] at h;obtain⟨zs,hcl,z,hz,⟨hlen,hjt,how,hlent,hprq,hprp⟩,hne,σ',h4,h5⟩:=h;obtain rfl:=Nat.eq_of_beq_eq_true hlen;obtain rfl:=Nat.eq_of_beq_eq_true hjt
 have hyn:0<ys.length:=by rwa [Nat.blt_eq] at hne
 obtain rfl:ow=none:=by cases ow with
  | none=>rfl
  | some _=>cases how
 unfold castL at hcl;split at hcl
 rotate_left
 ·cases hcl
 rename_i hee;subst hee;simp only[Option.some.injEq] at hcl;subst hcl;obtain⟨inf,zv,hi,hzv,hsz,hzs,hpos,hzr⟩:=qbv hz;have hpv:pv = .c (.os p):=by
  cases pv with
  | c c'=>simp only[asC,Option.some.injEq] at h2;rw[h2]
  | _=>cases h2
 subst hpv;have hv:VR σ.objs γ w (.os p) (a.eval x):=qf r (qj σ) h1;have hmp:Mut σ.objs p:=⟨_,hob,rfl⟩;obtain⟨us,hown,hrep⟩:=r.o.rep p _ hob;rcases hown with ⟨_,_,h8,_⟩ | ⟨b,cap,cur,h8,h9,h10,h11,h12,h13,h14⟩
 ·exact absurd hyn (by omega)
 have hgb:(γ p).2=some b:=toList_some h8;have ev:a.eval x = .slice (some ⟨b,0,none⟩) ys.length cap:=hv.2.1.trans h9
 have hpq:p≠q:=fun e=>by rw[e,hobq] at hob;cases hob
 have hp:parts = #[(0,x)]:=by rw[←Array.toList_inj,hparts]
 subst hp
 have hcsz:(a.eval x).cells.size=1:=by rw[ev];rfl
 have hcells:(a.eval x).cells.toList=[a.eval x]:=by rw[ev];rfl
 have hsz1:inf.size=1:=hsz
 have hmsz:(madeCells zv.cells (1*inf.size)).size=inf.size:=by simp[madeCells]
 obtain⟨out,h7,hout⟩:=fill_one (sz:=inf.size) (hcsz.trans hsz1.symm) hmsz;rw[hcells] at hout
 have hosz:out.size=1:=by rw[←Array.length_toList,hout];rfl
 have hrun:(execOp a.eval o).run P w = .ok (.value (.slice (some ⟨w.heap.size,0,none⟩) 1 1)) (w.alloc (.cells out i)):=by
  obtain⟨dst,op,type,pos,after,guard⟩:=o;simp only at ho;subst ho
  have hsr:(sizeOf i).run P w = .ok inf.size w:=by simp[sizeOf,typeInfo,hi,go_sem]
  have hzr':(zeroValue i).run P w = .ok zv w:=by simp[zeroValue,typeInfo,hi,hzv,go_sem]
  have hb:(Instr.buildSlice t 1 (#[(0,x)].map fun (p:Nat×Operand)=>(p.1,a.eval p.2))).run P w = .ok (.slice (some ⟨w.heap.size,0,none⟩) 1 1) (w.alloc (.cells out i)):=by
   have hng:¬(1*inf.size>2 ^ 24):=by omega
   unfold Instr.buildSlice;simp only[Sem.run_bind,run_underlying hu,Result.andThen_ok,hsr];rw[if_neg hng]
   have h0:¬1*inf.size=0:=by omega
   simp only[h0,if_false,Sem.run_bind,hzr',Result.andThen_ok,Sem.run_pure];have hm1:((Array.range (1*inf.size)).map (zv.cells[· % zv.cells.size]!))=madeCells zv.cells (1*inf.size):=rfl
   have hv1:(#[(0,x)].map fun (p:Nat×Operand)=>(p.1,a.eval p.2)).toList=[(0,a.eval x)]:=by simp
   rw[hm1,hv1,h7];simp[newRow,go_sem]
  simp only[execOp,Sem.run_bind];rw[hb];rfl
 have hc:=qdj w (.cells out i)
 have hblk:(w.alloc (.cells out i)).heap[w.heap.size]?=some (.cells out i (0,0)):=by have:=qjk w out i;unfold Blk at this;simpa using this
 have hwsz:(w.alloc (.cells out i)).heap.size=w.heap.size+1:=qbJ ..;generalize hw':w.alloc (.cells out i)=w' at hc hblk hwsz hrun;obtain⟨ls,hs,hA,hB,hkc,hj⟩:=r.o.ar q _ _ _ _ _ hobq;have hmn:γ.m (xs.length+1)=none:=by
  have:=hA.m xs.length;rw[List.getElem?_eq_none (by rw[hA.lenH];exact Nat.le_refl _)] at this;exact this
 let v0:Value := .slice (some ⟨b,0,none⟩) ys.length cap
 let m':Nat→Option Value:=fun x=>if x=xs.length+1 then some v0 else γ.m x
 let kc':Nat→Nat→Option Value:=fun o x=>if o=q∧x=xs.length+1 then some v0 else γ.kc o x
 let xs':List (List (D ee)×Option (List Nat)):=addP (A:=List (D ee)) xs ys
 have hlx:xs'.length=xs.length+1:=List.length_append
 let objs2:List OB:=(σ.objs.set p .dead).set q (.ar j (.sl ee) none xs' lent)
 have hl2:objs2.length=σ.objs.length:=by simp[objs2]
 have hmext:∀x b,γ.m x=some b→m' x=some b:=fun x b hx=>by
  show(if x=xs.length+1 then _ else _)=_;rw[if_neg (fun e=>by rw[e,hmn] at hx;cases hx)];exact hx
 have hg2:∀ {o':Nat} {ob':OB},objs2[o']?=some ob'→(o'=q∧ob' = .ar j (.sl ee) none xs' lent)∨(o'=p∧ob' = .dead)∨(o'≠p∧o'≠q∧σ.objs[o']?=some ob'):=fun ho'=>by
  rcases qbz ho' with ⟨g1,_,g2⟩ | ⟨g1,ho'⟩
  ·exact .inl ⟨g1,g2⟩
  ·rcases qbz ho' with ⟨g2,_,g3⟩ | ⟨g2,ho'⟩
   ·exact .inr (.inl ⟨g2,g3⟩)
   ·exact .inr (.inr ⟨g2,g1,ho'⟩)
 have hmut:∀o',Mut objs2 o'→Mut σ.objs o'∧o'≠p:=fun o' ⟨ob',g1,g2⟩=>by
  rcases hg2 g1 with ⟨_,rfl⟩ | ⟨_,rfl⟩ | ⟨g3,_,g4⟩
  ·cases g2
  ·cases g2
  ·exact⟨⟨ob',g4,g2⟩,g3⟩
 have hbB:b∉γ.B:=r.o.bo p b hmp hgb;have hbw:b<w.heap.size:=r.o.lt p b hmp.lt hgb
 have K0:Keep σ.objs γ w objs2 (γ.arn m' (b::γ.B) kc') w' σ.objs.length :=
  ⟨⟨fun k hk=>⟨Nat.lt_of_lt_of_le hk.lt hc.size,hk.s,fun o' hm=>hk.own o' (hmut o' hm).1,fun hm=>by
    rcases List.mem_cons.1 hm with e | e
    ·subst e;exact hk.own p hmp hgb
    ·exact hk.nb e⟩,hmext⟩,fun k hk=>hc.block k hk.lt (by simp),by rw[hl2];exact Nat.le_refl _,fun _ _=>rfl,hc.size,rfl,fun o' _ x u hu=>by
    show(if o'=q∧x=xs.length+1 then _ else _)=_;rw[if_neg]
    ·exact hu
    ·rintro ⟨rfl,rfl⟩
     rw[hj _ (Nat.lt_succ_self _)] at hu;cases hu⟩
 have hplt:p<σ.objs.length:=qw hob;have hlv:=hv
 obtain⟨hor,K⟩:=qkh (news:=[.arr i .ref [xs.length+1] false]) (gs:=[(.slice (some ⟨w.heap.size,0,none⟩) 1 1,some w.heap.size)]) (M:=[w.heap.size]) r.o K0 hl2 (Chg.trans' r.o.chg hc) rfl (by simp) (by simp) (fun o' ob' ho'=>by
   rcases hg2 ho' with ⟨rfl,rfl⟩ | ⟨rfl,rfl⟩ | ⟨_,_,ho'⟩
   ·exact .inr (.inr fun _=>r.o.rep _ _ hobq)
   ·exact .inr (.inl rfl)
   ·exact .inl ⟨r.o.rep o' ob' ho',fun b' hb'=>hc.block b' (r.o.lt o' b' (qw ho') hb') (by simp)⟩) (fun o' hm=>(hmut o' hm).1) (fun o' i e ys ho'=>by
   rcases hg2 ho' with ⟨_,e⟩ | ⟨_,e⟩ | ⟨_,_,ho'⟩
   ·cases e
   ·cases e
   ·exact ho') (fun b' hb'=>by
   simp only[List.mem_singleton] at hb';subst hb';exact⟨by omega,.inl r.o.chg.size,fun o' hm hg=>Nat.lt_irrefl _ (r.o.lt o' _ (hmut o' hm).1.lt hg),fun hi=>Nat.lt_irrefl _ hi.lt⟩) (fun K j' ob' g' hj' hg'=>by
   obtain⟨rfl,rfl⟩:=qgS hj';obtain⟨_,rfl⟩:=qgS hg';refine⟨⟨[v0],.inr ⟨w.heap.size,1,out,rfl,rfl,Row.of hblk,Nat.le_refl _,by unfold maxLen;omega,by rw[hosz];rfl,?_⟩,?_⟩,.inl rfl⟩
   ·rw[hout,ev];rfl
   ·refine⟨[v0],[],rfl,⟨rfl,.inr ⟨b,ys.length,cap,Nat.succ_ne_zero _,if_pos rfl,rfl⟩⟩,rfl⟩) (fun k hk=>by
   rcases List.mem_cons.1 hk with rfl | hk
   ·exact⟨by omega,r.o.own p _ hmp hgb⟩
   ·exact⟨Nat.lt_of_lt_of_le (r.o.bl k hk).1 hc.size,(r.o.bl k hk).2⟩) (fun o' b' hm hb' hB'=>by
   rcases List.mem_cons.1 hB' with rfl | hB'
   ·exact(hmut o' hm).2 (r.o.inj o' p b' (hmut o' hm).1 hmp hb' hgb)
   ·exact r.o.bo o' b' (hmut o' hm).1 hb' hB') (fun b' hb' hB'=>by
   simp only[List.mem_singleton] at hb';subst hb';rcases List.mem_cons.1 hB' with e | hB'
   ·omega
   ·exact Nat.lt_irrefl _ (r.o.bl _ hB').1) (fun K o' t2 p2 w2 x2 l2 ho'=>by
   by_cases hlt':o'<objs2.length
   rotate_left
   ·rw[List.getElem?_append_right (by omega)] at ho';obtain⟨_,e⟩:=qgS ho';cases e
   rw[List.getElem?_append_left hlt'] at ho';rcases hg2 ho' with ⟨rfl,e⟩ | ⟨_,e⟩ | ⟨_,hne',ho'⟩
   rotate_left
   ·cases e
   ·exact absurd (qre hqo o' t2 p2 w2 x2 l2 ho') hne'
   cases e;have hBs:∀k∈flatB ls,k<w.heap.size:=fun k hk=>(r.o.bl k (hB k hk)).1;have hlsB:b∉flatB ls:=fun hk=>hbB (hB b hk)
   have ef:flatB (ls++[(b,[])])=flatB ls++[b]:=by simp[flatB]
   refine⟨ls++[(b,[])],hs++[some v0],ArW.mk (Eq.trans (by simp[hA.len]) hlx.symm) (Eq.trans (by simp[hA.lenH]) hlx.symm) ?_ (fun i=>?_) ?_ (fun i q' x' h' e1 e2 e3=>?_),fun k hk=>?_,fun i u hu=>?_,fun x hx=>?_⟩
   ·show m' 0=none;have:m' 0=γ.m 0:=if_neg (by omega);rw[this];exact hA.m0
   ·show(if i+1=xs.length+1 then _ else _)=_;by_cases hi:i=xs.length
    ·subst hi;rw[if_pos rfl,←hA.lenH,List.getElem?_append_right (Nat.le_refl _)];simp
    ·rw[if_neg (by omega)];have hAm:γ.m (i+1)=(hs[i]?).join:=hA.m i;rw[hAm];by_cases hi2:i<xs.length
     ·rw[List.getElem?_append_left (by rw[hA.lenH];exact hi2)]
     ·rw[List.getElem?_eq_none (by rw[hA.lenH];omega),List.getElem?_eq_none (by simp[hA.lenH];omega)]
   ·rw[ef];refine List.nodup_append.2 ⟨hA.nd,by simp,fun k hk k' hk'=>?_⟩;simp at hk'
    rintro rfl
    exact hlsB (hk'▸hk)
   ·by_cases hi:i<xs.length
    ·have e2':xs[i]?=some x':=(List.getElem?_append_left (l₁:=xs) hi).symm.trans e2;rw[List.getElem?_append_left (by rw[hA.len];exact hi)] at e1;rw[List.getElem?_append_left (by rw[hA.lenH];exact hi)] at e3;exact(hA.node i q' x' h' e1 e2' e3).mono K.imm K.heap fun k hk=>hc.block k (hBs k (qeT e1 k hk)) (by simp)
    ·have hi':i=xs.length:=by
      have h9:i<xs'.length:=qw e2;omega
     subst hi';have e2':xs'[xs.length]?=some (ys,none):=by
      exact(List.getElem?_append_right (l₁:=(xs:List (List (D ee)×Option (List Nat)))) (l₂:=[((ys,none):List (D ee)×Option (List Nat))]) (Nat.le_refl _)).trans (by rw[Nat.sub_self];rfl)
     have e2:=e2'.symm.trans e2;rw[←hA.len,List.getElem?_append_right (Nat.le_refl _)] at e1;rw[←hA.lenH,List.getElem?_append_right (Nat.le_refl _)] at e3;simp only[Nat.sub_self,List.getElem?_cons_zero,Option.some.injEq] at e1 e3;subst e1;subst e3;cases e2;exact⟨v0,us,rfl,.inr ⟨b,cap,cur,rfl,rfl,(by obtain⟨fz,g1,g2⟩:=h10;exact⟨fz,(hc.block b hbw (by simp)).trans g1,g2⟩),h11,h12,h13,h14⟩,RepL.mono (fun d c hd=>Rep.mono K.imm K.heap ee hd (by simp)) hrep,rfl,rfl⟩
   ·rw[ef] at hk;show k∈b::γ.B;rcases List.mem_append.1 hk with hk | hk
    ·exact List.mem_cons_of_mem _ (hB k hk)
    ·simp at hk;subst hk;exact List.mem_cons_self
   ·show(if o'=o'∧i+1=xs.length+1 then _ else _)=_;by_cases hi:i=xs.length
    ·subst hi;rw[if_pos ⟨rfl,rfl⟩];rw[←hA.lenH,List.getElem?_append_right (Nat.le_refl _)] at hu;simp only[Nat.sub_self,List.getElem?_cons_zero,Option.some.injEq] at hu;exact congrArg some hu
    ·rw[if_neg (by omega)];have:i<xs.length:=by
      have:=qw hu;rw[List.length_append,hA.lenH] at this;simp at this;omega
     rw[List.getElem?_append_left (by rw[hA.lenH];exact this)] at hu;exact hkc i u hu
   ·have hx:xs'.length<x:=hx;show(if o'=o'∧x=xs.length+1 then _ else _)=_;rw[if_neg (by omega)]
    exact hj x (by omega))
 obtain⟨k1,k2⟩:=qch r K hor (fun o' ti e2 ys2 fz hx hlt'=>by
   rw[List.getElem?_append_left (by rw[hl2];exact hlt')] at hx;rcases hg2 hx with ⟨_,e⟩ | ⟨_,e⟩ | ⟨_,_,hx⟩
   ·cases e
   ·cases e
   ·exact⟨_,_,_,_,hx,rfl⟩) (fun o' ho' hb'=>by
   rw[List.getElem?_append_left (by rw[hl2];exact ho')];show((σ.objs.set p .dead).set q _)[o']?=_
   rw[qs (fun e=>by subst e;rw[hprq] at hb';cases hb'),qs (fun e=>by subst e;rw[hprp] at hb';cases hb')]) h4 (v := .slice (some ⟨w.heap.size,0,none⟩) 1 1)
  ⟨by simp[hl2],by have:=qcB (γ:=γ.arn m' (b::γ.B) kc') (n:=σ.objs.length) (j:=0) (gs:=[(Value.slice (some ⟨w.heap.size,0,none⟩) 1 1,some w.heap.size)]) rfl;rw[Nat.add_zero] at this;rw[this],_,_,_,rfl⟩
 exact EfA.val hrun hc h5 k1 k2
theorem qt7 (r:Rel F σ γ a w) {t:TypeId} {len:Nat} {parts:Array (Nat×Operand)} (ho:o.op = .buildSlice t len parts) (h:buildE P σ o t len parts k=some res):EfA P F σ γ a w o k res Q:=by
 obtain⟨i,hu,h⟩:=Option.bind_eq_some_iff.1 h;have hu:=qx hu
 cases hn:nodeT i with
 | true=>rw[hn,cond_true] at h;exact ef_rowS r ho hu h
 | false =>
 rw[hn,cond_false] at h;simp only[Option.bind_eq_some_iff,chk_some,Bool.and_eq_true] at h;obtain⟨τ,hτ,z,hz,ps,h1,⟨hle,hpure⟩,xs,h2,objs1,h3,σ',h4,h5⟩:=h;obtain⟨inf,zv,hi,hzv,hsz,hzs,hpos,hzr⟩:=qbv hz;obtain⟨e1,h6⟩:=qf0 r (qj σ) h1;obtain⟨f1,f2⟩:=qar r.o h3;have hle:=Nat.le_of_ble_eq_true hle;have hmade:(madeCells zv.cells (len*inf.size)).toList=(List.replicate len zv.cells.toList).flatten:=by
  rw[hsz,←hzs];exact qc9 _ (by omega) len
 obtain⟨out,h7,h8,h9,h10⟩:=qrn (S:=Imm objs1 γ w) (cells:=madeCells zv.cells (len*inf.size)) (vals:=(parts.map fun (p:Nat×Operand)=>(p.1,a.eval p.2)).toList) r.o f1.keep.imm hpure h2 (by
   rw[hmade];exact RepL.replicate (R:=fun x c=>Rep w (Imm objs1 γ w) τ x [] c) (hzr w _) len) (by simp[e1]) (fun j p q hp hq=>by
  simp only[Array.toList_map,List.getElem?_map,Option.map_eq_some_iff] at hp;obtain⟨p',hp',rfl⟩:=hp
  exact h6 j p' q hp' hq) f2
 have hlen:xs.length=len:=by simpa using h9
 have hosz:out.size=len*τ.size:=by rw[h10];simp[madeCells,hsz]
 refine ef_row (xs:=xs) (cells:=out) (cap:=len) r f1 (by omega) ?_ hosz ?_ ?_ h4 h5
 ·unfold maxLen;have:len≤len*τ.size:=Nat.le_mul_of_pos_right len hpos;omega
 ·rw[List.take_of_length_le]
  ·exact h8
  ·simp only[Array.length_toList,hosz,hlen];exact Nat.le_refl _
 ·obtain⟨dst,op,type,pos,after,guard⟩:=o;simp only at ho;subst ho;rw[hlen]
  have hsr:(sizeOf i).run P w = .ok inf.size w:=by simp[sizeOf,typeInfo,hi,go_sem]
  have hzr':(zeroValue i).run P w = .ok zv w:=by simp[zeroValue,typeInfo,hi,hzv,go_sem]
  rw[←hsz] at h7 hle hpos;have hb:(Instr.buildSlice t len (parts.map fun (p:Nat×Operand)=>(p.1,a.eval p.2))).run P w = .ok (.slice (some ⟨w.heap.size,0,none⟩) len len) (w.alloc (.cells out i)):=by
   generalize (parts.map fun (p:Nat×Operand)=>(p.1,a.eval p.2))=vals at h7
   have hng:¬(len*inf.size>2 ^ 24):=by omega
   unfold Instr.buildSlice;simp only[Sem.run_bind,run_underlying hu,Result.andThen_ok,hsr];rw[if_neg hng];by_cases h0:len*inf.size=0
   ·have hl0:len=0:=by
     rcases Nat.mul_eq_zero.1 h0 with h | h
     ·exact h
     ·omega
    subst hl0;simp only[Nat.zero_mul,if_true,Sem.run_pure,Result.andThen_ok,Sem.run_bind]
    have hm0:madeCells zv.cells 0 = #[]:=by simp[madeCells]
    rw[Nat.zero_mul,hm0] at h7;simp[h7,newRow,go_sem]
   ·simp only[h0,if_false,Sem.run_bind,hzr',Result.andThen_ok,Sem.run_pure];have hm1:((Array.range (len*inf.size)).map (zv.cells[· % zv.cells.size]!))=madeCells zv.cells (len*inf.size):=rfl;rw[hm1,h7];simp[newRow,go_sem]
  simp only[execOp,Sem.run_bind];rw[hb];rfl
theorem qrb (r:Rel F σ γ a w) {t:TypeId} {len:Nat} {parts:Array (Nat×Operand)} (ho:o.op = .buildSlice t len parts) (h:buildH P σ o t len parts k=some res):EfA P F σ γ a w o k res Q:=absurd h (by simp[buildH])
end
end Go.Den
namespace Go.Den
open Go.Eng
set_option linter.unusedVariables false
set_option linter.unusedSectionVars false
set_option linter.unusedSimpArgs false
variable [CT : Ctx]

section
variable {P : Program} {env : Env} {F : Fr} {σ : AState} {γ : Gh} {a : Act} {w : World} {o : Oper} {α : Type} {k : AState → Option α} {res : α} {Q : Exit → Act → World → Prop}

theorem qoh (w:World) (t ty e:TypeId) (i:TypeInfo) (ht:P.underlying t=some (.slice e)) (hi:P.info? e=some i) (g sLen sCap:Nat) (cur:Array Value) (hg:Row w g cur e)
  (a:Addr) (m c:Nat) (news:List Value) (hl:news.length=m*i.size) (hnews:∀j u,news[j]?=some u→w.cell? (a.add j)=some u) (h1:∀u∈news,u.oneCell'=true) (hroom:sLen+m≤sCap) (hfit:sLen*i.size+news.length≤cur.size) :
  (Builtin.append_ #[t,t] ty #[.slice (some ⟨g,0,none⟩) sLen sCap,.slice (some a) m c]).run P w =
   .ok (.slice (some ⟨g,0,none⟩) (sLen+m) sCap) (w.setRow g (cur.toList.take (sLen*i.size)++news++cur.toList.drop (sLen*i.size+news.length)).toArray):=by
 have:=run_append_room_cells (P:=P) w t ty e i ht hi g 0 sLen sCap a m c news hl hnews h1 hroom (fun j hj=>by rw[hg.cell];simp;omega) (fun j hj=>hg.fro (by omega));rw[Nat.zero_add] at this;rw[this];obtain⟨fz,hg,_⟩:=hg;rw[qen news (sLen*i.size) cur w hg hfit]
theorem qvI {S:Sp} {t ty i:TypeId} {inf:TypeInfo} {z:Value} {τ:Ty} (hu:P.underlying t=some (.slice i)) (hi:P.info? i=some inf) (hz:inf.zero=some z) (hsz:inf.size=τ.size) (hzs:z.cells.size=τ.size)
  {v0:Value} {M0:List Nat} {n:Nat} {us:List Value} (hown:OwnR w i τ.size v0 M0 n us) (hus:us.length=n*τ.size) {ao:Option Addr} {cap:Nat} {news:List Value} {ys:List (D τ)} (hrep:RepL (fun x c=>Rep w S τ x [] c) ys news) (hne:ys≠[]→∃ad,ao=some ad∧CellsAt w ad news) (hroom:(n+ys.length)*inf.bytes≤140737488355328) (h47:n+ys.length≤140737488355328) :
  ∃v' w' M',(Builtin.append_ #[t,t] ty #[v0,.slice ao ys.length cap]).run P w = .ok v' w'∧OwnR w' i τ.size v' M' (n+ys.length) (us++news)∧Chg M0 w w'∧(M'=M0∨M'=[w.heap.size]∧w.heap.size<w'.heap.size):=by
 have hnl:=hrep.length (Rep.slen τ)
 have hgrown:∀(base:Option Addr) (old:Nat),old<n+ys.length→(Builtin.firstCells inf.size n (.slice base n old)).run P w.drew = .ok us.toArray w.drew→ys≠[]→∃w',(Builtin.append_ #[t,t] ty #[.slice base n old,.slice ao ys.length cap]).run P w = .ok (.slice (some ⟨w.heap.size,0,none⟩) (n+ys.length) (grownCap w (n+ys.length) old i)) w' ∧
   OwnR w' i τ.size (.slice (some ⟨w.heap.size,0,none⟩) (n+ys.length) (grownCap w (n+ys.length) old i)) [w.heap.size] (n+ys.length) (us++news)∧Chg [] w w'∧w.heap.size<w'.heap.size:=by
  intro base old hold hfirst hys;obtain⟨ad,rfl,hcell⟩:=hne hys;have hS:Src P inf.size t (.slice (some ad) ys.length cap) ys.length news w:=by
   have h1:∀u∈news,u.oneCell'=true:=RepL.all (fun x c hx=>Rep.one τ hx) hrep;exact Src.ofSlice (P:=P) (size:=inf.size) w hu ad ys.length cap news (by rw[hnl,hsz]) hcell h1
  have hr:=run_append_grow_src (P:=P) w t t ty i inf z hu hi hz base n old us hfirst _ ys.length news hS hold (by omega) (growslice_fits hold hroom);refine⟨_,hr,.inr ⟨w.heap.size,_,_,rfl,rfl,Row.of (heap_alloc_new w.drew _),grownCap_ge w _ _ _,grownCap_le_maxLen w _ _ _ (by unfold maxLen;omega),?_,?_⟩,?_,?_⟩
  ·have hge:=grownCap_ge w (n+ys.length) old i;simp only[Array.size_append,List.size_toArray,size_zeroCells,hzs,List.length_append,hus,hnl,←Nat.add_mul];congr 1;omega
  ·have hl:(us++news).length=(n+ys.length)*τ.size:=by rw[List.length_append,hus,hnl,Nat.add_mul]
   rw[Array.toList_append,←hl];exact List.take_left
  ·have:=qdj w.drew (.cells ((us++news).toArray++Builtin.zeroCells z.cells (grownCap w (n+ys.length) old i-(n+ys.length))) i);exact⟨this.os,this.tape,this.output,this.size,this.block,fun e=>Nat.le_trans (Nat.le_succ _) (this.drawn e)⟩
  ·have:=qbJ w.drew (.cells ((us++news).toArray++Builtin.zeroCells z.cells (grownCap w (n+ys.length) old i-(n+ys.length))) i);rw[this];show w.heap.size<w.heap.size+1;omega
 have hnil:∀(base:Option Addr) (old:Nat),n≤old→ys=[]→(Builtin.append_ #[t,t] ty #[.slice base n old,.slice ao ys.length cap]).run P w = .ok (.slice base n old) w:=by
  intro base old hno hys;subst hys;have hf:(Builtin.firstCells inf.size 0 (.slice ao 0 cap)).run P w = .ok #[] w:=by
   cases ao<;>simp[Builtin.firstCells,loadCells,loadCellsFrom]
  cases base with
  | none=>simp[Builtin.append_,run_underlying hu,sizeOf,typeInfo,hi,Builtin.lenOf,hno,hf]
  | some ad=>simp[Builtin.append_,run_underlying hu,sizeOf,typeInfo,hi,Builtin.lenOf,hno,hf,storeCells]
 by_cases hys:ys=[]
 ·have hnews:news=[]:=by
   subst hys;exact hrep
  subst hnews
  have hlen:ys.length=0:=by rw[hys];rfl
  have e2:n+ys.length=n:=by omega
  rcases hown with ⟨hM,⟨ao0,rfl⟩,hn0,hu0⟩ | ⟨b,cap0,cur,hM,rfl,hh,h4,h5,h6,h7⟩
  ·subst hn0;refine⟨_,w,M0,hnil ao0 0 (Nat.le_refl _) hys,.inl ⟨hM,⟨ao0,rfl⟩,by omega,by simp[hu0]⟩,Chg.refl _ _,.inl rfl⟩
  ·refine⟨_,w,M0,hnil _ _ h4 hys,.inr ⟨b,cap0,cur,hM,?_,hh,?_,h5,h6,?_⟩,Chg.refl _ _,.inl rfl⟩
   ·rw[e2]
   ·omega
   ·rw[e2,h7];simp
 ·have hpos:0<ys.length:=List.length_pos_iff.2 hys;rcases hown with ⟨hM,⟨ao0,rfl⟩,hn0,hu0⟩ | ⟨b,cap0,cur,hM,rfl,hh,h4,h5,h6,h7⟩
  ·subst hn0;subst hu0;have hf:(Builtin.firstCells inf.size 0 (.slice ao0 0 0)).run P w.drew = .ok #[] w.drew:=by
    cases ao0<;>simp[Builtin.firstCells,loadCells,loadCellsFrom]
   obtain⟨w',g1,g2,g3,g4⟩:=hgrown ao0 0 (by omega) hf hys;exact⟨_,w',_,g1,g2,by rw[hM];exact g3,.inr ⟨rfl,g4⟩⟩
  ·by_cases hroom2:n+ys.length≤cap0
   ·obtain⟨ad,rfl,hcell⟩:=hne hys;have h1:∀u∈news,u.oneCell'=true:=RepL.all (fun x c hx=>Rep.one τ hx) hrep
    have hfit:n*τ.size+news.length≤cur.size:=by rw[hnl,h6,←Nat.add_mul];exact Nat.mul_le_mul_right _ hroom2
    have hr:=qoh (P:=P) w t ty i inf hu hi b n cap0 cur hh ad ys.length cap news (by rw[hnl,hsz]) hcell h1 hroom2 (by rw[hsz];exact hfit);rw[hsz] at hr;refine⟨_,_,M0,hr,.inr ⟨b,cap0,_,hM,rfl,hh.set _ (by simp only[List.size_toArray,List.length_append,List.length_take,List.length_drop,Array.length_toList];omega),hroom2,h5,?_,?_⟩,by rw[hM];exact qe3,.inl rfl⟩
    ·simp only[List.size_toArray,List.length_append,List.length_take,List.length_drop,Array.length_toList];omega
    ·rw[h7]
     have hl:(us++news).length=(n+ys.length)*τ.size:=by rw[List.length_append,hus,hnl,Nat.add_mul]
     rw[←hl];exact List.take_left
   ·have hf:(Builtin.firstCells inf.size n (.slice (some ⟨b,0,none⟩) n cap0)).run P w.drew = .ok us.toArray w.drew:=by
     have hcell:CellsAt w ⟨b,0,none⟩ us:=by
      have:=CellsAt.take (hh.blk 0) (n*τ.size);rw[List.drop_zero,h7] at this;exact this
     exact run_firstCells_some w.drew inf.size n ⟨b,0,none⟩ n cap0 us (by rw[hus,hsz]) (fun j v hv=>by simpa using hcell j v hv)
    obtain⟨w',g1,g2,g3,g4⟩:=hgrown (some ⟨b,0,none⟩) cap0 (by omega) hf hys;exact⟨_,w',_,g1,g2,g3.mono (by simp),.inr ⟨rfl,g4⟩⟩

inductive Cons (objs:List OB) (γ:Gh) (prO:Nat):List OB→List Nat→Prop
 | no:Cons objs γ prO objs []
 | yes (p:Nat) (ob:OB) (h:objs[p]?=some ob) (hm:mutOb ob=true) (hp:bitB prO p=false):Cons objs γ prO (objs.set p .dead) (γ p).2.toList
theorem qoR {objs objs0:List OB} {M0 M':List Nat} {prO:Nat} {w':World} {nob:OB} {v':Value} (r:ORel F objs γ w) (hcons:Cons objs γ prO objs0 M0) (hc:Chg M0 w w')
  (hM:M'=M0∨M'=[w.heap.size]∧w.heap.size<w'.heap.size) (hM1:M'=(M'.head?).toList) (hmn:mutOb nob=true) (hnob:Keep objs γ w (objs0++[nob]) (upd γ objs.length [(v',M'.head?)]) w' objs.length→ObR (objs0++[nob]) (upd γ objs.length [(v',M'.head?)]) w' nob (v',M'.head?)) :
  ORel F (objs0++[nob]) (upd γ objs.length [(v',M'.head?)]) w'∧Keep objs γ w (objs0++[nob]) (upd γ objs.length [(v',M'.head?)]) w' objs.length:=by
 have hlen:objs0.length=objs.length:=by cases hcons<;>simp
 have hmut:∀o,Mut objs0 o→Mut objs o∧∀b∈M0,(γ o).2≠some b:=by
  cases hcons with
  | no=>exact fun o h=>⟨h,fun b hb=>by cases hb⟩
  | yes p ob0 hp hmb hpr =>
   rintro o ⟨ob,h1,h2⟩
   by_cases e1:p=o
   ·subst e1;rw[List.getElem?_set_self (qw hp)] at h1;cases h1;cases h2
   ·rw[qs e1] at h1;exact⟨⟨ob,h1,h2⟩,fun b hb hb'=>e1 (r.inj p o b ⟨_,hp,hmb⟩ ⟨ob,h1,h2⟩ (by simpa using hb) hb')⟩
 have hM0:∀b∈M0,(F.w0.heap.size≤b∨b∈F.M)∧b<w.heap.size∧¬Imm objs γ w b:=by
  cases hcons with
  | no=>intro b hb;cases hb
  | yes p ob0 hp hmb hpr =>
   intro b hb
   have hb:(γ p).2=some b:=by simpa using hb
   exact⟨r.own p b ⟨_,hp,hmb⟩ hb,r.lt p b (qw hp) hb,fun hi=>hi.own p ⟨_,hp,hmb⟩ hb⟩
 have hold:∀o ob,objs0[o]?=some ob→objs[o]?=some ob∧(∀b,(γ o).2=some b→ob ≠ .dead→b∉M0)∨ob = .dead:=by
  cases hcons with
  | no=>exact fun o ob h => .inl ⟨h,fun b hb _ hm=>by cases hm⟩
  | yes p ob0 hp hmb hpr =>
   intro o ob h;by_cases e1:p=o
   ·subst e1;rw[List.getElem?_set_self (qw hp)] at h;cases h;exact .inr rfl
   ·rw[qs e1] at h;refine .inl ⟨h,fun b hb hnd hm=>?_⟩
    have hm:(γ p).2=some b:=by simpa using hm
    cases ob with
    | dead=>exact hnd rfl
    | bld _ _=>exact e1 (r.inj p o b ⟨_,hp,hmb⟩ ⟨_,h,rfl⟩ hm hb)
    | ar _ _ _ _ _ =>
     have h0:(γ o).2=none:=r.rep o _ h;rw[h0] at hb;cases hb
    | mbr _ _ _=>exact e1 (r.inj p o b ⟨_,hp,hmb⟩ ⟨_,h,rfl⟩ hm hb)
    | hr _ _ _ _ _ _=>exact e1 (r.inj p o b ⟨_,hp,hmb⟩ ⟨_,h,rfl⟩ hm hb)
    | nilr=>exact e1 (r.inj p o b ⟨_,hp,hmb⟩ ⟨_,h,rfl⟩ hm hb)
    | mp _ _ _=>exact e1 (r.inj p o b ⟨_,hp,hmb⟩ ⟨_,h,rfl⟩ hm hb)
    | box l=>exact e1 (r.inj p o b ⟨_,hp,hmb⟩ ⟨_,h,rfl⟩ hm hb)
    | fbx l =>
     obtain⟨b2,_,_,e2,_,_,hi⟩:=r.rep o _ h;rw[e2] at hb
     obtain rfl:b2=b:=by simpa using hb
     exact hi.own p ⟨_,hp,hmb⟩ hm
    | arr i2 e2 xs2 fz =>
     cases fz with
     | false=>exact e1 (r.inj p o b ⟨_,hp,hmb⟩ ⟨_,h,rfl⟩ hm hb)
     | true=>exact(r.frz o i2 e2 xs2 b h hb).own p ⟨_,hp,hmb⟩ hm
 have K0:Keep objs γ w objs0 γ w' objs.length:=⟨⟨fun k hk=>⟨Nat.lt_of_lt_of_le hk.lt hc.size,hk.s,fun o hm=>hk.own o (hmut o hm).1,hk.nb⟩,fun _ _ h=>h⟩,fun k hk=>hc.block k hk.lt (fun hm=>(hM0 k hm).2.2 hk),by omega,fun _ _=>rfl,hc.size,rfl,fun _ _ _ _ h=>h⟩;have hM0B:∀b∈M0,b∉γ.B:=by
  cases hcons with
  | no=>intro b hb;cases hb
  | yes p ob0 hp hmb hpr =>
   intro b hb;exact r.bo p b ⟨_,hp,hmb⟩ (by simpa using hb)
 have har:SameAr objs objs0:=by
  cases hcons with
  | no=>exact SameAr.refl _
  | yes p ob0 hp hmb hpr=>exact SameAr.set _ _ rfl
 have hchg:Chg F.M F.w0 w':=by
  have h0:=r.chg;refine⟨hc.os.trans h0.os,hc.tape.trans h0.tape,hc.output.trans h0.output,Nat.le_trans h0.size hc.size,fun k hk hn=>(hc.block k (Nat.lt_of_lt_of_le hk h0.size) fun hm=>?_).trans (h0.block k hk hn),fun e=>Nat.le_trans (h0.drawn e) (hc.drawn e)⟩;rcases(hM0 k hm).1 with h1 | h1
  ·omega
  ·exact hn h1
 refine qry (M:=M') (gs:=[(v',M'.head?)]) r K0 hlen hchg rfl (by simp;exact hM1) ?_ (fun o ob ho=>?_) (fun o h=>(hmut o h).1) (fun o i2 e2 xs2 ho=>?_) (fun b hb=>?_) (fun K j ob g hj hg=>?_) (fun b hb hB=>?_) (fun k hk=>hc.block k (r.bl k hk).1 fun hm=>hM0B k hm hk) har
 ·rw[hM1];cases M'.head?<;>simp
 ·rcases hold o ob ho with ⟨h1,h2⟩ | h1
  ·by_cases hd:ob = .dead
   ·exact .inr hd
   ·exact .inl ⟨r.rep o ob h1,fun b hb=>hc.block b (r.lt o b (qw h1) hb) (h2 b hb hd)⟩
  ·exact .inr h1
 ·rcases hold o _ ho with ⟨h1,_⟩ | h1
  ·exact h1
  ·cases h1
 ·rcases hM with h | ⟨h,hlt⟩
  ·rw[h] at hb;exact⟨Nat.lt_of_lt_of_le (hM0 b hb).2.1 hc.size,(hM0 b hb).1,fun o hm=>(hmut o hm).2 b hb,(hM0 b hb).2.2⟩
  ·rw[h] at hb;simp at hb;subst hb;exact⟨hlt,.inl r.chg.size,fun o hm hb'=>Nat.lt_irrefl _ (r.lt o _ (hmut o hm).1.lt hb'),fun hi=>Nat.lt_irrefl _ hi.lt⟩
 ·obtain⟨rfl,rfl⟩:=qgS hj;obtain⟨_,rfl⟩:=qgS hg;exact⟨hnob K,hmn⟩
 ·rcases hM with h | ⟨h,hlt⟩
  ·rw[h] at hb;exact hM0B b hb hB
  ·rw[h] at hb;simp at hb;subst hb;exact Nat.lt_irrefl _ (r.bl _ hB).1
theorem cons_push {objs objs0:List OB} {M0 M':List Nat} {prO:Nat} {w':World} {i:TypeId} {τ:Ty} {zs:List (D τ)} {us:List Value} {v':Value} (r:ORel F objs γ w) (hcons:Cons objs γ prO objs0 M0) (hc:Chg M0 w w')
  (hM:M'=M0∨M'=[w.heap.size]∧w.heap.size<w'.heap.size) (hown:OwnR w' i τ.size v' M' zs.length us) (hrep:RepL (fun x c=>Rep w (Imm objs γ w) τ x [] c) zs us) :
  ORel F (objs0++[.arr i τ zs false]) (upd γ objs.length [(v',M'.head?)]) w'∧Keep objs γ w (objs0++[.arr i τ zs false]) (upd γ objs.length [(v',M'.head?)]) w' objs.length:=by
 have hM1:M'=(M'.head?).toList:=by
  rcases hown with ⟨h,_⟩ | ⟨b,_,_,h,_⟩<;>rw[h]<;>rfl
 exact qoR r hcons hc hM hM1 rfl fun K=>⟨us,by rw[←hM1];exact hown,RepL.keep K hrep⟩
theorem qq1 {objs objs0:List OB} {M0:List Nat} {prO:Nat} (h:Cons objs γ prO objs0 M0) {news:List OB}:SameLen objs (objs0++news):=by
 cases h with
 | no=>exact qbQ
 | yes p ob0 hp hmb hpr =>
  intro o ti e' xs' fz hx hlt;rw[List.getElem?_append_left (by simpa using hlt)] at hx;by_cases e1:p=o
  ·subst e1;rw[List.getElem?_set_self hlt] at hx;cases hx
  ·rw[qs e1] at hx;exact⟨_,_,_,_,hx,rfl⟩
theorem prot_cons {objs objs0:List OB} {M0:List Nat} {prO:Nat} (h:Cons objs γ prO objs0 M0) {news:List OB}:∀o,o<objs.length→bitB prO o=true→(objs0++news)[o]?=objs[o]?:=by
 cases h with
 | no=>intro o ho _;rw[List.getElem?_append_left ho]
 | yes p ob0 hp hmb hpr =>
  intro o ho hb;rw[List.getElem?_append_left (by simpa using ho),qs (fun e1=>by subst e1;rw[hpr] at hb;cases hb)]
theorem qmj {objs0:List OB} {M0 M':List Nat} {w':World} {i:TypeId} {τ:Ty} {zs:List (D τ)} {us:List Value} {v':Value} {σ':AState} (r:Rel F σ γ a w) (hcons:Cons σ.objs γ σ.prO objs0 M0) (hc:Chg M0 w w')
  (hM:M'=M0∨M'=[w.heap.size]∧w.heap.size<w'.heap.size) (hown:OwnR w' i τ.size v' M' zs.length us) (hrep:RepL (fun x c=>Rep w (Imm σ.objs γ w) τ x [] c) zs us)
  (hrun:(execOp a.eval o).run P w = .ok (.value v') w') (hput:AState.new { σ with objs:=objs0 } o.dst (.arr i τ zs false) (.c (.os objs0.length))=some σ') (hk:k σ'=some res):EfR P F σ γ a w o k res Q:=by
 obtain⟨ho,K⟩:=cons_push r.o hcons hc hM hown hrep
 have hlen:objs0.length=σ.objs.length:=by cases hcons<;>simp
 obtain⟨h1,h2⟩:=qch r K ho (qq1 hcons) (prot_cons hcons) hput (v:=v')
  ⟨by simp,by
   have:=qcB (γ:=γ) (n:=σ.objs.length) (j:=0) (gs:=[(v',M'.head?)]) rfl;rw[Nat.add_zero] at this
   rw[hlen,this],by
   rcases hown with ⟨_,⟨ao,rfl⟩,_⟩ | ⟨b,cap,cur,_,rfl,_⟩
   ·exact⟨_,_,_,rfl⟩
   ·exact⟨_,_,_,rfl⟩⟩
 exact EfR.val hrun hk h1 h2
theorem qfw (s:ByteArray):(qcp s).length=s.size:=by
 rw[qcp,List.length_map,Array.length_toList];rfl
theorem qoy {w:World} {S:Sp}:∀l:List UInt8,RepL (fun (x:D (.int .u8)) c=>Rep w S (.int .u8) x [] c) (l.map fun c=>(c.toNat:Int)) (l.map fun c=>Value.int .u8 (c.toNat:Int))
 | []=>rfl
 | c::l=>⟨[.int .u8 (c.toNat:Int)],_,rfl,⟨rfl,rfl⟩,qoy l⟩
theorem qfx {α:Type} {b:Bool} {x y:Option α} {res:α} (h:(bif b then x else y)=some res):(b=true∧x=some res)∨(b=false∧y=some res):=by
 cases b
 ·exact .inr ⟨rfl,h⟩
 ·exact .inl ⟨rfl,h⟩
theorem ef_bytesD (r:Rel F σ γ a w) {s d:TypeId} {x:Operand} (ho:o.op = .convert s d x) (h:bytesD P σ o s d x k=some res):EfA P F σ γ a w o k res Q:=absurd h (by simp[bytesD])
theorem ef_bytes (r:Rel F σ γ a w) {s d:TypeId} {x:Operand} (ho:o.op = .convert s d x) (h:bytesE P σ o s d x k=some res):EfR P F σ γ a w o k res Q:=by
 unfold bytesE at h;rcases qfx h with ⟨_,h⟩ | ⟨_,h⟩
 ·exact(ef_bytesD r ho h).toR
 simp only[Option.bind_eq_some_iff,chk_some,req_some] at h;obtain⟨i,hu,hty,pv,h1,b,h2,hsz,σ',h3,h4⟩:=h;have hu:=qx hu;have hsz:=Nat.le_of_ble_eq_true hsz;have e1:a.eval x = .string b:=ev_str r (qj σ) h1 h2;simp only[Bool.and_eq_true,qgx,strTy] at hty;obtain⟨hs,hd,hmem⟩:=hty;have hs:P.underlying s=some .string:=by
  split at hs
  ·assumption
  ·cases hs
 rw[hu] at hd;have he:P.underlying i=some (.int .u8):=by
  simp only at hd;split at hd
  ·assumption
  ·cases hd
 have hrun:=run_bytes_of_string (P:=P) w s d i b hs hu he;have hge:=grownCap_ge w b.size 0 i;have hbs:(bytesRow b (grownCap w b.size 0 i)).size=grownCap w b.size 0 i:=by
  have:b.data.size=b.size:=rfl;simp only[bytesRow,Array.size_append,Array.size_map,Array.size_replicate];omega
 refine qmj (M0:=[]) (M':=[w.heap.size]) (w':=w.drew.alloc (.cells (bytesRow b (grownCap w b.size 0 i)) i ((bytesRow b (grownCap w b.size 0 i)).size,(bytesRow b (grownCap w b.size 0 i)).size+1))) (zs:=qcp b) (τ := .int .u8) (v' := .slice (some ⟨w.heap.size,0,none⟩) (qcp b).length (grownCap w b.size 0 i))
  (us:=b.data.toList.map fun c=>Value.int .u8 (c.toNat:Int)) r .no ?_ (.inr ⟨rfl,?_⟩) (.inr ⟨w.heap.size,grownCap w b.size 0 i,_,rfl,rfl,⟨_,heap_alloc_new w.drew _,.inr ⟨Nat.le_refl _,hmem⟩⟩,Nat.le_trans (Nat.le_of_eq (qfw b)) hge,
   grownCap_le_maxLen w _ _ _ (by unfold maxLen;omega),by rw[hbs];simp[Ty.size],?_⟩) (qoy _) ?_ h3 h4
 ·have:=qdj w.drew (.cells (bytesRow b (grownCap w b.size 0 i)) i ((bytesRow b (grownCap w b.size 0 i)).size,(bytesRow b (grownCap w b.size 0 i)).size+1));exact⟨this.os,this.tape,this.output,this.size,this.block,fun e=>Nat.le_trans (Nat.le_succ _) (this.drawn e)⟩
 ·rw[qbJ w.drew];show w.heap.size<w.heap.size+1;omega
 ·show List.take ((qcp b).length*1) (bytesRow b (grownCap w b.size 0 i)).toList=_;rw[show(qcp b).length*1=b.size from(Nat.mul_one _).trans (qfw b),bytesRow,Array.toList_append,Array.toList_map]
  have hl:(b.data.toList.map fun c=>Value.int .u8 (c.toNat:Int)).length=b.size:=by rw[List.length_map,Array.length_toList];rfl
  rw[←hl];exact List.take_left
 ·obtain⟨dst,op,type,pos,after,guard⟩:=o;simp only at ho;subst ho;simp only[execOp,Sem.run_bind,e1];rw[hrun,←qfw b];rfl
theorem ef_mark (r:Rel F σ γ a w) {s d:TypeId} {x:Operand} (ho:o.op = .convert s d x) (h:markE P σ o s d x k=some res):EfR P F σ γ a w o k res Q:=absurd h (by simp[markE])
theorem qh0 (r:Rel F σ γ a w) {i:TypeId} {τ:Ty} {c:Cv} {q:List (D τ)×List OB} {v:Value} (h:qr3 σ.objs σ.prO i τ c=some q) (hv:VR σ.objs γ w c v) :
  ∃M0 us,Cons σ.objs γ σ.prO q.2 M0∧OwnR w i τ.size v M0 q.1.length us∧RepL (fun x c=>Rep w (Imm σ.objs γ w) τ x [] c) q.1 us:=by
 unfold qr3 at h;split at h
 ·rename_i p;obtain⟨ob,hob,h2⟩:=Option.bind_eq_some_iff.1 h
  cases ob with
  | arr i' τ' xs fz =>
   cases fz with
   | true=>simp at h2
   | false =>
    simp only[chk_some,Bool.and_eq_true,Bool.not_eq_true',Option.bind_eq_some_iff,Option.some.injEq] at h2;obtain⟨⟨hi,hp⟩,ys,h3,rfl⟩:=h2;have hi:=Nat.eq_of_beq_eq_true hi;subst hi;obtain⟨rfl,h3⟩:=qak h3;subst h3;obtain⟨us,h4,h5⟩:=r.o.rep p _ hob;obtain⟨_,rfl,_⟩:=hv;exact⟨_,us,.yes p _ hob rfl hp,h4,h5⟩
  | mbr i' τ' x =>
   simp only[chk_some,Bool.and_eq_true,Bool.not_eq_true',Option.bind_eq_some_iff,Option.some.injEq] at h2;obtain⟨⟨hi,hp⟩,y,h3,rfl⟩:=h2;have hi:=Nat.eq_of_beq_eq_true hi;subst hi;obtain⟨rfl,h3⟩:=qoH h3;subst h3;obtain⟨_,rfl,_⟩:=hv;rcases r.o.rep p _ hob with ⟨rfl,h4⟩ | ⟨ys,us,rfl,h4,h5⟩
   ·exact⟨_,[],.yes p _ hob rfl hp,.inl ⟨by rw[h4];rfl,⟨none,by rw[h4]⟩,rfl,rfl⟩,rfl⟩
   ·exact⟨_,us,.yes p _ hob rfl hp,h4,h5⟩
  | nilr =>
   simp only[Option.some.injEq] at h2;subst h2;obtain⟨_,rfl,_⟩:=hv;exact⟨[],[],.no,.inl ⟨rfl,⟨none,by rw[show γ p=(.slice none 0 0,none) from r.o.rep p _ hob]⟩,rfl,rfl⟩,rfl⟩
  | _=>simp at h2
 ·cases h;simp only[VR] at hv;subst hv;exact⟨[],[],.no,.inl ⟨rfl,⟨_,rfl⟩,rfl,rfl⟩,rfl⟩
 ·cases h;obtain⟨ao,rfl⟩:=hv;exact⟨[],[],.no,.inl ⟨rfl,⟨_,rfl⟩,rfl,rfl⟩,rfl⟩
 ·cases h
theorem srcOf {τ:Ty} (r:ORel F σ.objs γ w) {c:Cv} {ys:List (D τ)} {v:Value} (h:ofSl τ σ.objs c=some ys) (hv:VR σ.objs γ w c v):∃ao cap news,v = .slice ao ys.length cap∧RepL (fun x c=>Rep w (Imm σ.objs γ w) τ x [] c) ys news∧(ys≠[]→∃ad,ao=some ad∧CellsAt w ad news):=by
 cases c with
 | os p =>
  simp only[ofSl,Option.bind_eq_some_iff] at h;obtain⟨ob,hob,h⟩:=h
  cases ob with
  | arr i2 e2 ys2 fz2 =>
   simp only at h;obtain⟨rfl,h⟩:=qak h;subst h;obtain⟨us2,h9,h10⟩:=r.rep p _ hob;obtain⟨_,rfl,_⟩:=hv;by_cases hys:ys2=[]
   ·subst hys;rcases h9 with ⟨_,⟨ao,h3⟩,_⟩ | ⟨b,cap,cur,_,h3,_⟩
    ·exact⟨ao,0,[],h3,rfl,fun hn=>absurd rfl hn⟩
    ·exact⟨_,cap,[],h3,rfl,fun hn=>absurd rfl hn⟩
   ·obtain⟨b,cap,h1,h2,h3,h4⟩:=h9.cells (fun hl=>hys (List.eq_nil_of_length_eq_zero hl));exact⟨_,cap,us2,h2,h10,fun _=>⟨_,rfl,h4⟩⟩
  | hr i2 p2 q2 j2 ys2 hole =>
   cases hole with
   | some _=>simp at h
   | none =>
    simp only at h;obtain⟨rfl,h⟩:=qak h;subst h;obtain⟨us2,h9,h10,_⟩:=r.rep p _ hob;obtain⟨_,rfl,_⟩:=hv;by_cases hys:ys2=[]
    ·subst hys;rcases h9 with ⟨_,⟨ao,h3⟩,_⟩ | ⟨b,cap,cur,_,h3,_⟩
     ·exact⟨ao,0,[],h3,rfl,fun hn=>absurd rfl hn⟩
     ·exact⟨_,cap,[],h3,rfl,fun hn=>absurd rfl hn⟩
    ·obtain⟨b,cap,h1,h2,h3,h4⟩:=h9.cells (fun hl=>hys (List.eq_nil_of_length_eq_zero hl));exact⟨_,cap,us2,h2,hr_rep h10,fun _=>⟨_,rfl,h4⟩⟩
  | _=>simp at h
 | _ =>
  have:=qqG (S:=Imm σ.objs γ w) r (Sp.le.refl _) h hv (fun p hp=>by cases hp);obtain⟨_,ao,cap,us,h1,_,h3,h4⟩:=this;simp only[List.cons.injEq,and_true] at h1;exact⟨ao,cap,us,h1,h3,fun hn=>by obtain⟨ad,h5,_,h6⟩:=h4 hn;exact⟨ad,h5,h6⟩⟩
theorem qo3 (r:Rel F σ γ a w) {args:Array Operand} {ats:Array TypeId} {s x:Operand} {t:TypeId} (ho:o.op = .call ⟨.builtin .append,args,ats⟩) (ha:args.toList=[s,x]) (hat:ats.toList=[t,t]) (h:qpJ P σ o s x t k=some res):EfR P F σ γ a w o k res Q:=by
 have ha':args = #[s,x]:=by rw[←Array.toList_inj,ha]
 have hat':ats = #[t,t]:=by rw[←Array.toList_inj,hat]
 subst ha';subst hat';simp only[qpJ,Option.bind_eq_some_iff,chk_some,req_some,Bool.and_eq_true,Bool.not_eq_true'] at h;obtain⟨i,hu,τ,hτ,z,hz,b,h1,bc,h2,u,h3,uc,h4,inf,hinf,q,h5,ys,h6,⟨hsrc,hby,hpure⟩,hroom,σ',h7,h8⟩:=h;have hu:=qx hu;obtain⟨inf',zv,hi,hzv,hsz,hzs,hpos,hzr⟩:=qbv hz;rw[hinf] at hi;cases hi;obtain⟨hr1,hr2⟩:=qjV hroom hby
 have hb:VR σ.objs γ w bc (a.eval s):=by have:=qf r (qj σ) h1;rw[qdy h2] at this;exact this
 have hxv:VR σ.objs γ w uc (a.eval x):=by have:=qf r (qj σ) h3;rw[qdy h4] at this;exact this
 obtain⟨M0,us,hcons,hown,hrep⟩:=qh0 r h5 hb;obtain⟨ao,cap,news,e1,hrepn,hne⟩:=srcOf r.o h6 hxv;obtain⟨v',w',M',hrun,hown',hch,hM⟩:=qvI (cap:=cap) (ty:=o.type) hu hinf hzv hsz hzs hown (hrep.length (Rep.slen τ)) hrepn hne hr1 hr2;refine qmj r hcons hch hM (zs:=q.1++ys) (by rw[List.length_append];exact hown') (hrep.append hrepn) ?_ h7 h8;obtain⟨dst,op,type,pos,after,guard⟩:=o;simp only at ho;subst ho;rw[BigFrame.execOp_builtin,BigFrame.builtin_append]
 have:(#[s,x].map a.eval) = #[a.eval s,.slice ao ys.length cap]:=by simp only[List.map_toArray,List.map_cons,List.map_nil,e1]
 rw[this];simp only[Sem.run_bind,hrun,Result.andThen_ok,Sem.run_pure]

theorem qvz (r:Rel F σ γ a w) {args:Array Operand} {ats:Array TypeId} {s x:Operand} {t:TypeId} {p sz1 lo1 n1:Nat} (hs:ev σ [] s=some (.vw p sz1 lo1 n1)) (ho:o.op = .call ⟨.builtin .append,args,ats⟩) (ha:args.toList=[s,x]) (hat:ats.toList=[t,t]) (h:qtG P σ o p lo1 n1 x t k=some res):EfR P F σ γ a w o k res Q:=absurd h (by simp[qtG])
theorem quZ (r:Rel F σ γ a w) {args:Array Operand} {ats:Array TypeId} {s x:Operand} {t:TypeId} {p:Nat} (hs:ev σ [] s=some (.c (.os p))) (ho:o.op = .call ⟨.builtin .append,args,ats⟩) (ha:args.toList=[s,x]) (hat:ats.toList=[t,t]) (h:qsM P σ o p x t k=some res):EfR P F σ γ a w o k res Q:=absurd h (by simp[qsM])
theorem ef_append (r:Rel F σ γ a w) {args:Array Operand} {ats:Array TypeId} {s x:Operand} {t:TypeId} (ho:o.op = .call ⟨.builtin .append,args,ats⟩) (ha:args.toList=[s,x]) (hat:ats.toList=[t,t]) (h:qtI P σ o s x t k=some res):EfR P F σ γ a w o k res Q:=by
 unfold qtI at h;split at h
 ·rename_i hs;exact qvz r hs ho ha hat h
 ·rename_i hs;rcases qfx h with ⟨_,h2⟩ | ⟨_,h2⟩
  ·exact quZ r hs ho ha hat h2
  ·exact qo3 r ho ha hat h2
 ·exact qo3 r ho ha hat h

theorem qtT {t t' ty i:TypeId} {ki:IntKind} {inf:TypeInfo} {z:Value} (hu:P.underlying t=some (.slice i)) (hu':P.underlying t'=some (.int ki)) (hi:P.info? i=some inf) (hz:inf.zero=some z) (hs:0<inf.size) {n:Int} (hn:0<n) (hroom:n.toNat*inf.bytes≤140737488355328) (hn2:n.toNat≤140737488355328) :
  (Builtin.append_ #[t,t'] ty #[.slice none 0 0,.int .i64 n]).run P w = .ok (.slice (some ⟨w.heap.size,0,none⟩) n.toNat (grownCap w n.toNat 0 i))
   (w.drew.alloc (.cells (Builtin.zeroCells z.cells n.toNat++Builtin.zeroCells z.cells (grownCap w n.toNat 0 i-n.toNat)) i)):=by
 have hw:IntKind.i64.wrap n=n:=by simp[IntKind.wrap,IntKind.signed,IntKind.bits];omega
 have h1:¬n<0:=by omega
 have hnb:n*(inf.bytes:Int)≤140737488355328:=by
  have:((n.toNat*inf.bytes:Nat):Int)≤(140737488355328:Nat):=Int.ofNat_le.2 hroom;rw[Int.natCast_mul,Int.toNat_of_nonneg (by omega)] at this;omega
 have h2:¬(281474976710656:Int)<n*(inf.bytes:Int):=by omega
 have h3:¬n.toNat=0:=by omega
 have h4:¬n.toNat≤0:=by omega
 have h5:¬n≤0:=by omega
 have h6:¬(9223372036854775807:Int)<n:=by omega
 have hf:=growslice_fits (need:=n.toNat) (old:=0) (bytes:=inf.bytes) (by omega) hroom
 have h7:¬(281474976710656<Builtin.nextslicecap n.toNat 0*inf.bytes):=by omega
 have h8:inf.size≠0:=by omega
 have h9:max n 0=n:=by omega
 simp[Builtin.append_,run_underlying hu,run_underlying hu',sizeOf,typeInfo,zeroValue,hi,hz,Go.asInt,asIntOf,hw,h1,h2,h3,h4,h5,h6,h7,h8,h9,Question.forced,newRow,grownCap,Builtin.firstCells];intro hz0;exact absurd hz0 (Nat.mul_ne_zero h3 h8)
theorem qs1 {t t' ty i:TypeId} {inf:TypeInfo} {z:Value} (hu:P.underlying t=some (.slice i)) (hu':P.underlying t'=some .string) (hi:P.info? i=some inf) (hz:inf.zero=some z) (hsz:inf.size=1) (hzs:z.cells.size=1) (hby:inf.bytes=1)
  {v0:Value} {M0:List Nat} {n:Nat} {us:List Value} (hown:OwnR w i 1 v0 M0 n us) (hus:us.length=n) (s:ByteArray) (hroom:n+s.size≤140737488355328) :
  ∃v' w' M',(Builtin.append_ #[t,t'] ty #[v0,.string s]).run P w = .ok v' w'∧OwnR w' i 1 v' M' (n+s.size) (us++byteCells s)∧Chg M0 w w'∧(M'=M0∨M'=[w.heap.size]∧w.heap.size<w'.heap.size):=by
 have hS:Src P inf.size t' (.string s) s.size (byteCells s) w:=by rw[hsz];exact Src.ofString w hu' s
 have hbl:=byteCells_length s
 have hgrown:∀(base:Option Addr) (old:Nat),old<n+s.size→(Builtin.firstCells inf.size n (.slice base n old)).run P w.drew = .ok us.toArray w.drew→∃w',(Builtin.append_ #[t,t'] ty #[.slice base n old,.string s]).run P w = .ok (.slice (some ⟨w.heap.size,0,none⟩) (n+s.size) (grownCap w (n+s.size) old i)) w' ∧
   OwnR w' i 1 (.slice (some ⟨w.heap.size,0,none⟩) (n+s.size) (grownCap w (n+s.size) old i)) [w.heap.size] (n+s.size) (us++byteCells s)∧Chg [] w w'∧w.heap.size<w'.heap.size:=by
  intro base old hold hfirst;have hr:=run_append_grow_src (P:=P) w t t' ty i inf z hu hi hz base n old us hfirst _ s.size (byteCells s) hS hold (by omega) (by rw[hby];exact growslice_fits hold (by omega));refine⟨_,hr,.inr ⟨w.heap.size,_,_,rfl,rfl,Row.of (heap_alloc_new w.drew _),grownCap_ge w _ _ _,grownCap_le_maxLen w _ _ _ (by unfold maxLen;omega),?_,?_⟩,?_,?_⟩
  ·have hge:=grownCap_ge w (n+s.size) old i;simp only[Array.size_append,List.size_toArray,size_zeroCells,hzs,List.length_append,hus,hbl];omega
  ·have hl:(us++byteCells s).length=(n+s.size)*1:=by rw[List.length_append,hus,hbl,Nat.mul_one]
   rw[Array.toList_append,←hl];exact List.take_left
  ·have:=qdj w.drew (.cells ((us++byteCells s).toArray++Builtin.zeroCells z.cells (grownCap w (n+s.size) old i-(n+s.size))) i);exact⟨this.os,this.tape,this.output,this.size,this.block,fun e=>Nat.le_trans (Nat.le_succ _) (this.drawn e)⟩
  ·have:=qbJ w.drew (.cells ((us++byteCells s).toArray++Builtin.zeroCells z.cells (grownCap w (n+s.size) old i-(n+s.size))) i);rw[this];show w.heap.size<w.heap.size+1;omega
 rcases hown with ⟨hM,⟨ao0,rfl⟩,hn0,hu0⟩ | ⟨b,cap0,cur,hM,rfl,hh,h4,h5,h6,h7⟩
 ·subst hn0;subst hu0;have hf0:∀w':World,(Builtin.firstCells inf.size 0 (.slice ao0 0 0)).run P w' = .ok #[] w':=fun w'=>by
   cases ao0<;>simp[Builtin.firstCells,loadCells,loadCellsFrom]
  by_cases hs0:s.size=0
  ·have hb0:byteCells s=[]:=List.eq_nil_of_length_eq_zero (by omega);have hsf:(Builtin.firstCells inf.size 0 (.string s)).run P w = .ok #[] w:=by
    have:=hS.cells;rw[hs0,hb0] at this;exact this
   refine⟨.slice ao0 0 0,w,M0,?_,.inl ⟨hM,⟨ao0,rfl⟩,by omega,by simp[hb0]⟩,Chg.refl _ _,.inl rfl⟩
   cases ao0 with
   | none=>simp[Builtin.append_,run_underlying hu,run_underlying hu',sizeOf,typeInfo,hi,Builtin.lenOf,hs0,hsf]
   | some ad=>simp[Builtin.append_,run_underlying hu,run_underlying hu',sizeOf,typeInfo,hi,Builtin.lenOf,hs0,hsf,storeCells]
  ·obtain⟨w',g1,g2,g3,g4⟩:=hgrown ao0 0 (by omega) (hf0 _);exact⟨_,w',_,g1,g2,by rw[hM];exact g3,.inr ⟨rfl,g4⟩⟩
 ·rw[Nat.mul_one] at h6 h7;by_cases hroom2:n+s.size≤cap0
  ·have hr:=run_append_room_src (P:=P) w t t' ty i inf hu hi b 0 n cap0 _ s.size (byteCells s) hS hroom2 (fun j hj=>by rw[hh.cell,hsz];simp;omega) (fun j hj=>hh.fro (by rw[hsz];omega));obtain⟨fz,hg,hfz⟩:=hh;rw[hsz,Nat.mul_one,Nat.zero_add,qen (byteCells s) n cur w hg (by omega)] at hr;refine⟨_,_,M0,hr,.inr ⟨b,cap0,_,hM,rfl,Row.set ⟨fz,hg,hfz⟩ _ (by simp only[List.size_toArray,List.length_append,List.length_take,List.length_drop,Array.length_toList];omega),hroom2,h5,?_,?_⟩,by rw[hM];exact qe3,.inl rfl⟩
   ·simp only[List.size_toArray,List.length_append,List.length_take,List.length_drop,Array.length_toList];omega
   ·rw[h7]
    have hl:(us++byteCells s).length=(n+s.size)*1:=by rw[List.length_append,hus,hbl,Nat.mul_one]
    rw[←hl];exact List.take_left
  ·have hf:(Builtin.firstCells inf.size n (.slice (some ⟨b,0,none⟩) n cap0)).run P w.drew = .ok us.toArray w.drew:=by
    have hcell:CellsAt w ⟨b,0,none⟩ us:=by
     have:=CellsAt.take (hh.blk 0) n;rw[List.drop_zero,h7] at this;exact this
    exact run_firstCells_some w.drew inf.size n ⟨b,0,none⟩ n cap0 us (by rw[hus,hsz,Nat.mul_one]) (fun j v hv=>by simpa using hcell j v hv)
   obtain⟨w',g1,g2,g3,g4⟩:=hgrown (some ⟨b,0,none⟩) cap0 (by omega) hf;exact⟨_,w',_,g1,g2,g3.mono (by simp),.inr ⟨rfl,g4⟩⟩
theorem qmi (s:ByteArray):byteCells s=List.map (Value.int .u8) (qcp s):=by
 unfold byteCells qcp;rw[List.map_map];rfl
theorem qvG (r:Rel F σ γ a w) {args:Array Operand} {ats:Array TypeId} {s x:Operand} {t t':TypeId} (ho:o.op = .call ⟨.builtin .append,args,ats⟩) (ha:args.toList=[s,x]) (hat:ats.toList=[t,t']) (ht':strTy P t'=true) (h:qti P σ o s x t k=some res):EfR P F σ γ a w o k res Q:=by
 have ha':args = #[s,x]:=by rw[←Array.toList_inj,ha]
 have hat':ats = #[t,t']:=by rw[←Array.toList_inj,hat]
 subst ha';subst hat';simp only[qti,Option.bind_eq_some_iff,chk_some,req_some,Bool.and_eq_true] at h;obtain⟨i,hu,z,hz,inf,hinf,b,h1,bc,h2,u,h3,ys,h4,q,h5,⟨hbt,hby⟩,hroom,σ',h7,h8⟩:=h;have hu:=qx hu;obtain⟨inf',zv,hi,hzv,hsz,hzs,hpos,hzr⟩:=qbv hz;rw[hinf] at hi;cases hi;have hby:=Nat.eq_of_beq_eq_true hby;have hr1:(List.length (α:=Int) q.1+ys.size)*1≤140737488355328:=Nat.le_of_ble_eq_true hroom;rw[Nat.mul_one] at hr1;have hu':P.underlying t'=some .string:=by
  unfold strTy at ht';split at ht'
  ·assumption
  ·cases ht'
 have hb:VR σ.objs γ w bc (a.eval s):=by have:=qf r (qj σ) h1;rw[qdy h2] at this;exact this
 have hxv:a.eval x = .string ys:=by have:=qf r (qj σ) h3;rw[qo6 h4] at this;exact this
 obtain⟨M0,us,hcons,hown,hrep⟩:=qh0 r h5 hb;have hus:us.length=List.length (α:=Int) q.1:=(hrep.length (Rep.slen (.int .u8))).trans (Nat.mul_one _);obtain⟨v',w',M',hrun,hown',hch,hM⟩:=qs1 (ty:=o.type) hu hu' hinf hzv hsz hzs hby hown hus ys hr1;have hrb:RepL (fun x c=>Rep w (Imm σ.objs γ w) (.int .u8) x [] c) (qcp ys) (byteCells ys):=by
  rw[qmi];exact rep_u8 _
 have e:List.length (α:=Int) (List.append (α:=Int) q.1 (qcp ys))=List.length (α:=Int) q.1+ys.size:=(List.length_append (as:=(q.1:List Int)) (bs:=qcp ys)).trans (congrArg _ (qfw ys));have hown2:=Eq.mpr (congrArg (fun n=>OwnR w' i 1 v' M' n (us++byteCells ys)) e) hown';refine qmj r hcons hch hM (v':=v') (τ := .int .u8) (zs:=List.append (α:=Int) q.1 (qcp ys)) (us:=us++byteCells ys) hown2 (hrep.append hrb) ?_ h7 h8;obtain⟨dst,op,type,pos,after,guard⟩:=o;simp only at ho;subst ho;rw[BigFrame.execOp_builtin,BigFrame.builtin_append]
 have:(#[s,x].map a.eval) = #[a.eval s,.string ys]:=by simp only[List.map_toArray,List.map_cons,List.map_nil,hxv]
 rw[this];simp only[Sem.run_bind,hrun,Result.andThen_ok,Sem.run_pure]
theorem qvs (r:Rel F σ γ a w) {args:Array Operand} {ats:Array TypeId} {s x:Operand} {t t':TypeId} (ho:o.op = .call ⟨.builtin .append,args,ats⟩) (ha:args.toList=[s,x]) (hat:ats.toList=[t,t']) (h:qs7 P σ o s x t t' k=some res):EfR P F σ γ a w o k res Q:=by
 have ha':args = #[s,x]:=by rw[←Array.toList_inj,ha]
 have hat':ats = #[t,t']:=by rw[←Array.toList_inj,hat]
 subst ha';subst hat';simp only[qs7,Option.bind_eq_some_iff,chk_some,req_some,Bool.and_eq_true,Bool.not_eq_true',decide_eq_true_eq] at h;obtain⟨i,hu,τ,hτ,z,hz,b,h1,u,h3,⟨ki,n⟩,h4,inf,hinf,⟨hb,hint,hkd,hby,hpure⟩,⟨hn,hroom⟩,σ',h7,h8⟩:=h;have hu:=qx hu;obtain⟨inf',zv,hi,hzv,hsz,hzs,hpos,hzr⟩:=qbv hz;rw[hinf] at hi;cases hi;obtain⟨hr1,hr2⟩:=qjV hroom hby;have hbv:b = .c (.v (.slice none 0 0)):=by
  split at hb
  ·rfl
  ·cases hb
 subst hbv;have e1:a.eval s = .slice none 0 0:=qf r (qj σ) h1;have e2:=qaY r (qj σ) h3 h4;have hkd':ki = .i64:=qbp hkd;simp only at hkd' hn;subst hkd';obtain⟨k2,hu'⟩:∃k2,P.underlying t'=some (.int k2):=by
  unfold isIntT at hint;split at hint
  ·exact⟨_,‹_›⟩
  ·cases hint
 have hbase:qr3 σ.objs σ.prO i τ (.v (.slice none 0 0))=some ([],σ.objs):=rfl;obtain⟨M0,us0,hcons,hown0,_⟩:=qh0 r hbase (show VR σ.objs γ w (.v (.slice none 0 0)) (.slice none 0 0) from rfl);have hM0:M0=[]:=by
  rcases hown0 with ⟨h,_⟩ | ⟨b,cap,cur,_,h,_⟩
  ·exact h
  ·cases h
 subst hM0;have hrun:=qtT (w:=w) (ty:=o.type) hu hu' hinf hzv (by rw[hsz];exact hpos) hn hr1 hr2;have hzc:∀m,(Builtin.zeroCells zv.cells m).toList=(List.replicate m zv.cells.toList).flatten:=fun m=>by
  rw[←qc9 _ (by rw[hzs];exact hpos) m];rfl
 have hrep:RepL (fun x c=>Rep w (Imm σ.objs γ w) τ x [] c) (List.replicate n.toNat z) (Builtin.zeroCells zv.cells n.toNat).toList:=by
  rw[hzc];exact RepL.replicate (R:=fun x c=>Rep w (Imm σ.objs γ w) τ x [] c) (hzr w _) _
 refine qmj r hcons (M':=[w.heap.size]) (w':=w.drew.alloc (.cells (Builtin.zeroCells zv.cells n.toNat++Builtin.zeroCells zv.cells (grownCap w n.toNat 0 i-n.toNat)) i)) ?_ (.inr ⟨rfl,?_⟩) (zs:=List.replicate n.toNat z) (us:=(Builtin.zeroCells zv.cells n.toNat).toList)
  (.inr ⟨w.heap.size,grownCap w n.toNat 0 i,_,rfl,by rw[List.length_replicate],Row.of (heap_alloc_new w.drew _),by rw[List.length_replicate];exact grownCap_ge w _ _ _,grownCap_le_maxLen w _ _ _ (by unfold maxLen;omega),?_,?_⟩) hrep ?_ h7 h8
 ·have:=qdj w.drew (.cells (Builtin.zeroCells zv.cells n.toNat++Builtin.zeroCells zv.cells (grownCap w n.toNat 0 i-n.toNat)) i);exact⟨this.os,this.tape,this.output,this.size,this.block,fun e=>Nat.le_trans (Nat.le_succ _) (this.drawn e)⟩
 ·have:=qbJ w.drew (.cells (Builtin.zeroCells zv.cells n.toNat++Builtin.zeroCells zv.cells (grownCap w n.toNat 0 i-n.toNat)) i);rw[this];show w.heap.size<w.heap.size+1;omega
 ·have hge:=grownCap_ge w n.toNat 0 i;simp only[Array.size_append,size_zeroCells,hzs,←Nat.add_mul];congr 1;omega
 ·rw[Array.toList_append,List.length_replicate]
  have hl:(Builtin.zeroCells zv.cells n.toNat).toList.length=n.toNat*τ.size:=by simp[size_zeroCells,hzs]
  rw[←hl];exact List.take_left
 ·obtain⟨dst,op,type,pos,after,guard⟩:=o;simp only at ho;subst ho;rw[BigFrame.execOp_builtin,BigFrame.builtin_append]
  have:(#[s,x].map a.eval) = #[.slice none 0 0,.int .i64 n]:=by simp only[List.map_toArray,List.map_cons,List.map_nil,e1,e2]
  rw[this];simp only[Sem.run_bind,hrun,Result.andThen_ok,Sem.run_pure,List.length_replicate]
theorem EfR.toA {v:Value} (hrun:(execOp a.eval o).run P w = .ok (.value v) w) (h:EfR P F σ γ a w o k res Q):EfA P F σ γ a w o k res Q:=by
 unfold EfR Oper.wp at h;unfold EfA Oper.wp;rw[hrun] at h ⊢;exact⟨Chg.refl _ _,h⟩
theorem qvg {t:TypeId} {ar:Nat×TypeId} (h:arrOf P t=some ar):P.underlying t=some (.array ar.1 ar.2):=by
 obtain⟨u,h1,h2⟩:=Option.bind_eq_some_iff.1 h
 cases u<;>simp at h2
 rw[h1,←h2]
theorem qmu {objs:List OB}:∀(τ:Ty) (l:List Cv),τ.flat=true→idsD objs τ l=[]
 | .int _,_,_=>rfl
 | .bool,_,_=>rfl
 | .str,_,_=>rfl
 | .nil,_,_=>rfl
 | .sl _,_,h=>by cases h
 | .osl _ _,_,h=>by cases h
 | .onl _ _,_,h=>by cases h
 | .obx _,_,h=>by cases h
 | .err,_,h=>by cases h
 | .bld _ _,_,h=>by cases h
 | .st f r,l,h=>by
  simp only[Ty.flat,Bool.and_eq_true] at h;simp only[idsD,qmu f _ h.1,qmu r _ h.2,List.append_nil]
theorem qmR {objs:List OB} {S:Sp} (r:ORel F objs γ w) (hS:Sp.le (Imm objs γ w) S) {τ:Ty} (hf:τ.flat=true):∀ {n:Nat} {cs:List Cv} {xs:List (D τ)} {vs:List Value},qrI objs τ n cs=some xs→VRL objs γ w cs vs→n*τ.size≤vs.length →
  xs.length=n∧RepL (fun x c=>Rep w S τ x [] c) xs (vs.take (n*τ.size))
 | 0,cs,xs,vs,h,_,_=>by
  simp only[qrI,Option.some.injEq] at h;subst h;exact⟨rfl,by simp[RepL]⟩
 | n+1,cs,xs,vs,h,hv,hl=>by
  simp only[qrI,Option.bind_eq_some_iff,Option.some.injEq] at h;obtain⟨x,h1,q,h2,rfl⟩:=h;rw[Nat.add_mul,Nat.one_mul] at hl;obtain⟨h3,_⟩:=qaS (S:=S) r hS τ h1 (hv.take τ.size) (fun o ho=>by rw[qmu τ _ hf] at ho;cases ho);rw[Ty.pure_ids τ (qjX τ hf)] at h3;obtain⟨h4,h5⟩:=qmR r hS hf h2 (hv.drop τ.size) (by rw[List.length_drop];omega);refine⟨by simp[h4],vs.take τ.size,_,?_,h3,h5⟩;rw[Nat.add_mul,Nat.one_mul,Nat.add_comm,List.take_add]
theorem quD (r:Rel F σ γ a w) {own vw:Bool} {t:TypeId} {x:Operand} {lo hi:Option Operand} (ho:o.op = .slice t x lo hi none) (h:sliceE P σ own vw o t x lo hi k=some res):EfA P F σ γ a w o k res Q:=by
 simp only[sliceE,Option.bind_eq_some_iff] at h;obtain⟨pv,h1,c,h2,h3⟩:=h;have hpv:=qdy h2;subst hpv
 cases c with
 | os p =>
  simp only[Option.bind_eq_some_iff] at h3;obtain⟨i,hu,ob,hob,h4⟩:=h3;have hu:=qx hu
  cases ob with
  | arr i' e xs fz =>
   simp only[chk_some] at h4;obtain⟨hc,h5⟩:=h4;obtain⟨inf,hinf,hsz⟩:=qL hc;obtain⟨hlt,e1,ao0,n0,c0,e2⟩:=qf r (qj σ) h1;obtain⟨us,hown,hrep⟩:=r.o.rep p _ hob;have hval:∃ao cap,a.eval x = .slice ao xs.length cap∧xs.length≤cap∧(xs≠[]→∃b,ao=some ⟨b,0,none⟩∧(γ p).2=some b∧CellsAt w ⟨b,0,none⟩ us):=by
    by_cases hx:xs=[]
    ·rcases hown with ⟨_,⟨ao,h6⟩,h7,_⟩ | ⟨b,cap,cur,_,h6,_,h7,_⟩
     ·exact⟨ao,0,by rw[e1,h6,h7],by omega,fun hn=>absurd hx hn⟩
     ·exact⟨_,cap,by rw[e1,h6],h7,fun hn=>absurd hx hn⟩
    ·obtain⟨b,cap,h6,h7,h8,h9⟩:=hown.cells (fun hl=>hx (List.eq_nil_of_length_eq_zero hl));exact⟨_,cap,by rw[e1,h7],h8,fun _=>⟨b,rfl,toList_some h6,h9⟩⟩
   obtain⟨ao,cap,ev,hcap,hne⟩:=hval;by_cases hvw:(vw||(own&&lo.isSome))=true
   ·simp only[hvw,cond_true,Option.bind_eq_some_iff,req_some] at h5;obtain⟨l,hl,hh,hhh,hb,σ',h6,h7⟩:=h5;have hrun:=qgL (P:=P) (a:=a) hu hinf ho ev (qaK r (qj σ) hl) (qaK r (qj σ) hhh) hb hcap w;rw[hsz] at hrun;simp only[qh,Bool.and_eq_true,decide_eq_true_eq] at hb
    have hγ:(γ p).1 = .slice ao xs.length cap:=by rw[←e1,ev]
    obtain⟨g1,g2⟩:=qch r (Keep.refl _ _ _) r.o (fun o ti e xs fz h _=>⟨ti,e,xs,fz,h,rfl⟩) (fun _ _ _=>rfl) h6
     (v := .slice (if cap=l.toNat then ao else ao.map (·.add (l.toNat*e.size))) (hh.toNat-l.toNat) (cap-l.toNat))
     ⟨hlt,ao,xs.length,cap,_,_,hγ,by omega,rfl,by omega,fun hpos=>by
      obtain⟨b,h8,h9,_⟩:=hne (fun hx=>by subst hx;simp at hb;omega);refine⟨b,h9,?_⟩;rw[if_neg (by omega),h8,Option.map_some,adr_add,Nat.zero_add],by omega,fun h0=>by
      rw[h0,Nat.zero_mul];split
      ·rfl
      ·cases ao<;>simp[Addr.add]⟩
    exact EfA.val hrun (Chg.refl _ _) h7 g1 g2
   rw[Bool.not_eq_true] at hvw;simp only[hvw,cond_false] at h5
   cases own with
   | false =>
    simp only[cond_false,Option.bind_eq_some_iff,req_some] at h5;obtain⟨objs1,hf,l,hl,hh,hhh,hb,σ',h6,h7⟩:=h5;obtain⟨f1,f2⟩:=qar r.o hf;have hrun:=qgL (P:=P) (a:=a) hu hinf ho ev (qaK r (qj σ) hl) (qaK r (qj σ) hhh) hb hcap w;rw[hsz] at hrun;have hrep1:RepL (fun x c=>Rep w (Imm objs1 γ w) e x [] c) xs us:=RepL.keep f1.keep hrep
    have hsl:=qrQ (S:=Imm objs1 γ w) (ao:=ao) hcap hrep1 (fun hn=>by
     obtain⟨b,h8,h9,h10⟩:=hne hn
     exact⟨_,h8,f2 p (by simp) b h9,h10⟩) hb
    obtain⟨g1,g2⟩:=qch r f1.keep f1.o f1.same (fun o' _ hp=>f1.prot o' hp) h6 hsl;exact EfA.val hrun (Chg.refl _ _) h7 g1 g2
   | true =>
    simp only[cond_true,chk_some,Bool.and_eq_true,Bool.not_eq_true',Option.bind_eq_some_iff,req_some] at h5;obtain⟨⟨hfz,hpr,hlo⟩,hh,hhh,hb,σ',h6,h7⟩:=h5;subst hfz
    have hlo:lo=none:=by simpa using hlo
    subst hlo;have hrun:=qgL (P:=P) (a:=a) hu hinf ho ev (l:=0) (.inl ⟨rfl,rfl⟩) (qaK r (qj σ) hhh) hb hcap w;simp only[qh,Bool.and_eq_true,decide_eq_true_eq] at hb
    have hhl:hh.toNat≤xs.length:=by omega
    have hv:(Value.slice (if cap=(0:Int).toNat then ao else ao.map (·.add ((0:Int).toNat*inf.size))) (hh.toNat-(0:Int).toNat) (cap-(0:Int).toNat)) = .slice ao hh.toNat cap:=by
     have:(if cap=(0:Int).toNat then ao else ao.map (·.add ((0:Int).toNat*inf.size)))=ao:=by
      split
      ·rfl
      ·cases ao<;>simp[Addr.add]
     rw[this];simp
    rw[hv] at hrun
    have htl:(xs.take hh.toNat).length=hh.toNat:=by simp;omega
    refine EfR.toA hrun (qmj (M0:=(γ p).2.toList) (M':=(γ p).2.toList) (us:=us.take (hh.toNat*e.size)) (w':=w) r (.yes p _ hob rfl hpr) (Chg.refl _ _) (.inl rfl) ?_ (hrep.take (Rep.slen e) hh.toNat) hrun (by simpa using h6) h7);rw[htl];rw[←e1] at hown;rw[ev] at hown;rcases hown with ⟨h8,⟨ao2,h9⟩,h10,h11⟩ | ⟨b,cap2,cur,h8,h9,h10,h11,h12,h13,h14⟩
    ·simp only[Value.slice.injEq] at h9;refine .inl ⟨h8,⟨ao,?_⟩,by omega,by rw[h11];simp⟩;rw[show hh.toNat=0 by omega,h9.2.2]
    ·simp only[Value.slice.injEq] at h9;obtain⟨rfl,_,rfl⟩:=h9;refine .inr ⟨b,cap,cur,h8,rfl,h10,by omega,h12,h13,?_⟩;rw[←h14,List.take_take];congr 1;exact(Nat.min_eq_left (Nat.mul_le_mul_right _ hhl)).symm
  | _=>simp at h4
 | ptr p off =>
  simp only[Option.bind_eq_some_iff] at h3;obtain⟨ar,har,τ,hτ,ob,hob,h4⟩:=h3;have hu:=qvg har
  cases ob with
  | box cs =>
   simp only[chk_some,Bool.and_eq_true,Bool.not_eq_true',Option.bind_eq_some_iff] at h4;obtain⟨⟨hlo,hhi,hpr,hfl,hc,hfit⟩,xs,hxs,σ',h6,h7⟩:=h4
   have hlo:lo=none:=by simpa using hlo
   have hhi:hi=none:=by simpa using hhi
   subst hlo;subst hhi;have hfit:=Nat.le_of_ble_eq_true hfit;obtain⟨inf,hinf,hsz⟩:=qL hc;obtain⟨hlt,b,hgb,e1⟩:=qf r (qj σ) h1;obtain⟨b',T,cells,hg,hheap,hvl⟩:=r.o.rep p _ hob
   have hbb:b'=b:=by rw[hg] at hgb;simpa using hgb
   subst hbb;have hm:Mut σ.objs p:=⟨_,hob,rfl⟩;have hdead:¬Mut (σ.objs.set p (.fbx cs)) p:=by
    rintro ⟨ob2,h8,h9⟩
    rw[List.getElem?_set_self hlt] at h8;cases h8;cases h9
   have hmu:∀o',Mut (σ.objs.set p (.fbx cs)) o'→Mut σ.objs o'∧o'≠p:=fun o' hm'=>by
    have hne:o'≠p:=fun e=>hdead (e▸hm');obtain⟨ob2,h8,h9⟩:=hm';rw[List.getElem?_set,if_neg (fun e=>hne e.symm)] at h8;exact⟨⟨ob2,h8,h9⟩,hne⟩
   have himm:Imm (σ.objs.set p (.fbx cs)) γ w b':=⟨qhP hheap,r.o.up b' (r.o.own p b' hm hgb),fun o' hm' hb=>by
    obtain⟨h8,h9⟩:=hmu o' hm'
    exact h9 (r.o.inj o' p b' h8 hm hb hgb),r.o.bo p b' hm hgb⟩
   obtain⟨hor,K⟩:=qpL (ob := .fbx cs) (w':=w) (Chg.refl _ _) r.o hm hgb (fun _ _ _ e=>by cases e) (fun K=>⟨b',T,cells,hg,hheap,VRL.keep K hvl.below hvl,himm⟩);have hcl:cells.toList.length=cs.length:=hvl.length;obtain⟨hxl,hrep⟩:=qmR (S:=Imm (σ.objs.set p (.fbx cs)) γ w) r.o K.imm hfl hxs (hvl.drop off) (by rw[List.length_drop];omega);have hrun:(execOp a.eval o).run P w = .ok (.value (.slice (some ⟨b',off,none⟩) ar.1 ar.1)) w:=by
    have hal:P.arrayLen t=ar.1:=by simp[Program.arrayLen,hu]
    have hel:P.elem t=ar.2:=by simp[Program.elem,hu]
    have hsr:(sizeOf ar.2).run P w = .ok inf.size w:=by simp[sizeOf,typeInfo,hinf,go_sem]
    have hs:=run_sliceAt_array_all (P:=P) w t ⟨b',off,none⟩ (by rw[hal,hel];exact hu);rw[hel,hsr,hal] at hs;simp only[Result.andThen_ok,slicedAt,Nat.sub_zero] at hs;have ead:(if ar.1=0 then(⟨b',off,none⟩:Addr) else Addr.add ⟨b',off,none⟩ (0*inf.size))=⟨b',off,none⟩:=by
     split
     ·rfl
     ·simp[Addr.add]
    rw[ead] at hs;obtain⟨dst,op',type,pos,after,guard⟩:=o;simp only at ho;subst ho;simp only[execOp,e1,Option.map_none,Sem.run_bind,hs,Result.andThen_ok,Sem.run_pure]
   obtain⟨g1,g2⟩:=ef_putN r K hor (fun o' _ hp=>qs (fun e=>by subst e;rw[hpr] at hp;cases hp)) h6
    (v := .slice (some ⟨b',off,none⟩) ar.1 ar.1) ⟨rfl,some ⟨b',off,none⟩,ar.1,_,by rw[hxl],by omega,hrep,fun _=>⟨_,rfl,himm,CellsAt.take (qcP hheap off) _⟩⟩
   exact EfA.val hrun (Chg.refl _ _) h7 g1 g2
  | _=>simp at h4
 | _=>simp at h3

theorem qsx (r:Rel F σ γ a w) {t:TypeId} {x:Operand} {lo hi mx:Option Operand} (ho:o.op = .slice t x lo hi mx) (h:qs8 P σ o t x lo hi mx k=some res):EfA P F σ γ a w o k res Q:=by
 simp only[qs8,Option.bind_eq_some_iff] at h;obtain⟨pv,h1,c,h2,h3⟩:=h;have hpv:=qdy h2;subst hpv
 cases c with
 | os p =>
  simp only[Option.bind_eq_some_iff] at h3;obtain⟨i,hu,ob,hob,h4⟩:=h3;have hu:=qx hu
  cases ob with
  | arr i' e xs fz =>
   simp only[chk_some,Bool.and_eq_true,Option.bind_eq_some_iff,req_some,decide_eq_true_eq] at h4;obtain⟨⟨hc,hs1,hs2⟩,objs1,hf,l,hl,hh,hhh,m,hmm,⟨hb,hb1,hb2⟩,σ',h6,h7⟩:=h4;obtain⟨inf,hinf,hsz⟩:=qL hc;obtain⟨hlt,e1,ao0,n0,c0,e2⟩:=qf r (qj σ) h1;obtain⟨us,hown,hrep⟩:=r.o.rep p _ hob;have hval:∃ao cap,a.eval x = .slice ao xs.length cap∧xs.length≤cap∧(xs≠[]→∃b,ao=some ⟨b,0,none⟩∧(γ p).2=some b∧CellsAt w ⟨b,0,none⟩ us):=by
    by_cases hx:xs=[]
    ·rcases hown with ⟨_,⟨ao,h6⟩,h7,_⟩ | ⟨b,cap,cur,_,h6,_,h7,_⟩
     ·exact⟨ao,0,by rw[e1,h6,h7],by omega,fun hn=>absurd hx hn⟩
     ·exact⟨_,cap,by rw[e1,h6],h7,fun hn=>absurd hx hn⟩
    ·obtain⟨b,cap,h6,h7,h8,h9⟩:=hown.cells (fun hl=>hx (List.eq_nil_of_length_eq_zero hl));exact⟨_,cap,by rw[e1,h7],h8,fun _=>⟨b,rfl,toList_some h6,h9⟩⟩
   obtain⟨ao,cap,ev,hcap,hne⟩:=hval;obtain⟨f1,f2⟩:=qar r.o hf;have hrun:=qpi (P:=P) (a:=a) hu hinf ho ev (qaK r (qj σ) hl) (qje r (qj σ) hs1 hhh) (qje r (qj σ) hs2 hmm) hb hb1 hb2 hcap w;rw[hsz] at hrun;have hrep1:RepL (fun x c=>Rep w (Imm objs1 γ w) e x [] c) xs us:=RepL.keep f1.keep hrep
   have hsl:=qko (S:=Imm objs1 γ w) (ao:=ao) (cap:=m.toNat) (by omega) hrep1 (fun hn=>by
    obtain⟨b,h8,h9,h10⟩:=hne hn
    exact⟨_,h8,f2 p (by simp) b h9,h10⟩) hb
   obtain⟨g1,g2⟩:=qch r f1.keep f1.o f1.same (fun o' _ hp=>f1.prot o' hp) h6 hsl;exact EfA.val hrun (Chg.refl _ _) h7 g1 g2
  | _=>simp at h4
 | _=>simp at h3
theorem qh5 {objs:List OB} {p:Nat} {ti:TypeId} {e:Ty} {xs ys:List (D e)} {f g:Bool} (h:objs[p]?=some (.arr ti e xs f)) (hl:ys.length=xs.length):SameLen objs (objs.set p (.arr ti e ys g)):=fun o ti' e' xs' fz hx hlt=>by
 rw[List.getElem?_set] at hx;by_cases e2:p=o
 ·subst e2;rw[if_pos rfl,if_pos hlt] at hx;cases hx;exact⟨_,_,_,_,h,hl.symm⟩
 ·rw[if_neg e2] at hx;exact⟨_,_,_,_,hx,rfl⟩
theorem ef_clear (r:Rel F σ γ a w) {args:Array Operand} {ats:Array TypeId} {x:Operand} {t:TypeId} (ho:o.op = .call ⟨.builtin .clear,args,ats⟩) (ha:args.toList=[x]) (hat:ats.toList=[t]) (h:clearE P σ o x t k=some res):EfR P F σ γ a w o k res Q:=by
 have ha':args = #[x]:=by rw[←Array.toList_inj,ha]
 have hat':ats = #[t]:=by rw[←Array.toList_inj,hat]
 subst ha';subst hat';simp only[clearE,Option.bind_eq_some_iff] at h;obtain⟨i,hu,pv,h1,h2⟩:=h;have hu:=qx hu;split at h2
 ·rename_i p sz lo n;simp only[Option.bind_eq_some_iff] at h2;obtain⟨ob,hob,h3⟩:=h2
  cases ob with
  | arr ti e xs fz =>
   cases fz with
   | true=>simp at h3
   | false =>
   simp only[chk_some,Bool.and_eq_true,Bool.not_eq_true',Option.bind_eq_some_iff] at h3;obtain⟨⟨hpr,hsz⟩,z,hz,σ',h4,h5⟩:=h3;have hsz:=Nat.eq_of_beq_eq_true hsz;subst hsz;obtain⟨inf,zv,hi,hzv,hisz,hzs,hpos,hzr⟩:=qbv hz;obtain⟨hlt,ao0,n0,c0,ao,cap,hg,hlo,e1,hcap,hne,_⟩:=qf r (qj σ) h1;obtain⟨us,hown,hrep⟩:=r.o.rep p _ hob;have hn0:n0=xs.length:=by
    rcases hown with ⟨_,⟨ao1,h10⟩,h11,_⟩ | ⟨b1,cap1,cur,_,h10,_⟩
    ·rw[hg] at h10;simp only[Value.slice.injEq] at h10;omega
    ·rw[hg] at h10;simp only[Value.slice.injEq] at h10;exact h10.2.1
   have hxl:(xs.take lo++(List.replicate n z++xs.drop (lo+n))).length=xs.length:=by simp;omega
   have hbase:∀w',(Builtin.clear_ #[t] o.type #[.slice ao n cap]).run P w = .ok (.tuple #[]) w'→(execOp a.eval o).run P w = .ok (.value (.tuple #[])) w':=fun w' hr=>by
    obtain⟨dst,op,type,pos,after,guard⟩:=o;simp only at ho;subst ho;rw[BigFrame.execOp_builtin,BigFrame.builtin_clear]
    have:(#[x].map a.eval) = #[.slice ao n cap]:=by simp only[List.map_toArray,List.map_cons,List.map_nil,e1]
    rw[this];simp only[Sem.run_bind,hr,Result.andThen_ok,Sem.run_pure]
   have hget:a.eval x = .slice ao n cap:=e1;by_cases hn:n=0
   ·subst hn
    have hrun:=hbase w (by cases ao<;>simp[Builtin.clear_,run_underlying hu])
    have hsame:σ.objs.set p (.arr ti e (xs.take lo++(List.replicate 0 z++xs.drop (lo+0))) false)=σ.objs:=by
     rw[List.replicate_zero,List.nil_append,Nat.add_zero,List.take_append_drop];apply List.ext_getElem?;intro j;rw[List.getElem?_set];by_cases hj:p=j
     ·subst hj;rw[if_pos rfl,if_pos hlt,hob]
     ·rw[if_neg hj]
    rw[hsame] at h4;obtain⟨g1,g2⟩:=qch r (Keep.refl _ _ _) r.o (fun o ti e xs fz h _=>⟨ti,e,xs,fz,h,rfl⟩) (fun _ _ _=>rfl) h4 (v := .tuple #[]) ⟨#[],rfl,rfl⟩;exact EfR.val hrun h5 g1 g2
   ·obtain⟨b,hg2,rfl⟩:=hne (by omega);rcases hown with ⟨h8,_⟩ | ⟨b1,cap1,cur1,h8,h9,h10,h11,h12,h13,h14⟩
    ·rw[hg2] at h8;cases h8
    have hb1:b1=b:=by
     have:=toList_some h8;rw[this] at hg2;simpa using hg2
    subst hb1;have hzc:(Builtin.zeroCells zv.cells n).toList=(List.replicate n zv.cells.toList).flatten:=by
     rw[←qc9 _ (by rw[hzs];exact hpos) n];rfl
    have hzl:((List.replicate n zv.cells.toList).flatten).length=n*e.size:=by simp[hzs]
    have hle:(lo+n)*e.size≤xs.length*e.size:=Nat.mul_le_mul_right _ (by omega)
    have hcl:xs.length*e.size≤cur1.size:=by rw[h13];exact Nat.mul_le_mul_right _ h11
    rw[Nat.add_mul] at hle;have hone:∀u∈(List.replicate n zv.cells.toList).flatten,u.oneCell'=true:=fun u hu'=>by
     obtain⟨l,hl,hul⟩:=List.mem_flatten.1 hu';rw[List.eq_of_mem_replicate hl] at hul;exact Rep.one e (hzr w ⟨fun _=>True,fun _=>none⟩) u hul
    have hst:=qfh (P:=P) h10 (lo*e.size) ((List.replicate n zv.cells.toList).flatten) (by rw[hzl];omega) hone
    have hzv':(zeroValue i).run P w = .ok zv w:=by simp[zeroValue,typeInfo,hi,hzv,go_sem]
    have hrun:=hbase (w.setRow b1 (cur1.toList.take (lo*e.size)++(List.replicate n zv.cells.toList).flatten++cur1.toList.drop (lo*e.size+((List.replicate n zv.cells.toList).flatten).length)).toArray) (by
     obtain⟨m,rfl⟩:∃m,n=m+1:=⟨n-1,by omega⟩;rw[←hzc] at hst ⊢;generalize hcs:zv.cells=zc at hst ⊢;simp[Builtin.clear_,run_underlying hu,hzv',hcs];rw[hst]
     simp)
    have hrep':RepL (fun x c=>Rep w (Imm σ.objs γ w) e x [] c) (xs.take lo++(List.replicate n z++xs.drop (lo+n))) (us.take (lo*e.size)++((List.replicate n zv.cells.toList).flatten++us.drop ((lo+n)*e.size))) :=
     (hrep.take (Rep.slen e) lo).append ((RepL.replicate (R:=fun x c=>Rep w (Imm σ.objs γ w) e x [] c) (hzr w _) n).append (hrep.drop (Rep.slen e) (lo+n)))
    obtain⟨hor,K⟩:=qhX (ob := .arr ti e (xs.take lo++(List.replicate n z++xs.drop (lo+n))) false) (cs:=(cur1.toList.take (lo*e.size)++(List.replicate n zv.cells.toList).flatten++cur1.toList.drop (lo*e.size+((List.replicate n zv.cells.toList).flatten).length)).toArray) r.o ⟨_,hob,rfl⟩ hg2 rfl (fun K=>by
     refine⟨_,.inr ⟨b1,cap1,_,h8,?_,h10.set _ (by simp only[List.size_toArray,List.length_append,List.length_take,List.length_drop,Array.length_toList,hzl];omega),?_,h12,?_,?_⟩,RepL.keep K hrep'⟩
     ·rw[h9,hxl]
     ·rw[hxl];exact h11
     ·simp only[List.size_toArray,List.length_append,List.length_take,List.length_drop,Array.length_toList,hzl];omega
     ·rw[hxl,hzl,←h14,List.toList_toArray,List.append_assoc,List.take_append,List.take_append]
      have l1:(List.take (lo*e.size) cur1.toList).length=lo*e.size:=by simp;omega
      rw[l1,hzl,List.take_of_length_le (by rw[l1];omega),List.take_of_length_le (l:=(List.replicate n zv.cells.toList).flatten) (by rw[hzl];omega),List.take_take,Nat.min_eq_left (by omega)];congr 2;rw[List.drop_take,Nat.add_mul];congr 1
      omega)
    obtain⟨g1,g2⟩:=qch r K hor (qh5 hob hxl) (fun o' _ hp'=>qs (fun e=>by subst e;rw[hpr] at hp';cases hp')) h4 (v := .tuple #[]) ⟨#[],rfl,rfl⟩;exact EfR.val hrun h5 g1 g2
  | _=>simp at h3
 ·cases h2

theorem qvR {P:Program} {w:World} {dT sT ty elem:TypeId} {g o dLen dCap:Nat} {a:Addr} {sLen sCap k:Nat} {cur:Array Value} {t:TypeId} {cs:List Value}
  (hu:P.underlying dT=some (.slice elem)) {inf:TypeInfo} (hi:P.info? elem=some inf) (hk:inf.size=k) (hg:Row w g cur t) (hn:cs.length=Nat.min sLen dLen*k)
  (hsrc:CellsAt w a cs) (hfit:o+cs.length≤cur.size) (h1:∀v∈cs,v.oneCell'=true) :
  (Builtin.copy_ #[dT,sT] ty #[.slice (some ⟨g,o,none⟩) dLen dCap,.slice (some a) sLen sCap]).run P w =
   .ok (goInt (Nat.min sLen dLen)) (w.setRow g (cur.toList.take o++cs++cur.toList.drop (o+cs.length)).toArray):=by
 have hl:=run_loadCells_list (P:=P) w a cs hsrc;have hst:=qfh (P:=P) hg o cs hfit h1;simp[Builtin.copy_,run_underlying hu,Builtin.lenOf,Builtin.firstCells,sizeOf,typeInfo,hi,hk,←hn,hl,hst]
theorem qvM (r:ORel F σ.objs γ w) {pv:PV} {v:Value} {q:Nat×Nat×Nat} {ti:TypeId} {e:Ty} {xs:List (D e)} {fz:Bool} (h:dstOf σ.objs pv=some q) (hob:σ.objs[q.1]?=some (.arr ti e xs fz)) (hsz:∀p sz lo n,pv = .vw p sz lo n→sz=e.size) (hv:PR σ.objs γ w pv v) (hn:0<q.2.2) :
  q.2.1+q.2.2≤xs.length∧∃b cap,(γ q.1).2=some b∧v = .slice (some ⟨b,q.2.1*e.size,none⟩) q.2.2 cap:=by
 unfold dstOf at h;split at h
 ·rename_i p;obtain⟨ob,hob2,h2⟩:=Option.bind_eq_some_iff.1 h
  cases ob with
  | arr ti2 e2 xs2 fz2 =>
   simp only[Option.some.injEq] at h2;subst h2;simp only at hob hn ⊢;rw[hob2] at hob;cases hob;obtain⟨b,cap,us,h3,h4,_⟩:=qjF r hob2 (fun h0=>by rw[h0] at hn;simp at hn);obtain⟨_,e1,_⟩:=hv;exact⟨by omega,b,cap,h3,by rw[e1,h4,Nat.zero_mul]⟩
  | _=>simp at h2
 ·rename_i p sz lo n;simp only[Option.some.injEq] at h;subst h;simp only at hob hn ⊢;have hs:=hsz _ _ _ _ rfl;subst hs;obtain⟨hlt,ao0,n0,c0,ao,cap,hg,hlo,e1,hcap,hne,_⟩:=hv;have hn0:=ObR.len (r.rep p _ hob) hg;obtain⟨b,hg2,rfl⟩:=hne hn;exact⟨by omega,b,cap,hg2,e1⟩
 ·cases h
theorem qvF (r:ORel F σ.objs γ w) {pv:PV} {v:Value} {e:Ty} {ys:List (D e)} (h:cpyOf σ.objs e pv=some ys) (hv:PR σ.objs γ w pv v) (hn:0<ys.length) :
  ∃ad cap sl us,v = .slice (some ad) sl cap∧sl=ys.length∧CellsAt w ad us∧RepL (fun x c=>Rep w (Imm σ.objs γ w) e x [] c) ys us:=by
 have hne:ys≠[]:=fun h0=>by rw[h0] at hn;simp at hn
 unfold cpyOf at h;split at h
 ·obtain⟨ao,cap,us,e1,h1,h2⟩:=srcOf r h hv;obtain⟨ad,rfl,h3⟩:=h2 hne;exact⟨ad,cap,_,us,e1,rfl,h3,h1⟩
 ·rename_i q sz lo n;obtain⟨ob,hob,h2⟩:=Option.bind_eq_some_iff.1 h
  cases ob with
  | arr ti e2 xs fz =>
   simp only[chk_some,Option.bind_eq_some_iff,Option.some.injEq] at h2;obtain⟨hs,zs,h3,rfl⟩:=h2;have hs:=Nat.eq_of_beq_eq_true hs;subst hs;obtain⟨rfl,h3⟩:=qak h3;subst h3;simp only at hn hne ⊢
   have hxs:xs≠[]:=fun h0=>by simp[h0] at hn
   obtain⟨hlt,ao0,n0,c0,ao,cap,hg,hlo,e1,hcap,hne2,_⟩:=hv;have hn0:=ObR.len (r.rep q _ hob) hg;obtain⟨b,cap2,us,h4,h5,h6,h7,h8⟩:=qjF r hob hxs;have hnpos:0<n:=by
    simp only[List.length_take,List.length_drop] at hn;omega
   obtain⟨b2,hg2,rfl⟩:=hne2 hnpos
   have hbb:b2=b:=by rw[h4] at hg2;simpa using hg2.symm
   subst hbb;refine⟨_,cap,n,(us.drop (lo*e2.size)).take (n*e2.size),e1,?_,?_,?_⟩
   ·simp only[List.length_take,List.length_drop];omega
   ·have:=CellsAt.take (CellsAt.drop h7 (lo*e2.size)) (n*e2.size)
    rwa [show(⟨b2,0,none⟩:Addr).add (lo*e2.size)=⟨b2,lo*e2.size,none⟩ by simp[Addr.add];intro h;exact h.symm] at this
   ·exact(h8.drop (Rep.slen e2) lo).take (Rep.slen e2) n
  | _=>simp at h2
 ·cases h
theorem ef_copy (r:Rel F σ γ a w) {args:Array Operand} {ats:Array TypeId} {d s:Operand} {t t2:TypeId} (ho:o.op = .call ⟨.builtin .copy,args,ats⟩) (ha:args.toList=[d,s]) (hat:ats.toList=[t,t2]) (h:copyE P σ o d s t k=some res):EfR P F σ γ a w o k res Q:=by
 have ha':args = #[d,s]:=by rw[←Array.toList_inj,ha]
 have hat':ats = #[t,t2]:=by rw[←Array.toList_inj,hat]
 subst ha';subst hat';simp only[copyE,Option.bind_eq_some_iff] at h;obtain⟨i,hu,dv,h1,sv,h2,q,hq,ob,hob,h3⟩:=h;have hu:=qx hu
 cases ob with
 | arr ti e xs fz =>
  cases fz with
  | true=>simp at h3
  | false =>
   simp only[chk_some,req_some,Bool.and_eq_true,Bool.not_eq_true',Option.bind_eq_some_iff] at h3;obtain⟨⟨hpr,hci,hdz⟩,ys,hys,⟨hy0,hq0⟩,σ',h4,h5⟩:=h3;have hy0:0<ys.length:=Nat.le_of_ble_eq_true hy0;have hq0:0<q.2.2:=Nat.le_of_ble_eq_true hq0;obtain⟨inf,hi,hisz⟩:=qL hci;have hvd:=qf r (qj σ) h1;have hvs:=qf r (qj σ) h2;obtain⟨ad,cap2,sl,us2,es,hsl,hcells,hrep2⟩:=qvF r.o hys hvs hy0;obtain⟨hlo,b,cap,hgb,ed⟩:=qvM r.o hq hob (fun p sz lo n hh=>by rw[hh] at hdz;exact Nat.eq_of_beq_eq_true hdz) hvd hq0;subst hsl;obtain⟨us,hown,hrep⟩:=r.o.rep q.1 _ hob;rcases hown with ⟨h8,_⟩ | ⟨b1,cap1,cur1,h8,h9,h10,h11,h12,h13,h14⟩
   ·rw[hgb] at h8;cases h8
   have hb1:b1=b:=by
    have:=toList_some h8;rw[this] at hgb;simpa using hgb
   subst hb1;obtain⟨m,hm⟩:∃m,min ys.length q.2.2=m:=⟨_,rfl⟩
   have hm1:m≤ys.length:=by omega
   have hm2:m≤q.2.2:=by omega
   have hul:us2.length=ys.length*e.size:=RepL.length (Rep.slen e) hrep2;have hmul:m*e.size≤ys.length*e.size:=Nat.mul_le_mul_right _ hm1
   have hcl:(us2.take (m*e.size)).length=m*e.size:=by rw[List.length_take,hul];omega
   have hle:(q.2.1+m)*e.size≤xs.length*e.size:=Nat.mul_le_mul_right _ (by omega)
   have hcl2:xs.length*e.size≤cur1.size:=by rw[h13];exact Nat.mul_le_mul_right _ h11
   rw[Nat.add_mul] at hle;have hyt:ys.take q.2.2=ys.take m:=by
    rw[←hm];by_cases hc:ys.length≤q.2.2
    ·rw[Nat.min_eq_left hc,List.take_of_length_le hc,List.take_length]
    ·rw[Nat.min_eq_right (by omega)]
   rw[hm,hyt] at h4
   have hxl:(xs.take q.2.1++(ys.take m++xs.drop (q.2.1+m))).length=xs.length:=by simp;omega
   have hone:∀u∈us2.take (m*e.size),u.oneCell'=true:=fun u hu'=>RepL.all (p:=fun u=>u.oneCell') (fun x c hx u hu=>Rep.one e hx u hu) hrep2 u (List.mem_of_mem_take hu');have hrun0:=qvR (P:=P) (dT:=t) (sT:=t2) (ty:=o.type) (dLen:=q.2.2) (dCap:=cap) (sLen:=ys.length) (sCap:=cap2) (o:=q.2.1*e.size) hu hi hisz h10 (cs:=us2.take (m*e.size)) (by rw[hcl,←hm]) (CellsAt.take hcells (m*e.size)) (by rw[hcl];omega) hone;have hrun:(execOp a.eval o).run P w = .ok (.value (.int .i64 ((m:Nat):Int))) (w.setRow b1 (cur1.toList.take (q.2.1*e.size)++us2.take (m*e.size)++cur1.toList.drop (q.2.1*e.size+(us2.take (m*e.size)).length)).toArray):=by
    obtain⟨dst,op,type,pos,after,guard⟩:=o;simp only at ho;subst ho;rw[BigFrame.execOp_builtin,BigFrame.builtin_copy]
    have:(#[d,s].map a.eval) = #[.slice (some ⟨b1,q.2.1*e.size,none⟩) q.2.2 cap,.slice (some ad) ys.length cap2]:=by simp only[List.map_toArray,List.map_cons,List.map_nil,ed,es]
    rw[this];simp only at hrun0;simp only[Sem.run_bind,hrun0,Result.andThen_ok,Sem.run_pure];rw[show Nat.min ys.length q.2.2=m from hm];rfl
   have hrep':RepL (fun x c=>Rep w (Imm σ.objs γ w) e x [] c) (xs.take q.2.1++(ys.take m++xs.drop (q.2.1+m))) (us.take (q.2.1*e.size)++(us2.take (m*e.size)++us.drop ((q.2.1+m)*e.size))) :=
    (hrep.take (Rep.slen e) q.2.1).append ((hrep2.take (Rep.slen e) m).append (hrep.drop (Rep.slen e) (q.2.1+m)))
   obtain⟨hor,K⟩:=qhX (ob := .arr ti e (xs.take q.2.1++(ys.take m++xs.drop (q.2.1+m))) false) (cs:=(cur1.toList.take (q.2.1*e.size)++us2.take (m*e.size)++cur1.toList.drop (q.2.1*e.size+(us2.take (m*e.size)).length)).toArray) r.o ⟨_,hob,rfl⟩ hgb rfl (fun K=>by
    refine⟨_,.inr ⟨b1,cap1,_,h8,?_,h10.set _ (by simp only[List.size_toArray,List.length_append,List.length_drop,Array.length_toList,hcl,List.length_take];omega),?_,h12,?_,?_⟩,RepL.keep K hrep'⟩
    ·rw[h9,hxl]
    ·rw[hxl];exact h11
    ·simp only[List.size_toArray,List.length_append,List.length_drop,Array.length_toList,hcl];rw[List.length_take,Array.length_toList];omega
    ·rw[hxl,hcl,←h14,List.toList_toArray,List.append_assoc,List.take_append,List.take_append]
     have l1:(List.take (q.2.1*e.size) cur1.toList).length=q.2.1*e.size:=by simp;omega
     rw[l1,hcl,List.take_of_length_le (by rw[l1];omega),List.take_of_length_le (l:=us2.take (m*e.size)) (by rw[hcl];omega),List.take_take,Nat.min_eq_left (by omega)];congr 2;rw[List.drop_take,Nat.add_mul];congr 1
     omega)
   obtain⟨g1,g2⟩:=qch r K hor (qh5 hob hxl) (fun o' _ hp'=>qs (fun e=>by subst e;rw[hpr] at hp';cases hp')) h4 (v := .int .i64 ((m:Nat):Int)) rfl;exact EfR.val hrun h5 g1 g2
 | _=>simp at h3

theorem qiC {S S':Sp}:∀(τ:Ty) {x:D τ} {M:List Nat} {cs:List Value},τ.flat=true→Rep w S τ x M cs→Rep w S' τ x M cs
 | .int _,_,_,_,_,h=>h
 | .bool,_,_,_,_,h=>h
 | .str,_,_,_,_,h=>h
 | .nil,_,_,_,_,h=>h
 | .sl _,_,_,_,hf,_=>by cases hf
 | .osl _ _,_,_,_,hf,_=>by cases hf
 | .onl _ _,_,_,_,hf,_=>by cases hf
 | .obx _,_,_,_,hf,_=>by cases hf
 | .st f r,x,M,cs,hf,⟨c1,c2,M1,M2,h1,h2,h3,h4⟩=>by
  simp only[Ty.flat,Bool.and_eq_true] at hf;exact⟨c1,c2,M1,M2,h1,h2,qiC f hf.1 h3,qiC r hf.2 h4⟩
theorem qi9 {S S':Sp}:∀(τ:Ty) {x:D τ} {M:List Nat} {cs:List Value},τ.fresh=true→Rep w S τ x M cs→Rep w S' τ x M cs
 | .int _,_,_,_,_,h=>h
 | .bool,_,_,_,_,h=>h
 | .str,_,_,_,_,h=>h
 | .nil,_,_,_,_,h=>h
 | .sl _,_,_,_,hf,_=>by cases hf
 | .osl _ e,_,_,_,hf,⟨v,us,h1,h2,h3⟩=>⟨v,us,h1,h2,h3.mono fun _ _ hx=>qiC e hf hx⟩
 | .obx e,_,_,_,hf,⟨b,M',T,cells,h1,h2,h3,h4⟩=>⟨b,M',T,cells,h1,h2,h3,qi9 e hf h4⟩
 | .onl _ e,_,_,_,hf,h=>by
  rcases h with h | ⟨xs,v,us,h0,h1,h2,h3⟩
  ·exact .inl h
  ·exact .inr ⟨xs,v,us,h0,h1,h2,h3.mono fun _ _ hx=>qiC e hf hx⟩
 | .err,_,_,_,_,h=>h
 | .bld _ _,_,_,_,_,h=>h
 | .st f r,x,M,cs,hf,⟨c1,c2,M1,M2,h1,h2,h3,h4⟩=>by
  simp only[Ty.fresh,Bool.and_eq_true] at hf;exact⟨c1,c2,M1,M2,h1,h2,qi9 f hf.1 h3,qi9 r hf.2 h4⟩
theorem ef_con1 (r:Rel F σ γ a w) {g:FuncId} {bb:Bool} {c:Con} {vs:List PV} {us:List Value} {x:DL c.ps} {y:D c.ρ} {objs1:List OB} {σ':AState} (hc:ConB P g bb c) (hx:(execOp a.eval o).run P w = .ok (.enter g us.toArray) w) (hv:PRL σ.objs γ w vs us)
  (hbb:bb=false∨c.ρ.fresh=true) (h6:argsB σ.objs bb c.ps vs=some x) (h7:(bif c.ρ.fresh then some σ.objs else qaA σ.prO σ.objs (qnU c.ps vs))=some objs1) (h8:c.φ x=some y)
  (h9:AState.putO { σ with objs:=objs1++(resPV c y objs1.length).2 } o.dst [] (resPV c y objs1.length).1=some σ') (h10:k σ'=some res):EfA P F σ γ a w o k res Q:=by
 have hfr:∃S:Sp,Frz F σ.prO σ.objs γ w objs1∧(∀k,S k→k<w.heap.size)∧TabR S w∧ArgsB w S bb c.ps x us∧(c.ρ.fresh=true∨Sp.le S (Imm objs1 γ w)):=by
  by_cases hfre:c.ρ.fresh=true
  ·simp only[hfre,cond_true,Option.some.injEq] at h7;subst h7;exact⟨⟨fun k=>k<w.heap.size,γ.m⟩,Frz.refl r.o _,fun k hk=>hk,r.o.tab.mono (fun k hk=>hk.lt) (fun _ _=>rfl),qoN r.o h6 hc.pure hv,.inl hfre⟩
  ·have hb0:bb=false:=hbb.resolve_right hfre;subst hb0;simp only[Bool.eq_false_iff.2 hfre,cond_false] at h7;obtain⟨f1,f2⟩:=qar r.o h7;exact⟨Imm objs1 γ w,f1,fun k hk=>hk.lt,f1.o.tab,qeN r.o f1.keep.imm h6 hc.pure hv (fun o ho b _ hb=>f2 o ho b hb),.inr (Sp.le.refl _)⟩
 obtain⟨S,f1,hSlt,hStab,hargs,hS⟩:=hfr;unfold EfA Oper.wp;rw[hx];rw[Oper.upon_enter];refine(hc.calls w S _ x y hSlt hStab (by simpa using hargs) h8).mono fun e w' hh=>?_;obtain⟨v,rfl,hch,M,cs,hnd,hfresh,hrep,hv⟩:=hh;obtain⟨T,hrepT,hTm,hT⟩:∃T:Sp,Rep w' T c.ρ y M cs∧(∀x b,T.m x=some b→γ.m x=some b)∧∀k,T k→k<w'.heap.size∧(Imm objs1 γ w k∨w.heap.size≤k)∧k∉M:=by
  rcases hS with hS | hS
  ·exact⟨⟨fun _=>False,fun _=>none⟩,qi9 c.ρ hS hrep,fun _ _ h=>(by cases h),fun k hk=>hk.elim⟩
  ·exact⟨_,hrep,hS.m,fun k hk=>⟨hk.1,hk.2.1.imp (hS k) id,hk.2.2⟩⟩
 obtain⟨gs,hgl,hgM,hgp⟩:=qfq c.ρ hrepT objs1.length;have hMlt:∀b∈M,b<w'.heap.size:=by
  have:∀(τ:Ty) {x:D τ} {M:List Nat} {cs:List Value} {S:Sp},Rep w' S τ x M cs→∀b∈M,b<w'.heap.size:=by
   intro τ
   induction τ with
   | osl i e _=>intro x M cs S h;obtain⟨v,us,_,h2,_⟩:=h;exact h2.lt
   | onl i e _=>intro x M cs S h b hb;exact onl_lt h b hb
   | hrl i p q j bh _ _=>intro x M cs S h b hb;exact hrl_lt h b hb
   | obx e ih =>
    intro x M cs S h b hb;obtain⟨b',M',T,cells,rfl,_,h3,h4⟩:=h;rcases List.mem_cons.1 hb with rfl | hb
    ·exact qhP h3
    ·exact ih h4 b hb
   | bld tb ib =>
    intro x M cs S h b hb;obtain⟨b',M',p',v',us,rfl,_,h3,_,h5,_⟩:=h;rcases List.mem_cons.1 hb with rfl | hb
    ·exact qhP h3
    ·exact h5.lt b hb
   | st f r ihf ihr =>
    intro x M cs S h b hb;obtain⟨c1,c2,M1,M2,_,rfl,h3,h4⟩:=h;rcases List.mem_append.1 hb with hb | hb
    ·exact ihf h3 b hb
    ·exact ihr h4 b hb
   | omp k v _ _ =>
    intro x M cs S h b hb;obtain⟨b',rfl,_,_,es,clk,h3,_⟩:=h
    obtain rfl:b=b':=by simpa using hb
    exact qhP h3
   | _=>intro x M cs S h b hb;rw[h.1] at hb;cases hb
  exact this c.ρ hrep
 have hnew:Keep objs1 γ w (objs1++(cc c.ρ y objs1.length).2) (upd γ objs1.length gs) w' objs1.length→(VRL (objs1++(cc c.ρ y objs1.length).2) (upd γ objs1.length gs) w' (cc c.ρ y objs1.length).1 cs∧∀(j:Nat) ob g,(cc c.ρ y objs1.length).2[j]?=some ob→gs[j]?=some g→ObR (objs1++(cc c.ρ y objs1.length).2) (upd γ objs1.length gs) w' ob g∧mutOb ob=true):=by
  intro K;refine hgp _ _ ⟨fun k hk=>?_,hTm⟩ (fun j g hj=>qcB hj) (by rw[List.length_append,hgl];exact Nat.le_refl _);obtain⟨h11,h12,h13⟩:=hT k hk;rcases h12 with h12 | h12
  ·exact K.imm k h12
  ·refine⟨h11,f1.o.up k (.inl (Nat.le_trans f1.o.chg.size h12)),fun o' hm hb=>?_,fun hB=>Nat.not_le_of_lt (f1.o.bl k hB).1 h12⟩;rcases qki hm with ⟨h14,h15⟩ | ⟨j,ob,rfl,h14⟩
   ·rw[qlp h14] at hb;exact Nat.not_le_of_lt (f1.o.lt o' k h14 hb) h12
   ·have hj:j<gs.length:=by rw[hgl];exact qw h14
    rw[qcB (List.getElem?_eq_getElem hj)] at hb;refine h13 ?_;rw[hgM];exact List.mem_flatMap.2 ⟨_,List.getElem_mem hj,by simp[hb]⟩
 obtain⟨hor,K⟩:=qhb (news:=(cc c.ρ y objs1.length).2) (gs:=gs) (M:=M) f1.o hch hgl hgM hnd (fun b hb=>⟨hfresh b hb,hMlt b hb⟩) (fun K=>(hnew K).2);have hK:Keep σ.objs γ w (objs1++(cc c.ρ y objs1.length).2) _ _ σ.objs.length:=f1.keep.trans (by rw[←f1.len];exact K);obtain⟨g1,g2⟩:=qch r hK hor (f1.same.trans qbQ (by rw[f1.len];exact Nat.le_refl _)) (fun o' ho' hp=>by rw[List.getElem?_append_left (by rw[f1.len];exact ho')];exact f1.prot o' hp) h9 (qoL hc.wf (hnew K).1);rw[←hv] at g1;exact⟨hch,σ',_,h10,g1,g2⟩
theorem ef_call (hE:EnvOK P env) (r:Rel F σ γ a w) {f:Operand} {args:Array Operand} {ats:Array TypeId} (ho:o.op = .call ⟨.value f,args,ats⟩) (h:callE P env σ o f args k=some res):EfA P F σ γ a w o k res Q:=by
 simp only[callE,Option.bind_eq_some_iff,chk_some,Bool.and_eq_true,Bool.or_eq_true,Bool.not_eq_true'] at h;obtain⟨q,h1,⟨g,caps⟩,h2,h3,⟨bb,c⟩,h4,⟨hbo,hbb⟩,vs,h5,x,h6,objs1,h7,y,h8,σ',h9,h10⟩:=h;simp only at h4 hbb h6 h7 h8 h9
 have hcaps:caps=[]:=by simpa using h3
 subst hcaps;obtain⟨_,l,hfv,hpl⟩:VR σ.objs γ w (.fn g []) (a.eval f):=by
  have:=qf r (qj σ) h1;rw[qc7 h2] at this;exact this
 simp only[PtrL] at hpl;subst hpl;have hx:=qdV (ρ:=a.eval) ho hfv;rw[List.append_nil] at hx;exact ef_con1 r (hE.con g bb c h4) (by rw[hx,qaP hbo]) (qnF r (qj σ) h5) hbb h6 h7 h8 h9 h10
theorem ef_sort (hE:EnvOK P env) (r:Rel F σ γ a w) {f:Operand} {args:Array Operand} {ats:Array TypeId} {s:FuncId×Srt} (ho:o.op = .call ⟨.value f,args,ats⟩) (hs:srtOf P env σ f=some s) (h:sortE σ o s.2 args.toList k=some res):EfR P F σ γ a w o k res Q:=by
 obtain⟨g,s⟩:=s;simp only[srtOf,Option.bind_eq_some_iff,chk_some,Option.some.injEq,Prod.mk.injEq] at hs;obtain⟨q,h1,⟨g',caps⟩,h2,h3,s',h4,hbo,e1,e2⟩:=hs;simp only at e1 hbo h4 h3;subst e1;subst e2
 have hcaps:caps=[]:=by simpa using h3
 subst hcaps;have hc:=hE.srt g' s' h4;obtain⟨_,l,hfv,hpl⟩:VR σ.objs γ w (.fn g' []) (a.eval f):=by
  have:=qf r (qj σ) h1;rw[qc7 h2] at this;exact this
 simp only[PtrL] at hpl;subst hpl;have hx:=qdV (ρ:=a.eval) ho hfv;rw[List.append_nil] at hx;simp only[sortE] at h;split at h
 ·rename_i x rest hal;simp only[Option.bind_eq_some_iff] at h;obtain⟨pv,h5,c,h6,h7⟩:=h;have hcv:=qdy h6;subst hcv;split at h7
  ·rename_i p;simp only[Option.bind_eq_some_iff] at h7;obtain⟨ob,hob,h8⟩:=h7
   cases ob with
   | arr i e xs fz =>
    cases fz with
    | true=>simp at h8
    | false =>
    simp only[chk_some,Bool.and_eq_true,Bool.not_eq_true',Option.bind_eq_some_iff,req_some] at h8;obtain⟨⟨hpr,hi,har⟩,ys,hys,hlen,σ',h9,h10⟩:=h8;have hi:=Nat.eq_of_beq_eq_true hi;subst hi;obtain⟨he,hys⟩:=qak hys;subst he;simp only at hys;subst hys
    have hlen:xs.length<4611686018427387904:=by simpa[Nat.blt_eq] using hlen
    obtain⟨hlt,hv,_⟩:VR σ.objs γ w (.os p) (a.eval x):=qf r (qj σ) h5;obtain⟨us,hown,hrep⟩:=r.o.rep p _ hob;rw[←hv] at hown;have hargs:(args.toList.map a.eval)=a.eval x::(s'.g.elim [] fun g=>[.func (.func g) #[] #[]]):=by
     rw[hal,List.map_cons];congr 1;unfold srtArgs at har;split at har
     ·rw[Option.isNone_iff_eq_none.1 har];rfl
     ·rename_i y;split at har
      ·rename_i hh gg hyf hgg;simp only[Option.bind_eq_some_iff] at hyf;obtain⟨qy,hy1,hy2⟩:=hyf;obtain⟨_,ly,hfy,hpy⟩:VR σ.objs γ w (.fn hh []) (a.eval y):=by
        have:=qf r (qj σ) hy1;rw[qc7 hy2] at this;exact this
       simp only[PtrL] at hpy;subst hpy;rw[Nat.eq_of_beq_eq_true har] at hfy;simp[hgg,hfy]
      ·cases har
     ·cases har
    unfold EfR Oper.wp;rw[hx,qaP hbo];rw[Oper.upon_enter];rw[hargs];refine(hc.calls w _ _ _ xs us hlen hown hrep).mono fun e w' hh=>?_;obtain⟨rfl,hch,us',hown',hrep'⟩:=hh;have hxl:=hc.len xs
    cases hM:(γ p).2 with
    | none =>
     rw[hM] at hch hown';simp only[Option.toList_none] at hch hown';have hnil:xs=[]:=by
      rcases hown' with ⟨_,_,h11,_⟩ | ⟨_,_,_,h11,_⟩
      ·exact List.length_eq_zero_iff.1 h11
      ·cases h11
     subst hnil;have hnil:s'.f []=[]:=List.length_eq_zero_iff.1 hxl;rw[hnil] at h9;have hsame:σ.objs.set p (.arr s'.i s'.e [] false)=σ.objs:=by
      apply List.ext_getElem?;intro j;rw[List.getElem?_set];by_cases hj:p=j
      ·subst hj;rw[if_pos rfl,if_pos hlt,hob]
      ·rw[if_neg hj]
     rw[hsame] at h9;obtain⟨g1,g2⟩:=qch r (Keep.ext hch) (r.o.ext hch) (fun o ti e xs fz h _=>⟨ti,e,xs,fz,h,rfl⟩) (fun _ _ _=>rfl) h9 (v := .tuple #[]) ⟨#[],rfl,rfl⟩;exact⟨σ',_,h10,g1,g2⟩
    | some b =>
     rw[hM] at hch hown';simp only[Option.toList_some] at hch hown'
     obtain⟨hor,K⟩:=qpp (ob := .arr s'.i s'.e (s'.f xs) false) hch r.o ⟨_,hob,rfl⟩ hM rfl (fun K=>by
      refine⟨us',?_,hrep'.mono fun x c hx=>qiC s'.e hc.flat hx⟩;rw[hM,hxl,←hv]
      exact hown')
     obtain⟨g1,g2⟩:=qch r K hor (qh5 hob hxl) (fun o' _ hp'=>qs (fun e=>by subst e;rw[hpr] at hp';cases hp')) h9 (v := .tuple #[]) ⟨#[],rfl,rfl⟩;exact⟨σ',_,h10,g1,g2⟩
   | _=>simp at h8
  ·cases h7
 ·cases h
theorem memN_spec {o:Nat}:∀ {l:List Nat},memN o l=true↔o∈l
 | []=>by simp[memN]
 | p::r=>by
  simp only[memN,Bool.or_eq_true,List.mem_cons,memN_spec (l:=r)];constructor
  ·rintro (h | h)
   ·exact .inl (Nat.eq_of_beq_eq_true h).symm
   ·exact .inr h
  ·rintro (rfl | h)
   ·exact .inl (by simp)
   ·exact .inr h
theorem qcR:∀ {l:List Nat},qmO l=true→l.Nodup
 | [],_=>List.nodup_nil
 | p::r,h=>by
  simp only[qmO,Bool.and_eq_true,Bool.not_eq_true'] at h;refine List.nodup_cons.2 ⟨fun hm=>?_,qcR h.2⟩;rw[memN_spec.2 hm] at h;cases h.1
theorem qc3 {F:Fr} {objs:List OB} {γ:Gh} {w:World} (r:ORel F objs γ w):∀ {l:List Nat},l.Nodup→(∀o∈l,Mut objs o)→(blocks γ l).Nodup
 | [],_,_=>by simp[blocks]
 | o::l,h,hm=>by
  rw[List.nodup_cons] at h;have ih:=qc3 r h.2 (fun o' ho'=>hm o' (List.mem_cons_of_mem _ ho'));simp only[blocks,List.flatMap_cons,List.nodup_append] at ih ⊢
  refine⟨by cases (γ o).2<;>simp,ih,fun b hb b' hb' e=>?_⟩
  subst e;obtain⟨o',ho',hbo⟩:=List.mem_flatMap.1 hb';have e1:=r.inj o o' b (hm o List.mem_cons_self) (hm o' (List.mem_cons_of_mem _ ho')) (by simpa using hb) (by simpa using hbo);subst e1;exact h.1 ho'
theorem qlg:∀(l:List Nat) (objs:List OB),(killL objs l).length=objs.length
 | [],_=>rfl
 | o::r,objs=>by rw[killL,qlg r];simp
theorem qmv:∀(l:List Nat) (objs:List OB) (o:Nat),(o∉l∧(killL objs l)[o]?=objs[o]?)∨(o∈l∧∀ob,(killL objs l)[o]?=some ob→ob = .dead)
 | [],objs,o => .inl ⟨by simp,rfl⟩
 | q::r,objs,o=>by
  rw[killL];rcases qmv r (objs.set q .dead) o with ⟨h1,h2⟩ | ⟨h1,h2⟩
  ·by_cases e:q=o
   ·subst e;refine .inr ⟨by simp,fun ob hob=>?_⟩;rw[h2,List.getElem?_set,if_pos rfl] at hob;split at hob
    ·cases hob;rfl
    ·cases hob
   ·exact .inl ⟨by simp;exact⟨fun h=>e h.symm,h1⟩,by rw[h2,List.getElem?_set,if_neg e]⟩
  ·exact .inr ⟨by simp[h1],h2⟩
theorem qh4 {prO:Nat}:∀ {l:List Nat} {objs objs':List OB} {p:Nat} {cs:List Cv},qaA prO objs l=some objs'→objs[p]?=some (.box cs)→objs'[p]?=some (.box cs)
 | [],objs,objs',p,cs,h,hb=>by simp only[qaA,Option.some.injEq] at h;rw[←h];exact hb
 | o::r,objs,objs',p,cs,h,hb=>by
  simp only[qaA,Option.bind_eq_some_iff] at h;obtain⟨objs1,h1,h2⟩:=h;refine qh4 h2 ?_;unfold qmo at h1;simp only[Option.bind_eq_some_iff] at h1;obtain⟨ob,h3,h4⟩:=h1
  cases ob with
  | arr i e xs fz =>
   cases fz with
   | true=>simp only[Option.some.injEq] at h4;rw[←h4];exact hb
   | false =>
    simp only[chk_some,Option.some.injEq] at h4;rw[←h4.2,List.getElem?_set];by_cases e1:o=p
    ·subst e1;rw[hb] at h3;cases h3
    ·rw[if_neg e1];exact hb
  | _=>simp at h4
theorem qll {prO:Nat}:∀ {l:List Nat} {objs objs':List OB} {p:Nat} {cs:List Cv},qaA prO objs l=some objs'→objs'[p]?=some (.box cs)→objs[p]?=some (.box cs)
 | [],objs,objs',p,cs,h,hb=>by simp only[qaA,Option.some.injEq] at h;rw[h];exact hb
 | o::r,objs,objs',p,cs,h,hb=>by
  simp only[qaA,Option.bind_eq_some_iff] at h;obtain⟨objs1,h1,h2⟩:=h;have hb1:=qll h2 hb;unfold qmo at h1;simp only[Option.bind_eq_some_iff] at h1;obtain⟨ob,h3,h4⟩:=h1
  cases ob with
  | arr i e xs fz =>
   cases fz with
   | true=>simp only[Option.some.injEq] at h4;rw[h4];exact hb1
   | false =>
    simp only[chk_some,Option.some.injEq] at h4;rw[←h4.2,List.getElem?_set] at hb1;by_cases e1:o=p
    ·rw[if_pos e1] at hb1;split at hb1
     ·cases hb1
     ·cases hb1
    ·rw[if_neg e1] at hb1;exact hb1
  | _=>simp at h4
theorem ownB_of {objs:List OB} {o:Nat} {l:List Cv} (h:objs[o]?=some (.box l)):ownB objs [.ptr o 0]=some l:=by
 unfold ownB;simp only[h];rfl
theorem qtR {prO:Nat} {l:List Nat} {objs objs':List OB} (h:qaA prO objs l=some objs') (cs:List Cv):ownB objs' cs=ownB objs cs:=by
 cases e:ownB objs' cs with
 | some bl =>
  obtain⟨o,off,rfl,rfl,hob⟩:=qfY e;exact(ownB_of (qll h hob)).symm
 | none =>
  cases e2:ownB objs cs with
  | none=>rfl
  | some bl =>
   obtain⟨o,off,rfl,rfl,hob⟩:=qfY e2;rw[ownB_of (qh4 h hob)] at e;cases e
theorem qsO {prO:Nat} {l:List Nat} {objs objs':List OB} (h:qaA prO objs l=some objs'):∀ {τ:Ty} {cs:List Cv},idsD objs' τ cs=idsD objs τ cs:=by
 intro τ
 induction τ with
 | obx e ih=>intro cs;simp only[idsD,qtR h];exact ih
 | st f r ihf ihr=>intro cs;simp only[idsD,ihf,ihr]
 | _=>intro cs;rfl
theorem ef_io (hE:EnvOK P env) (r:Rel F σ γ a w) {f:Operand} {args:Array Operand} {ats:Array TypeId} {s:FuncId×Ioc} (ho:o.op = .call ⟨.value f,args,ats⟩) (hs:iocOf P env σ f=some s) (h:ioE σ o s.2 args.toList k=some res):EfR P F σ γ a w o k res Q:=by
 obtain⟨g,c⟩:=s;simp only[iocOf,Option.bind_eq_some_iff,chk_some,Option.some.injEq,Prod.mk.injEq] at hs;obtain⟨q,h1,⟨g',caps⟩,h2,h3,c',h4,hbo,e1,e2⟩:=hs;simp only at e1 hbo h4 h3;subst e1;subst e2
 have hcaps:caps=[]:=by simpa using h3
 subst hcaps;have hc:=hE.io g' c' h4;obtain⟨_,l,hfv,hpl⟩:VR σ.objs γ w (.fn g' []) (a.eval f):=by
  have:=qf r (qj σ) h1;rw[qc7 h2] at this;exact this
 simp only[PtrL] at hpl;subst hpl;have hx:=qdV (ρ:=a.eval) ho hfv;rw[List.append_nil] at hx;simp only[ioE] at h;split at h
 ·rename_i x rest hal;simp only[Option.bind_eq_some_iff] at h;obtain⟨pv,h5,cv,h6,h7⟩:=h;have hcv:=qdy h6;subst hcv;split at h7
  ·rename_i p off;simp only[Option.bind_eq_some_iff] at h7;obtain⟨vs,h8,ob,hob,h9⟩:=h7
   cases ob with
   | box cs =>
    simp only[Option.bind_eq_some_iff,chk_some,Bool.and_eq_true,Bool.not_eq_true',List.all_eq_true] at h9;obtain⟨objs1,hfz,y,hy,z,hz,⟨hoff,hpr,hnd,hall⟩,rr,hφ,σ',h10,h11⟩:=h9;have hoff:=Nat.eq_of_beq_eq_true hoff;subst hoff;obtain⟨hlt,b0,hg0,hv0⟩:VR σ.objs γ w (.ptr p 0) (a.eval x):=qf r (qj σ) h5;obtain⟨f1,f2⟩:=qar r.o hfz;have hob1:=qh4 hfz hob;obtain⟨b,T,cells,hgp,hheap,hvrl⟩:=f1.o.rep p _ hob1
    have hb0:b0=b:=by rw[hgp] at hg0;simpa using hg0.symm
    subst hb0;obtain⟨hbx,hmut⟩:=qaS (S:=Imm objs1 γ w) f1.o (Sp.le.refl _) c'.bx hy hvrl (fun o ho b hb=>f2 o (List.mem_append_left _ (by rw[←qsO hfz];exact ho)) b hb);have hargs:=qeN (S:=Imm objs1 γ w) r.o f1.keep.imm hz hc.pure (qnF r (qj σ) h8) (fun o ho b _ hb=>f2 o (List.mem_append_right _ ho) b hb);have hMmem:∀k∈blocks γ (idsO objs1 c'.bx cs),∃o∈idsO objs1 c'.bx cs,(γ o).2=some k:=fun k hk=>by
     obtain⟨o,ho,hb'⟩:=List.mem_flatMap.1 hk;exact⟨o,ho,by simpa using hb'⟩
    have hpm:Mut objs1 p:=⟨_,hob1,rfl⟩
    have hgpb:(γ p).2=some b0:=by rw[hgp]
    have hbM:b0∉blocks γ (idsO objs1 c'.bx cs):=fun hm=>by
     obtain⟨o',ho',hb'⟩:=hMmem b0 hm;have:=f1.o.inj o' p b0 (hmut o' ho') hpm hb' hgpb;have h12:=(hall o' ho').2;rw[this] at h12;simp at h12
    have hMnd:=qc3 f1.o (qcR hnd) hmut;have hSok:∀k,Imm objs1 γ w k→k<w.heap.size∧k≠b0∧k∉blocks γ (idsO objs1 c'.bx cs):=fun k hk=>⟨hk.lt,fun e=>hk.own p hpm (by rw[e];exact hgpb),fun hm=>by
     obtain⟨o',ho',hb'⟩:=hMmem k hm
     exact hk.own o' (hmut o' ho') hb'⟩
    unfold EfR Oper.wp;rw[hx,qaP hbo];rw[Oper.upon_enter];rw[hal,List.map_cons,hv0];refine(hc.calls w (Imm objs1 γ w) b0 T cells _ _ (y,z) rr hSok f1.o.tab hheap hMnd hbM hbx hargs hφ).mono fun e w' hh=>?_;obtain⟨v,rfl,hch,T',cs',M1,M2,cells2,hheap',hnd',hin,hrep1,hrep2,hv⟩:=hh;have hrep:Rep w' ⟨fun k=>k<w'.heap.size∧(Imm objs1 γ w k∨w.heap.size≤k∨k∈blocks γ (idsO objs1 c'.bx cs))∧k∉M1++M2∧k≠b0,γ.m⟩ (.st c'.bx c'.ρ) rr (M1++M2) (cs'.toList++cells2):=⟨_,_,_,_,rfl,rfl,hrep1,hrep2⟩;obtain⟨gs,hgl,hgM,hgp2⟩:=qfq (.st c'.bx c'.ρ) hrep objs1.length;obtain⟨q,hq⟩:∃q,cc (.st c'.bx c'.ρ) rr objs1.length=q:=⟨_,rfl⟩;rw[hq] at hgl hgp2 h10;have hl1:cs'.toList.length=c'.bx.size:=Rep.length c'.bx hrep1
    obtain⟨objs0,ho0⟩:∃objs0,(killL objs1 (idsO objs1 c'.bx cs)).set p (.box (q.1.take c'.bx.size))=objs0:=⟨_,rfl⟩;rw[ho0] at h10
    have hlen0:objs0.length=objs1.length:=by rw[←ho0,List.length_set,qlg]
    have hget0:∀o ob,objs0[o]?=some ob→(o=p∧ob = .box (q.1.take c'.bx.size))∨(o≠p∧o∉idsO objs1 c'.bx cs∧objs1[o]?=some ob)∨(o∈idsO objs1 c'.bx cs∧ob = .dead):=fun o ob hob=>by
     rw[←ho0,List.getElem?_set] at hob;by_cases e:p=o
     ·subst e;rw[if_pos rfl] at hob;split at hob
      ·cases hob;exact .inl ⟨rfl,rfl⟩
      ·cases hob
     ·rw[if_neg e] at hob;rcases qmv (idsO objs1 c'.bx cs) objs1 o with ⟨k1,k2⟩ | ⟨k1,k2⟩
      ·rw[k2] at hob;exact .inr (.inl ⟨fun h=>e h.symm,k1,hob⟩)
      ·exact .inr (.inr ⟨k1,k2 ob hob⟩)
    have hmu:∀o,Mut objs0 o→Mut objs1 o∧o∉idsO objs1 c'.bx cs:=by
     rintro o ⟨ob,k1,k2⟩
     rcases hget0 o ob k1 with ⟨rfl,rfl⟩ | ⟨k3,k4,k5⟩ | ⟨k3,rfl⟩
     ·exact⟨hpm,fun hm=>by have:=(hall o hm).2;simp at this⟩
     ·exact⟨⟨ob,k5,k2⟩,k4⟩
     ·cases k2
    have hblk:∀o k,o∉idsO objs1 c'.bx cs→o≠p→(Mut objs1 o∨∃i,∃e:Ty,∃xs:List (D e),objs1[o]?=some (.arr i e xs true))→(γ o).2=some k→k∉b0::blocks γ (idsO objs1 c'.bx cs):=fun o k k1 k2 k3 k4 hm=>by
     have:∃o',Mut objs1 o'∧(γ o').2=some k∧o'≠o:=by
      rcases List.mem_cons.1 hm with e | e
      ·exact⟨p,hpm,by rw[e];exact hgpb,fun h=>k2 h.symm⟩
      ·obtain⟨o',ho',hb'⟩:=hMmem k e;exact⟨o',hmut o' ho',hb',fun h=>k1 (h▸ho')⟩
     obtain⟨o',m1,m2,m3⟩:=this;rcases k3 with k3 | ⟨i,e,xs,k3⟩
     ·exact m3 (f1.o.inj o' o k m1 k3 m2 k4)
     ·exact(f1.o.frz o i e xs k k3 k4).own o' m1 m2
    have K0:Keep objs1 γ w objs0 γ w' objs1.length:=⟨⟨fun k hk=>⟨Nat.lt_of_lt_of_le hk.lt hch.size,hk.s,fun o hm=>hk.own o (hmu o hm).1,hk.nb⟩,fun _ _ h=>h⟩,fun k hk=>hch.block k hk.lt (by
     intro hm;rcases List.mem_cons.1 hm with e | e
     ·exact(hSok k hk).2.1 e
     ·exact(hSok k hk).2.2 e),by omega,fun _ _=>rfl,hch.size,rfl,fun _ _ _ _ h=>h⟩
    have hown:∀k∈b0::blocks γ (idsO objs1 c'.bx cs),F.w0.heap.size≤k∨k∈F.M:=fun k hm=>by
     rcases List.mem_cons.1 hm with e | e
     ·rw[e];exact f1.o.own p b0 hpm hgpb
     ·obtain⟨o',ho',hb'⟩:=hMmem k e;exact f1.o.own o' k (hmut o' ho') hb'
    have hchg:Chg F.M F.w0 w':=by
     have h0:=f1.o.chg;refine⟨hch.os.trans h0.os,hch.tape.trans h0.tape,hch.output.trans h0.output,Nat.le_trans h0.size hch.size,fun k hk hn=>(hch.block k (Nat.lt_of_lt_of_le hk h0.size) fun hm=>?_).trans (h0.block k hk hn),fun e=>Nat.le_trans (h0.drawn e) (hch.drawn e)⟩;rcases hown k hm with h1 | h1
     ·omega
     ·exact hn h1
    have hM12lt:∀k∈M1++M2,k<w'.heap.size:=by
     have:∀(τ:Ty) {x:D τ} {M:List Nat} {cs:List Value} {S:Sp},Rep w' S τ x M cs→∀b∈M,b<w'.heap.size:=by
      intro τ
      induction τ with
      | osl i e _=>intro x M cs S h;obtain⟨v,us,_,h2,_⟩:=h;exact h2.lt
      | onl i e _=>intro x M cs S h b hb;exact onl_lt h b hb
      | hrl i p q j bh _ _=>intro x M cs S h b hb;exact hrl_lt h b hb
      | obx e ih =>
       intro x M cs S h b hb;obtain⟨b',M',T,cells,rfl,_,h3,h4⟩:=h;rcases List.mem_cons.1 hb with rfl | hb
       ·exact qhP h3
       ·exact ih h4 b hb
      | bld tb ib =>
       intro x M cs S h b hb;obtain⟨b',M',p',v',us,rfl,_,h3,_,h5,_⟩:=h;rcases List.mem_cons.1 hb with rfl | hb
       ·exact qhP h3
       ·exact h5.lt b hb
      | st f r ihf ihr =>
       intro x M cs S h b hb;obtain⟨c1,c2,M1,M2,_,rfl,h3,h4⟩:=h;rcases List.mem_append.1 hb with hb | hb
       ·exact ihf h3 b hb
       ·exact ihr h4 b hb
      | omp k v _ _ =>
       intro x M cs S h b hb;obtain⟨b',rfl,_,_,es,clk,h3,_⟩:=h
       obtain rfl:b=b':=by simpa using hb
       exact qhP h3
      | _=>intro x M cs S h b hb;rw[h.1] at hb;cases hb
     exact this _ hrep
    have hnew:Keep objs1 γ w (objs0++q.2) (upd γ objs1.length gs) w' objs1.length→(VRL (objs0++q.2) (upd γ objs1.length gs) w' q.1 (cs'.toList++cells2)∧∀(j:Nat) ob g,q.2[j]?=some ob→gs[j]?=some g→ObR (objs0++q.2) (upd γ objs1.length gs) w' ob g∧mutOb ob=true):=by
     intro K;refine hgp2 _ _ ⟨fun k hk=>?_,fun _ _ h=>h⟩ (fun j g hj=>qcB hj) (by rw[List.length_append,hlen0,hgl];exact Nat.le_refl _);obtain⟨h12,h13,h14,h15⟩:=hk;refine⟨h12,?_,fun o' hm hb=>?_,fun hb=>?_⟩
     rotate_right
     ·rcases h13 with h13 | h13 | h13
      ·exact h13.nb hb
      ·exact Nat.not_le_of_lt (f1.o.bl k hb).1 h13
      ·obtain⟨o',ho',hb'⟩:=hMmem k h13;exact f1.o.bo o' k (hmut o' ho') hb' hb
     ·rcases h13 with h13 | h13 | h13
      ·exact h13.s
      ·exact f1.o.up k (.inl (Nat.le_trans f1.o.chg.size h13))
      ·exact f1.o.up k (hown k (List.mem_cons_of_mem _ h13))
     ·rcases qki hm with ⟨h16,h17⟩ | ⟨j,ob,rfl,h16⟩
      ·rw[hlen0] at h16;rw[qlp h16] at hb;obtain⟨h18,h19⟩:=hmu o' h17;by_cases e:o'=p
       ·subst e;rw[hgpb] at hb;exact h15 (by simpa using hb.symm)
       ·rcases h13 with h13 | h13 | h13
        ·exact h13.own o' h18 hb
        ·exact Nat.not_le_of_lt (f1.o.lt o' k h16 hb) h13
        ·exact hblk o' k h19 e (.inl h18) hb (List.mem_cons_of_mem _ h13)
      ·have hj:j<gs.length:=by rw[hgl];exact qw h16
       rw[hlen0,qcB (List.getElem?_eq_getElem hj)] at hb;refine h14 ?_;rw[hgM];exact List.mem_flatMap.2 ⟨_,List.getElem_mem hj,by simp[hb]⟩
    obtain⟨hor,K⟩:=qow (news:=q.2) (gs:=gs) (M:=M1++M2) f1.o K0 hlen0 hchg hgl hgM hnd' (fun o ob hob=>by
     rcases hget0 o ob hob with ⟨rfl,rfl⟩ | ⟨k3,k4,k5⟩ | ⟨k3,rfl⟩
     ·refine .inr (.inr fun K=>⟨b0,T',cs',hgp,hheap',?_⟩);have:=(hnew K).1.take c'.bx.size
      rwa [List.take_left' hl1] at this
     ·by_cases hd:ob = .dead
      ·exact .inr (.inl hd)
      ·by_cases hfx:∃l,ob = .fbx l
       ·obtain⟨l,rfl⟩:=hfx;refine .inl ⟨f1.o.rep o _ k5,fun b hb=>hch.block b (f1.o.lt o b (qw k5) hb) fun hm=>?_⟩;obtain⟨b2,_,_,e2,_,_,hi⟩:=f1.o.rep o _ k5;rw[e2] at hb
        obtain rfl:b2=b:=by simpa using hb
        rcases List.mem_cons.1 hm with e | e
        ·exact(hSok _ hi).2.1 e
        ·exact(hSok _ hi).2.2 e
       by_cases har:isAr ob=true
       ·refine .inl ⟨f1.o.rep o ob k5,fun b hb=>?_⟩;have:=f1.o.rep o ob k5
        cases ob<;>first | cases har | skip
        have h9:(γ o).2=none:=this;rw[h9] at hb;cases hb
       refine .inl ⟨f1.o.rep o ob k5,fun b hb=>hch.block b (f1.o.lt o b (qw k5) hb) (hblk o b k4 k3 ?_ hb)⟩
       cases ob with
       | ar=>exact absurd rfl har
       | dead=>exact absurd rfl hd
       | fbx l=>exact absurd ⟨l,rfl⟩ hfx
       | bld _ _=>exact .inl ⟨_,k5,rfl⟩
       | box l=>exact .inl ⟨_,k5,rfl⟩
       | mbr _ _ _=>exact .inl ⟨_,k5,rfl⟩
       | hr _ _ _ _ _ _=>exact .inl ⟨_,k5,rfl⟩
       | nilr=>exact .inl ⟨_,k5,rfl⟩
       | mp _ _ _=>exact .inl ⟨_,k5,rfl⟩
       | arr i e xs fz =>
        cases fz with
        | false=>exact .inl ⟨_,k5,rfl⟩
        | true=>exact .inr ⟨i,e,xs,k5⟩
     ·exact .inr (.inl rfl)) (fun o hm=>(hmu o hm).1) (fun o i e xs hob=>by
     rcases hget0 o _ hob with ⟨_,k2⟩ | ⟨_,_,k5⟩ | ⟨_,k2⟩
     ·cases k2
     ·exact k5
     ·cases k2) (fun k hk=>by
     obtain⟨h12,h13⟩:=hin k hk;refine⟨hM12lt k hk,?_,fun o hm hb=>?_,fun hi=>?_⟩
     ·rcases h12 with h12 | h12
      ·exact hown k (List.mem_cons_of_mem _ h12)
      ·exact .inl (Nat.le_trans f1.o.chg.size h12)
     ·obtain⟨h18,h19⟩:=hmu o hm;by_cases e:o=p
      ·subst e;rw[hgpb] at hb;exact h13 (by simpa using hb.symm)
      ·rcases h12 with h12 | h12
       ·exact hblk o k h19 e (.inl h18) hb (List.mem_cons_of_mem _ h12)
       ·exact Nat.not_le_of_lt (f1.o.lt o k h18.lt hb) h12
     ·rcases h12 with h12 | h12
      ·exact(hSok k hi).2.2 h12
      ·exact Nat.not_le_of_lt hi.lt h12) (fun K=>(hnew K).2) (fun b hb hB=>by
     rcases(hin b hb).1 with h12 | h12
     ·obtain⟨o',ho',hb'⟩:=hMmem b h12;exact f1.o.bo o' b (hmut o' ho') hb' hB
     ·exact Nat.not_le_of_lt (f1.o.bl b hB).1 h12) (fun k hk=>hch.block k (f1.o.bl k hk).1 fun hm=>by
     rcases List.mem_cons.1 hm with e | e
     ·exact f1.o.bo p k hpm (by rw[e];exact hgpb) hk
     ·obtain⟨o',ho',hb'⟩:=hMmem k e;exact f1.o.bo o' k (hmut o' ho') hb' hk) (fun o t p' ow xs lent hob=>by
     rcases hget0 o _ hob with ⟨_,k2⟩ | ⟨_,_,k5⟩ | ⟨_,k2⟩
     ·cases k2
     ·exact k5
     ·cases k2)
    have hK:Keep σ.objs γ w (objs0++q.2) _ _ σ.objs.length:=f1.keep.trans (by rw[←f1.len];exact K);have hsame:SameLen σ.objs (objs0++q.2):=fun o' ti e xs fz hob hlt'=>by
     rw[List.getElem?_append_left (by rw[hlen0,f1.len];exact hlt')] at hob;rcases hget0 o' _ hob with ⟨_,k2⟩ | ⟨_,_,k5⟩ | ⟨_,k2⟩
     ·cases k2
     ·exact f1.same o' ti e xs fz k5 hlt'
     ·cases k2
    have hq2:q.1.length=(cs'.toList++cells2).length:=((hnew K).1.length).symm;have hl2:cells2.length=c'.ρ.size:=Rep.length c'.ρ hrep2;have hd:=(hnew K).1.drop c'.bx.size;rw[List.drop_left' hl1] at hd
    have hdl:(q.1.drop c'.bx.size).length=c'.ρ.size:=by rw[←hd.length];exact hl2
    obtain⟨g1,g2⟩:=qch r hK hor hsame (fun o' ho' hp=>by
     rw[List.getElem?_append_left (by rw[hlen0,f1.len];exact ho')]
     have h20:o'≠p:=fun e=>by rw[e,hpr] at hp;cases hp
     have h21:o'∉idsO objs1 c'.bx cs:=fun hm=>by have:=(hall o' hm).1;rw[hp] at this;cases this
     rw[←ho0,List.getElem?_set,if_neg (fun e=>h20 e.symm)];rcases qmv (idsO objs1 c'.bx cs) objs1 o' with ⟨_,k2⟩ | ⟨k1,_⟩
     ·rw[k2];exact f1.prot o' hp
     ·exact absurd k1 h21) h10 (v:=v) (by
     rw[hv];unfold resIO resV
     cases hc1:c'.one with
     | true=>exact qdh hdl hd
     | false=>exact⟨_,rfl,by simpa using qkM (by rw[hdl,hc.wf hc1]) hd⟩)
    exact⟨σ',_,h11,g1,g2⟩
   | _=>simp at h9
  ·cases h7
 ·cases h
theorem ef_ro (hE:EnvOK P env) (r:Rel F σ γ a w) {f:Operand} {args:Array Operand} {ats:Array TypeId} {s:FuncId×Roc} (ho:o.op = .call ⟨.value f,args,ats⟩) (hs:rocOf P env σ f=some s) (h:roE σ o s.2 args.toList k=some res):EfR P F σ γ a w o k res Q:=absurd h (by simp[roE])
theorem ef_ck (hE:EnvOK P env) (r:Rel F σ γ a w) {f:Operand} {args:Array Operand} {ats:Array TypeId} {s:FuncId×TypeId} (ho:o.op = .call ⟨.value f,args,ats⟩) (hs:ckOf P env σ f=some s) (h:ckE σ o s.2 args.toList k=some res):EfR P F σ γ a w o k res Q:=by
 obtain⟨g,t⟩:=s;simp only[ckOf,Option.bind_eq_some_iff,chk_some,Option.some.injEq,Prod.mk.injEq] at hs;obtain⟨q,h1,⟨g',caps⟩,h2,h3,t',h4,hbo,e1,e2⟩:=hs;simp only at e1 hbo h4 h3;subst e1;subst e2
 have hcaps:caps=[]:=by simpa using h3
 subst hcaps;have hc:=hE.ck g' t' h4;obtain⟨_,l,hfv,hpl⟩:VR σ.objs γ w (.fn g' []) (a.eval f):=by
  have:=qf r (qj σ) h1;rw[qc7 h2] at this;exact this
 simp only[PtrL] at hpl;subst hpl;have hx:=qdV (ρ:=a.eval) ho hfv;rw[List.append_nil] at hx;simp only[ckE] at h;split at h
 ·rename_i x hal;simp only[Option.bind_eq_some_iff] at h;obtain⟨pv,h5,c,h6,h7⟩:=h;have hcv:=qdy h6;subst hcv;split at h7
  ·rename_i p off;simp only[Option.bind_eq_some_iff] at h7;obtain⟨ob,hob,h8⟩:=h7
   cases ob with
   | bld tb bc =>
    simp only[chk_some,Bool.and_eq_true,Bool.not_eq_true',Option.bind_eq_some_iff] at h8;obtain⟨⟨ho0,htt,hpr⟩,σ',h9,h10⟩:=h8;obtain rfl:=Nat.eq_of_beq_eq_true ho0;obtain rfl:=Nat.eq_of_beq_eq_true htt;obtain⟨hlt,b,hg,hv⟩:VR σ.objs γ w (.ptr p 0) (a.eval x):=qf r (qj σ) h5;obtain⟨b',pp,vv,hgg,hheap,hpp,hvc⟩:=r.o.rep p _ hob
    have hbb:b'=b:=by rw[hgg] at hg;simpa using hg
    subst hbb
    have hargs:(args.toList.map a.eval)=[.pointer (some ⟨b',0,none⟩)]:=by rw[hal];simp[hv]
    unfold EfR Oper.wp;rw[hx,qaP hbo,Oper.upon_enter,hargs];refine(hc w b' pp vv hheap hpp.1).mono fun e w' hh=>?_;obtain⟨rfl,hch,hheap'⟩:=hh;have hsame:σ.objs.set p (.bld tb bc)=σ.objs:=by
     apply List.ext_getElem?;intro j;rw[List.getElem?_set];by_cases hj:p=j
     ·subst hj;rw[if_pos rfl,if_pos hlt,hob]
     ·rw[if_neg hj]
    obtain⟨hor,K⟩:=qpp (ob := .bld tb bc) hch r.o ⟨_,hob,rfl⟩ hg rfl (fun K=>⟨b',_,vv,hgg,hheap',⟨.inr rfl,hpp.2⟩,VR.keep K hvc.below hvc⟩);rw[hsame] at hor K;obtain⟨g1,g2⟩:=qch r K hor (SameLen.refl _) (fun _ _ _=>rfl) h9 (v := .tuple #[]) ⟨#[],rfl,rfl⟩;exact⟨σ',_,h10,g1,g2⟩
   | _=>simp at h8
  ·cases h7
 ·cases h
theorem qkZ {objs:List OB} {p:Nat}:SameLen objs (objs.set p .dead):=fun o ti e xs fz hx hlt=>by
 rw[List.getElem?_set] at hx;split at hx
 ·split at hx
  ·cases hx
  ·cases hx
 ·exact⟨_,_,_,_,hx,rfl⟩
theorem kill_obj {objs:List OB} (r:ORel F objs γ w) (p:Nat):ORel F (objs.set p .dead) γ w∧Keep objs γ w (objs.set p .dead) γ w objs.length:=by
 have hget:∀o ob,(objs.set p .dead)[o]?=some ob→ob=OB.dead∨objs[o]?=some ob:=fun o ob h=>by
  rw[List.getElem?_set] at h;split at h
  ·split at h
   ·cases h;exact .inl rfl
   ·cases h
  ·exact .inr h
 have hmu:∀o,Mut (objs.set p .dead) o→Mut objs o:=by
  rintro o ⟨ob,h1,h2⟩
  rcases hget o ob h1 with rfl | h3
  ·cases h2
  ·exact⟨ob,h3,h2⟩
 have K:Keep objs γ w (objs.set p .dead) γ w objs.length:=⟨⟨fun k hk=>⟨hk.lt,hk.s,fun o hm=>hk.own o (hmu o hm),hk.nb⟩,fun _ _ h=>h⟩,fun _ _=>rfl,by simp,fun _ _=>rfl,Nat.le_refl _,rfl,fun _ _ _ _ h=>h⟩;refine⟨⟨fun o ob h=>?_,fun o1 o2 b h1 h2=>r.inj o1 o2 b (hmu o1 h1) (hmu o2 h2),fun o b h=>r.own o b (hmu o h),fun o b h1 h2=>r.lt o b (by simpa using h1) h2,r.chg,fun o i e xs b h1 h2=>?_,r.up,r.tab.mono K.imm K.heap,r.bl,fun o b hm=>r.bo o b (hmu o hm),fun o t q ow xs lent ho=>(r.ar o t q ow xs lent (SameAr.set objs p rfl o t q ow xs lent ho)).keep K rfl rfl (fun _=>rfl) (fun _ _=>rfl)⟩,K⟩
 ·rcases hget o ob h with rfl | h3
  ·trivial
  ·exact ObR.keep K (fun _ _=>rfl) (r.rep o ob h3)
 ·rcases hget o _ h1 with h3 | h3
  ·cases h3
  ·exact K.imm _ (r.frz o i e xs b h3 h2)
theorem ef_bst (hE:EnvOK P env) (r:Rel F σ γ a w) {f:Operand} {args:Array Operand} {ats:Array TypeId} {s:FuncId×TypeId×TypeId} (ho:o.op = .call ⟨.value f,args,ats⟩) (hs:bsOf P env σ f=some s) (h:bstE σ o s.2.1 s.2.2 args.toList k=some res):EfR P F σ γ a w o k res Q:=by
 obtain⟨g,t,i⟩:=s;simp only[bsOf,Option.bind_eq_some_iff,chk_some,Option.some.injEq,Prod.mk.injEq] at hs;obtain⟨q,h1,⟨g',caps⟩,h2,h3,⟨t',i'⟩,h4,hbo,e1,e2⟩:=hs;simp only[Prod.mk.injEq] at e1 hbo h4 h3 e2;obtain⟨e2,e3⟩:=e2;subst e1;subst e2;subst e3
 have hcaps:caps=[]:=by simpa using h3
 subst hcaps;have hc:=hE.bs g' t' i' h4;obtain⟨_,l,hfv,hpl⟩:VR σ.objs γ w (.fn g' []) (a.eval f):=by
  have:=qf r (qj σ) h1;rw[qc7 h2] at this;exact this
 simp only[PtrL] at hpl;subst hpl;have hx:=qdV (ρ:=a.eval) ho hfv;rw[List.append_nil] at hx;simp only[bstE] at h;split at h
 ·rename_i x hal;simp only[Option.bind_eq_some_iff] at h;obtain⟨pv,h5,c,h6,h7⟩:=h;have hcv:=qdy h6;subst hcv;split at h7
  ·rename_i p off;simp only[Option.bind_eq_some_iff] at h7;obtain⟨ob,hob,h8⟩:=h7
   cases ob with
   | bld tb bc =>
    simp only[chk_some,Bool.and_eq_true] at h8;obtain⟨⟨ho0,htt⟩,h8⟩:=h8;obtain rfl:=Nat.eq_of_beq_eq_true ho0;obtain rfl:=Nat.eq_of_beq_eq_true htt;obtain⟨hlt,b,hg,hv⟩:VR σ.objs γ w (.ptr p 0) (a.eval x):=qf r (qj σ) h5;obtain⟨b',pp,vv,hgg,hheap,hpp,hvc⟩:=r.o.rep p _ hob
    have hbb:b'=b:=by rw[hgg] at hg;simpa using hg
    subst hbb
    have hargs:(args.toList.map a.eval)=[.pointer (some ⟨b',0,none⟩)]:=by rw[hal];simp[hv]
    unfold EfR Oper.wp;rw[hx,qaP hbo,Oper.upon_enter,hargs];split at h8
    ·obtain⟨σ',h9,h10⟩:=Option.bind_eq_some_iff.1 h8;have hv0:vv = .slice none 0 0:=hvc;refine(hc w b' pp vv [] [] hheap hpp.2 (.inl ⟨rfl,⟨none,hv0⟩,rfl,rfl⟩) (by simp)).mono fun e w' hh=>?_;obtain⟨rfl,hch⟩:=hh;obtain⟨g1,g2⟩:=qch r (Keep.ext hch) (r.o.ext hch) (SameLen.refl _) (fun _ _ _=>rfl) h9 (v := .string (strOf [])) rfl;exact⟨σ',_,h10,g1,g2⟩
    ·rename_i ro;obtain⟨ob2,hob2,h8⟩:=Option.bind_eq_some_iff.1 h8;split at h8
     ·rename_i i2 xs;simp only[chk_some,Bool.and_eq_true,Bool.not_eq_true',Option.bind_eq_some_iff] at h8;obtain⟨⟨hpr,hi2⟩,σ',h9,h10⟩:=h8;obtain rfl:=Nat.eq_of_beq_eq_true hi2;obtain⟨hrl,hrv,_⟩:=hvc;obtain⟨us,hown,hrep⟩:=r.o.rep ro _ hob2;have hus:=u8_rep hrep;subst hus;rw[←hrv] at hown;have hnb:b'∉(γ ro).2.toList:=fun hm=>by
       have hm:(γ ro).2=some b':=by simpa using hm
       have:=r.o.inj p ro b' ⟨_,hob,rfl⟩ ⟨_,hob2,rfl⟩ hg hm;subst this;rw[hob] at hob2;cases hob2
      refine(hc w b' pp vv _ xs hheap hpp.2 hown hnb).mono fun e w' hh=>?_;obtain⟨rfl,hch⟩:=hh
      cases hM:(γ ro).2 with
      | none =>
       rw[hM] at hch;obtain⟨hor,K⟩:=kill_obj r.o ro;have K2:=K.trans ((Keep.ext (objs:=σ.objs.set ro .dead) (γ:=γ) hch).less (by simp));obtain⟨g1,g2⟩:=qch r K2 (hor.ext hch) qkZ (fun o' _ hp'=>qs (fun e=>by subst e;rw[hpr] at hp';cases hp')) h9 (v := .string (strOf xs)) rfl;exact⟨σ',_,h10,g1,g2⟩
      | some rb =>
       rw[hM] at hch;obtain⟨hor,K⟩:=qpL (ob := .dead) hch r.o ⟨_,hob2,rfl⟩ hM (fun _ _ _ h=>by cases h) (fun _=>trivial);obtain⟨g1,g2⟩:=qch r K hor qkZ (fun o' _ hp'=>qs (fun e=>by subst e;rw[hpr] at hp';cases hp')) h9 (v := .string (strOf xs)) rfl;exact⟨σ',_,h10,g1,g2⟩
     ·cases h8
    ·cases h8
   | _=>simp at h8
  ·cases h7
 ·cases h
theorem ef_ins (hE:EnvOK P env) (r:Rel F σ γ a w) {f:Operand} {args:Array Operand} {ats:Array TypeId} {s:FuncId×Ins} (ho:o.op = .call ⟨.value f,args,ats⟩) (hs:insOf P env σ f=some s) (h:insE σ o s.2 args.toList k=some res):EfR P F σ γ a w o k res Q:=absurd h (by simp[insE])
theorem fra_spec (r:Rel F σ γ a w) {objs':List OB} (h:fraO σ.objs σ.prO=some objs'):∃γ',Rel F { σ with objs:=objs' } γ' a w∧Step σ γ w { σ with objs:=objs' } γ' w:=by
 cases h
theorem ef_del (hE:EnvOK P env) (r:Rel F σ γ a w) {f:Operand} {args:Array Operand} {ats:Array TypeId} {s:FuncId×Del} (ho:o.op = .call ⟨.value f,args,ats⟩) (hs:delOf P env σ f=some s) (h:delE σ o s.2 args.toList k=some res):EfR P F σ γ a w o k res Q:=absurd h (by simp[delE])
theorem rep_lt {w:World}:∀(τ:Ty) {x:D τ} {M:List Nat} {cs:List Value} {S:Sp},Rep w S τ x M cs→∀b∈M,b<w.heap.size:=by
 intro τ
 induction τ with
 | osl i e _=>intro x M cs S h;obtain⟨v,us,_,h2,_⟩:=h;exact h2.lt
 | onl i e _=>intro x M cs S h b hb;exact onl_lt h b hb
 | hrl i p q j bh _ _=>intro x M cs S h b hb;exact hrl_lt h b hb
 | obx e ih =>
  intro x M cs S h b hb;obtain⟨b',M',T,cells,rfl,_,h3,h4⟩:=h;rcases List.mem_cons.1 hb with rfl | hb
  ·exact qhP h3
  ·exact ih h4 b hb
 | bld tb ib =>
  intro x M cs S h b hb;obtain⟨b',M',p',v',us,rfl,_,h3,_,h5,_⟩:=h;rcases List.mem_cons.1 hb with rfl | hb
  ·exact qhP h3
  ·exact h5.lt b hb
 | st f r ihf ihr =>
  intro x M cs S h b hb;obtain⟨c1,c2,M1,M2,_,rfl,h3,h4⟩:=h;rcases List.mem_append.1 hb with hb | hb
  ·exact ihf h3 b hb
  ·exact ihr h4 b hb
 | omp k v _ _ =>
  intro x M cs S h b hb;obtain⟨b',rfl,_,_,es,clk,h3,_⟩:=h
  obtain rfl:b=b':=by simpa using hb
  exact qhP h3
 | _=>intro x M cs S h b hb;rw[h.1] at hb;cases hb
theorem ef_go (hE:EnvOK P env) (r:Rel F σ γ a w) {f:Operand} {args:Array Operand} {ats:Array TypeId} {s:FuncId×Goc} {us:List PV} (ho:o.op = .call ⟨.value f,args,ats⟩) (hs:gocOf P env σ f=some s) (hu:goArgs σ f args.toList=some us) (h:goE σ o s.2 us k=some res):EfR P F σ γ a w o k res Q:=absurd h (by simp[goE])
theorem ef_newM (r:Rel F σ γ a w) {t:TypeId} (ho:o.op = .makeMap t none) (h:newM P σ o t k=some res):EfA P F σ γ a w o k res Q:=absurd h (by simp[newM])
theorem ef_lenM (r:Rel F σ γ a w) {x:Operand} {t:TypeId} {args:Array Operand} {ats:Array TypeId} (ho:o.op = .call ⟨.builtin .len,args,ats⟩) (ha:args.toList=[x]) (hat:ats.toList=[t]) (h:lenM P σ o x t k=some res):EfA P F σ γ a w o k res Q:=absurd h (by simp[lenM])
theorem ef_putM (r:Rel F σ γ a w) {t:TypeId} {m i x:Operand} (ho:o.op = .mapUpdate t m i x) (h:putM P σ o t m i x k=some res):EfR P F σ γ a w o k res Q:=absurd h (by simp[putM])
theorem ef_inv (hE:EnvOK P env) (r:Rel F σ γ a w) {rc:Operand} {nm:String} {args:Array Operand} {ats:Array TypeId} (ho:o.op = .call ⟨.invoke rc nm,args,ats⟩) (h:invE P env σ o rc nm args k=some res):EfA P F σ γ a w o k res Q:=absurd h (by simp[invE])
theorem ef_defer (r:Rel F σ γ a w) {f:Operand} {args:Array Operand} {ats:Array TypeId} (ho:o.op = .defer ⟨.value f,args,ats⟩) (h:deferE σ o f args k=some res):EfR P F σ γ a w o k res Q:=absurd h (by simp[deferE])
theorem qms (hE:EnvOK P env) (r:Rel F σ γ a w) {own vw:Bool} (h:stepE P env own vw σ o k=some res):EfR P F σ γ a w o k res Q:=by
 unfold stepE at h;split at h
 ·exact(quF r ‹_› h).toR
 ·exact(quN r ‹_› h).toR
 ·exact ef_store r ‹_› h
 ·exact(ef_newM r ‹_› h).toR
 ·exact ef_putM r ‹_› h
 ·exact ef_defer r ‹_› h
 ·split at h
  ·rename_i ho _ _ _ _ ha hat;exact(ef_lenM r ho ha hat h).toR
  ·cases h
 ·exact(ef_inv hE r ‹_› h).toR
 ·rename_i ho;rcases qfx h with ⟨_,h2⟩ | ⟨_,h2⟩
  ·exact(qrb r ho h2).toR
  ·exact(qt7 r ho h2).toR
 ·exact(ef_make r ‹_› h).toR
 ·rename_i ho;rcases qfx h with ⟨_,h2⟩ | ⟨_,h2⟩
  ·exact ef_bytes r ho h2
  ·exact ef_mark r ho h2
 ·split at h
  ·rename_i ho _ _ _ _ _ _ ha hat;rcases qfx h with ⟨h1,h2⟩ | ⟨h1,h2⟩
   ·have h1:=Nat.eq_of_beq_eq_true h1;subst h1;exact ef_append r ho ha hat h2
   ·rcases qfx h2 with ⟨h3,h4⟩ | ⟨h3,h4⟩
    ·exact qvG r ho ha hat h3 h4
    ·exact qvs r ho ha hat h4
  ·cases h
 ·split at h
  ·rename_i ho _ _ _ _ ha hat;exact ef_clear r ho ha hat h
  ·cases h
 ·split at h
  ·rename_i ho _ _ _ _ _ _ ha hat;exact ef_copy r ho ha hat h
  ·cases h
 ·exact(quD r ‹_› h).toR
 ·exact(qsx r ‹_› h).toR
 ·split at h
  ·rename_i ho _ _ hs;exact ef_sort hE r ho hs h
  ·rename_i ho _ _;split at h
   ·rename_i hs;exact ef_io hE r ho hs h
   ·split at h
    ·rename_i hs;exact ef_ro hE r ho hs h
    ·split at h
     ·rename_i hs;exact ef_ck hE r ho hs h
     ·split at h
      ·rename_i hs;exact ef_bst hE r ho hs h
      ·split at h
       ·rename_i hs;exact ef_ins hE r ho hs h
       ·split at h
        ·rename_i hs;obtain⟨us,hu,h2⟩:=Option.bind_eq_some_iff.1 h;exact ef_go hE r ho hs hu h2
        ·split at h
         ·rename_i hs;exact ef_del hE r ho hs h
         ·exact(ef_call hE r ho h).toR
 ·cases h
theorem qsZ (hE:EnvOK P env) (r:Rel F σ γ a w) {own vw:Bool} (ha:(qd1 o||conOp env σ o)=true) (h:stepE P env own vw σ o k=some res):EfA P F σ γ a w o k res Q:=by
 by_cases hco:conOp env σ o=true
 ·unfold conOp at hco;split at hco
  ·rename_i f args ats ho;split at hco
   ·rename_i g hg;obtain⟨q,hq1,hq2⟩:=Option.bind_eq_some_iff.1 hg;obtain⟨e,he⟩:=Option.isSome_iff_exists.1 hco;have key:∀ {β:Type} {x:Option β} (y:Ent→Option β),(∀c,y (.con c)=none)→(∀c,y (.rd c)=none)→((env.find g).bind y)=none:=fun y y1 y2=>by
     unfold Env.cb at he;obtain⟨en,h1,h2⟩:=Option.bind_eq_some_iff.1 he;rw[h1]
     cases en with
     | con c=>exact y1 c
     | rd c=>exact y2 c
     | _=>cases h2
    have n1:srtOf P env σ f=none:=by
     have:env.srt g=none:=key (x:=none) _ (fun _=>rfl) (fun _=>rfl);simp[srtOf,hq1,hq2,this,chk]
    have n2:iocOf P env σ f=none:=by
     have:env.io g=none:=key (x:=none) _ (fun _=>rfl) (fun _=>rfl);simp[iocOf,hq1,hq2,this,chk]
    have n3:rocOf P env σ f=none:=by
     have:env.ro g=none:=key (x:=none) _ (fun _=>rfl) (fun _=>rfl);simp[rocOf,hq1,hq2,this,chk]
    have n4:ckOf P env σ f=none:=by
     have:env.ck g=none:=key (x:=none) _ (fun _=>rfl) (fun _=>rfl);simp[ckOf,hq1,hq2,this,chk]
    have n5:bsOf P env σ f=none:=by
     have:env.bs g=none:=key (x:=none) _ (fun _=>rfl) (fun _=>rfl);simp[bsOf,hq1,hq2,this,chk]
    have n6:insOf P env σ f=none:=by
     have:env.ins g=none:=key (x:=none) _ (fun _=>rfl) (fun _=>rfl);simp[insOf,hq1,hq2,this,chk]
    have n7:gocOf P env σ f=none:=by
     have:env.go g=none:=key (x:=none) _ (fun _=>rfl) (fun _=>rfl);simp[gocOf,hq1,hq2,this,chk]
    have n8:delOf P env σ f=none:=by
     have:env.del g=none:=key (x:=none) _ (fun _=>rfl) (fun _=>rfl);simp[delOf,hq1,hq2,this,chk]
    unfold stepE at h;rw[ho] at h;simp only[n1,n2,n3,n4,n5,n6,n7,n8] at h;exact ef_call hE r ho h
   ·cases hco
  ·cases hco
 have ha:qd1 o=true:=by simpa[Bool.eq_false_iff.2 hco] using ha
 unfold stepE at h;split at h
 ·exact quF r ‹_› h
 ·exact quN r ‹_› h
 ·rename_i ho;simp[qd1,ho] at ha
 ·rename_i ho;simp[qd1,ho] at ha
 ·rename_i ho;simp[qd1,ho] at ha
 ·rename_i ho;simp[qd1,ho] at ha
 ·rename_i ho;simp[qd1,ho] at ha
 ·rename_i ho;simp[qd1,ho] at ha
 ·rename_i ho;rcases qfx h with ⟨_,h⟩ | ⟨_,h⟩
  ·exact qrb r ho h
  ·exact qt7 r ho h
 ·exact ef_make r ‹_› h
 all_goals first | exact quD r ‹_› h | exact qsx r ‹_› h | cases h | (rename_i ho;simp[qd1,ho] at ha;done) | skip
 all_goals (rename_i ho;simp[qd1,ho] at ha)
end
end Go.Den
