/- Several texts in one: Den7, Den8. -/
import Derived.Test.YtkkoolcdonhoaaaGreatDoorMAB
namespace Go.Den
open Go.Eng
set_option linter.unusedVariables false
set_option linter.unusedSectionVars false
set_option linter.unusedSimpArgs false
variable [CT : Ctx]

theorem qnp {A:Type} (cu vs:List A) (m j z off:Nat) (hn:j+z≤m) (hcl:m≤cu.length) (hfit:off+vs.length≤z) :
   (cu.take (j+off)++vs++cu.drop (j+off+vs.length)).take m=(cu.take m).take j++((((cu.take m).drop j).take z).take off++vs++(((cu.take m).drop j).take z).drop (off+vs.length))++(cu.take m).drop (j+z):=by
  apply List.ext_getElem?;intro q;simp only[List.getElem?_take,List.getElem?_append,List.getElem?_drop,List.length_append,List.length_take,List.length_drop]
  grind

section
variable {P : Program} {env : Env} {F : Fr} {σ : AState} {γ : Gh} {a : Act} {w : World} {o : Oper} {α : Type} {k : AState → Option α} {res : α} {Q : Exit → Act → World → Prop}

def EfR (P:Program) (F:Fr) (σ:AState) (γ:Gh) (a:Act) (w:World) (o:Oper) (k:AState→Option α) (res:α) (Q:Exit→Act→World→Prop):Prop :=
  o.wp P a w (fun a' w'=>∃σ' γ',k σ'=some res∧Rel F σ' γ' a' w'∧Step σ γ w σ' γ' w') Q
theorem EfR.val {v:Value} {w':World} {σ':AState} {γ':Gh} (h:(execOp a.eval o).run P w = .ok (.value v) w') (hk:k σ'=some res) (hr:Rel F σ' γ' (a.put o.dst v) w') (hs:Step σ γ w σ' γ' w'):EfR P F σ γ a w o k res Q:=by
  unfold EfR Oper.wp;rw[h];exact⟨σ',γ',hk,hr,hs⟩
theorem qj (σ:AState):tagT σ []:=fun x hx=>by cases hx
def EfA (P:Program) (F:Fr) (σ:AState) (γ:Gh) (a:Act) (w:World) (o:Oper) (k:AState→Option α) (res:α) (Q:Exit→Act→World→Prop):Prop :=
  o.wp P a w (fun a' w'=>Chg [] w w'∧∃σ' γ',k σ'=some res∧Rel F σ' γ' a' w'∧Step σ γ w σ' γ' w') Q
theorem EfA.val {v:Value} {w':World} {σ':AState} {γ':Gh} (h:(execOp a.eval o).run P w = .ok (.value v) w') (hc:Chg [] w w') (hk:k σ'=some res) (hr:Rel F σ' γ' (a.put o.dst v) w') (hs:Step σ γ w σ' γ' w'):EfA P F σ γ a w o k res Q:=by
  unfold EfA Oper.wp;rw[h];exact⟨hc,σ',γ',hk,hr,hs⟩
theorem EfA.toR (h:EfA P F σ γ a w o k res Q):EfR P F σ γ a w o k res Q:=Oper.wp_mono (fun _ _ h=>h.2) h

theorem qbm (r:Rel F σ γ a w) {objs':List OB} {γ':Gh} {w':World} {pv:PV} {v:Value} {σ':AState} (K:Keep σ.objs γ w objs' γ' w' σ.objs.length) (ho:ORel F objs' γ' w') (hs:SameLen σ.objs objs')
    (hp:∀o,o<σ.objs.length→bitB σ.prO o=true→objs'[o]?=σ.objs[o]?) (hput:AState.putO { σ with objs:=objs' } o.dst [] pv=some σ') (hv:PR objs' γ' w' pv v) :
    Rel F σ' γ' (a.put o.dst v) w'∧Step σ γ w σ' γ' w':=by
  have r1:Rel F { σ with objs:=objs' } γ' a w':=r.setObjs K hs ho;refine⟨r1.putO hput (fun x hx=>by cases hx) (fun _=>hv) (fun hn=>absurd (qj _) hn),?_⟩;have s1:Step σ γ w { σ with objs:=objs' } γ' w':=⟨rfl,rfl,rfl,fun _ _ _ h=>h,hp,K⟩;exact s1.trans (Step.putO hput)
theorem qqB (r:Rel F σ γ a w) {objs':List OB} {γ':Gh} {w':World} {pv:PV} {v:Value} {σ':AState} (K:Keep σ.objs γ w objs' γ' w' σ.objs.length) (ho:ORel F objs' γ' w')
    (hp:∀o,o<σ.objs.length→bitB σ.prO o=true→objs'[o]?=σ.objs[o]?) (hput:AState.putO { σ with objs:=objs' } o.dst [] pv=some σ') (hv:PR objs' γ' w' pv v) :
    Rel F σ' γ' (a.put o.dst v) w'∧Step σ γ w σ' γ' w':=by
  have r1:Rel F { σ with objs:=objs' } γ' a w':=r.setObjsN K ho;refine⟨r1.putO hput (fun x hx=>by cases hx) (fun _=>hv) (fun hn=>absurd (qj _) hn),?_⟩;have s1:Step σ γ w { σ with objs:=objs' } γ' w':=⟨rfl,rfl,rfl,fun _ _ _ h=>h,hp,K⟩;exact s1.trans (Step.putO hput)
theorem qdf {objs:List OB} {w':World} {news:List OB} {gs:List (Value×Option Nat)} {M:List Nat} (r:ORel F objs γ w) (hc:Chg [] w w') (hgs:gs.length=news.length) (hM:M=gs.flatMap fun g=>g.2.toList) (hnd:M.Nodup)
    (hfresh:∀b∈M,w.heap.size≤b∧b<w'.heap.size)
    (hnew:Keep objs γ w (objs++news) (upd γ objs.length gs) w' objs.length→∀(j:Nat) ob g,news[j]?=some ob→gs[j]?=some g→ObR (objs++news) (upd γ objs.length gs) w' ob g∧mutOb ob=true) :
    ORel F (objs++news) (upd γ objs.length gs) w'∧Keep objs γ w (objs++news) (upd γ objs.length gs) w' objs.length :=
  qpr r (Keep.ext hc) rfl (Chg.trans' r.chg hc) hgs hM hnd (fun o ob ho => .inl ⟨r.rep o ob ho,fun b hb=>hc.block b (r.lt o b (qz ho) hb) (by simp)⟩) (fun _ h=>h) (fun _ _ _ _ h=>h)
    (fun b hb=>⟨(hfresh b hb).2,.inl (Nat.le_trans r.chg.size (hfresh b hb).1),fun o hm hb'=>Nat.not_le_of_lt (r.lt o b hm.lt hb') (hfresh b hb).1,fun hi=>Nat.not_le_of_lt hi.lt (hfresh b hb).1⟩) hnew
    (fun b hb hB=>Nat.not_le_of_lt (r.bl b hB).1 (hfresh b hb).1) (fun k hk=>hc.block k (r.bl k hk).1 (by simp)) (SameAr.refl _)
theorem qaW {objs news:List OB}:SameLen objs (objs++news):=fun o ti e xs fz hx hlt=>by
  rw[List.getElem?_append_left hlt] at hx;exact⟨_,_,_,_,hx,rfl⟩
theorem qcT {A:Type} {x y:A} {j:Nat} (h:[x][j]?=some y):j=0∧y=x:=by
  cases j with
  | zero=>simp at h;exact⟨rfl,h.symm⟩
  | succ j=>simp at h
theorem ef_bld (r:Rel F σ γ a w) {t:TypeId} {σ':AState} (hrun:(execOp a.eval o).run P w = .ok (.value (.pointer (some ⟨w.heap.size,0,none⟩))) (w.alloc (.cells #[.pointer none,.slice none 0 0] t)))
    (hput:σ.new o.dst (.bld t (.v (.slice none 0 0))) (.c (.ptr σ.objs.length 0))=some σ') (hk:k σ'=some res):EfA P F σ γ a w o k res Q:=by
  have hc:=qb4 w (.cells #[.pointer none,.slice none 0 0] t)
  obtain⟨ho,K⟩:=qdf (news:=[.bld t (.v (.slice none 0 0))]) (gs:=[(.pointer (some ⟨w.heap.size,0,none⟩),some w.heap.size)]) (M:=[w.heap.size]) r.o hc rfl (by simp) (by simp) (fun b hb=>by
      simp at hb;subst hb;exact⟨Nat.le_refl _,by rw[qbu];omega⟩) (fun K j ob g hj hg=>by
      obtain⟨rfl,rfl⟩:=qcT hj;obtain⟨_,rfl⟩:=qcT hg
      exact⟨⟨_,.pointer none,.slice none 0 0,rfl,by have:=qhb w #[.pointer none,.slice none 0 0] t;unfold Blk at this;simpa using this,⟨.inl rfl,.inl rfl⟩,rfl⟩,rfl⟩)
  obtain⟨h1,h2⟩:=qbm r K ho qaW (fun o ho _=>by rw[List.getElem?_append_left ho]) hput (v := .pointer (some ⟨w.heap.size,0,none⟩))
    ⟨by simp,w.heap.size,by have:=qbt (γ:=γ) (n:=σ.objs.length) (j:=0) (gs:=[(.pointer (some ⟨w.heap.size,0,none⟩),some w.heap.size)]) rfl;rw[Nat.add_zero] at this;rw[this],rfl⟩
  exact EfA.val hrun hc hk h1 h2
theorem ef_box (r:Rel F σ γ a w) {l:List Cv} {v:Value} {t:TypeId} {σ':AState} (hl:VRL σ.objs γ w l v.cells.toList) (hrun:(execOp a.eval o).run P w = .ok (.value (.pointer (some ⟨w.heap.size,0,none⟩))) (w.alloc (.cells v.cells t)))
    (hput:σ.new o.dst (.box l) (.c (.ptr σ.objs.length 0))=some σ') (hk:k σ'=some res):EfA P F σ γ a w o k res Q:=by
  have hc:=qb4 w (.cells v.cells t)
  obtain⟨ho,K⟩:=qdf (news:=[.box l]) (gs:=[(.pointer (some ⟨w.heap.size,0,none⟩),some w.heap.size)]) (M:=[w.heap.size]) r.o hc rfl (by simp) (by simp) (fun b hb=>by
      simp at hb;subst hb;exact⟨Nat.le_refl _,by rw[qbu];omega⟩) (fun K j ob g hj hg=>by
      obtain⟨rfl,rfl⟩:=qcT hj;obtain⟨_,rfl⟩:=qcT hg
      exact⟨⟨_,t,v.cells,rfl,by have:=qhb w v.cells t;unfold Blk at this;simpa using this,VRL.keep K hl.below hl⟩,rfl⟩)
  obtain⟨h1,h2⟩:=qbm r K ho qaW (fun o ho _=>by rw[List.getElem?_append_left ho]) hput (v := .pointer (some ⟨w.heap.size,0,none⟩))
    ⟨by simp,w.heap.size,by have:=qbt (γ:=γ) (n:=σ.objs.length) (j:=0) (gs:=[(.pointer (some ⟨w.heap.size,0,none⟩),some w.heap.size)]) rfl;rw[Nat.add_zero] at this;rw[this],rfl⟩
  exact EfA.val hrun hc hk h1 h2
theorem qdx:∀ {ls:List (Nat×List Nat)} {i j:Nat} {q q':Nat×List Nat} {k:Nat},(flatB ls).Nodup→ls[i]?=some q→ls[j]?=some q'→k∈q.1::q.2→k∈q'.1::q'.2→i=j
  | [],i,j,q,q',k,_,h,_,_,_=>by simp at h
  | x::r,i,j,q,q',k,hn,h1,h2,h3,h4=>by
    have hn':((x.1::x.2)++flatB r).Nodup:=hn;obtain⟨_,n2,n3⟩:=List.nodup_append.1 hn'
    cases i with
    | zero =>
      cases j with
      | zero=>rfl
      | succ j =>
        simp only[List.getElem?_cons_zero,Option.some.injEq] at h1;subst h1;exact absurd rfl (n3 k h3 k (qaR (by simpa using h2) k h4))
    | succ i =>
      cases j with
      | zero =>
        simp only[List.getElem?_cons_zero,Option.some.injEq] at h2;subst h2;exact absurd rfl (n3 k h4 k (qaR (by simpa using h1) k h3))
      | succ j=>exact congrArg _ (qdx (ls:=r) n2 (by simpa using h1) (by simpa using h2) h3 h4)
theorem qhu {ls:List (Nat×List Nat)} {i:Nat} {q:Nat×List Nat} (hn:(flatB ls).Nodup) (h:ls[i]?=some q):(q.1::q.2).Nodup:=by
  induction ls generalizing i with
  | nil=>simp at h
  | cons x r ih =>
    have hn':((x.1::x.2)++flatB r).Nodup:=hn;obtain⟨n1,n2,_⟩:=List.nodup_append.1 hn'
    cases i with
    | zero=>simp only[List.getElem?_cons_zero,Option.some.injEq] at h;subst h;exact n1
    | succ i=>exact ih n2 (by simpa using h)
theorem qo {A:Type} {l:List A} {i j:Nat} {x y:A} (h:(l.set i x)[j]?=some y):(j=i∧i<l.length∧y=x)∨(j≠i∧l[j]?=some y):=by
  rw[List.getElem?_set] at h;by_cases e:i=j
  · subst e;rw[if_pos rfl] at h;by_cases hl:i<l.length
    · rw[if_pos hl] at h;cases h;exact .inl ⟨rfl,hl,rfl⟩
    · rw[if_neg hl] at h;cases h
  · rw[if_neg e] at h;exact .inr ⟨fun e'=>e e'.symm,h⟩
theorem qd8 {objs:List OB} {p:Nat} {t:TypeId} {q:Ty} {ow:Option TypeId} {xs:Ents q} {lent:Option Nat} {o:Nat} (h:Mut (objs.set p (.ar t q ow xs lent)) o):Mut objs o∧o≠p:=by
  obtain⟨ob,h1,h2⟩:=h;rw[List.getElem?_set] at h1;split at h1
  · split at h1
    · cases h1;cases h2
    · cases h1
  · rename_i e;exact⟨⟨ob,h1,h2⟩,fun e'=>e e'.symm⟩
theorem ef_node (r:Rel F σ γ a w) {t:TypeId} {l:List Cv} {v:Value} (hl:VRL σ.objs γ w l v.cells.toList) (hrun:(execOp a.eval o).run P w = .ok (.value (.pointer (some ⟨w.heap.size,0,none⟩))) (w.alloc (.cells v.cells t)))
    (h:nodeE σ o t l k=some res):EfA P F σ γ a w o k res Q:=by
  simp only[nodeE,Option.bind_eq_some_iff] at h;obtain⟨p,hp,ob,hob,h⟩:=h
  cases ob with
  | ar t' q ow xs lent =>
    simp only[chk_some,Bool.and_eq_true,Bool.not_eq_true',Option.bind_eq_some_iff] at h;obtain⟨⟨ht,hpr,hpure,hlen⟩,d,hd,objs',hfz,ob',hob',h⟩:=h;obtain rfl:=Nat.eq_of_beq_eq_true ht;obtain⟨f,hids⟩:=qaB r.o hfz
    cases ob' with
    | ar t1 q1 ow1 xs1 lent1 =>
      have hsame:=f.ar p _ _ _ _ _ hob';rw[hob] at hsame;cases hsame;obtain⟨σ',hput,hk⟩:=Option.bind_eq_some_iff.1 h;obtain⟨ls,hs,hA,hB,hkc,hj⟩:=f.o.ar p _ _ _ _ _ hob';have hc:=qb4 w (.cells v.cells t)
      have hblk:(w.alloc (.cells v.cells t)).heap[w.heap.size]?=some (.cells v.cells t (0,0)):=by have:=qhb w v.cells t;unfold Blk at this;simpa using this
      have hsz:(w.alloc (.cells v.cells t)).heap.size=w.heap.size+1:=qbu ..;generalize hw':w.alloc (.cells v.cells t)=w' at hc hblk hsz hrun;have hAm:∀i,γ.m (i+1)=(ls[i]?).map Prod.fst:=hA.m
      have hmn:γ.m (xs.length+1)=none:=by rw[hAm,List.getElem?_eq_none (by rw[hA.len];exact Nat.le_refl _)];rfl
      let m':Nat→Option Nat:=fun x=>if x=xs.length+1 then some w.heap.size else γ.m x
      let h0:Option Value:=if ow.isSome then some (.slice none 0 0) else none
      let kc':Nat→Nat→Option Value:=fun o x=>if o=p∧x=xs.length+1 then h0 else γ.kc o x
      have hmext:∀x b,γ.m x=some b→m' x=some b:=fun x b hx=>by
        show(if x=xs.length+1 then _ else _)=_;rw[if_neg (fun e=>by rw[e,hmn] at hx;cases hx)];exact hx
      have K0:Keep objs' γ w (objs'.set p (.ar t q ow (xs++[(d,none)]) lent)) (γ.arn m' (w.heap.size::γ.B) kc') w' objs'.length :=
        ⟨⟨fun k hk=>⟨Nat.lt_of_lt_of_le hk.lt hc.size,hk.s,fun o' hm=>hk.own o' (qd8 hm).1,fun hm=>by
            rcases List.mem_cons.1 hm with e | e
            · have:=hk.lt;omega
            · exact hk.nb e⟩,hmext⟩,fun k hk=>hc.block k hk.lt (by simp),by simp,fun _ _=>rfl,hc.size,rfl,fun o' _ x u hu=>by
            show(if o'=p∧x=xs.length+1 then _ else _)=_;rw[if_neg]
            · exact hu
            · rintro ⟨rfl,rfl⟩
              rw[hj _ (Nat.lt_succ_self _)] at hu;cases hu⟩
      have hplt:p<objs'.length:=qz hob'
      obtain⟨ho,K⟩:=qcF (news:=[]) (gs:=[]) (M:=[]) f.o K0 (by simp) (Chg.trans' f.o.chg hc) rfl rfl List.nodup_nil (fun o' ob ho'=>by
          rcases qo ho' with ⟨rfl,_,rfl⟩ | ⟨_,ho'⟩
          · exact .inr (.inr fun _=>f.o.rep _ _ hob')
          · exact .inl ⟨f.o.rep o' ob ho',fun b hb=>hc.block b (f.o.lt o' b (qz ho') hb) (by simp)⟩) (fun o' hm=>(qd8 hm).1) (fun o' i e ys ho'=>by
          rcases qo ho' with ⟨_,_,e⟩ | ⟨_,ho'⟩
          · cases e
          · exact ho') (fun b hb=>by cases hb) (fun _ j ob g hj'=>by simp at hj') (fun k hk=>by
          rcases List.mem_cons.1 hk with rfl | hk
          · exact⟨by omega,.inl f.o.chg.size⟩
          · exact⟨Nat.lt_of_lt_of_le (f.o.bl k hk).1 hc.size,(f.o.bl k hk).2⟩) (fun o' b hm hb hB'=>by
          rcases List.mem_cons.1 hB' with rfl | hB'
          · have:=f.o.lt o' _ (qd8 hm).1.lt hb;omega
          · exact f.o.bo o' b (qd8 hm).1 hb hB') (fun b hb=>by cases hb) (fun K o' t2 p2 w2 x2 l2 ho'=>by
          rw[List.append_nil] at ho';rcases qo ho' with ⟨rfl,_,e⟩ | ⟨hne,ho'⟩
          rotate_left
          · exact absurd (qfr hp o' t2 p2 w2 x2 l2 (f.ar o' t2 p2 w2 x2 l2 ho')) hne
          cases e;have hBs:∀k∈flatB ls,k<w.heap.size:=fun k hk=>(f.o.bl k (hB k hk)).1;refine⟨ls++[(w.heap.size,[])],hs++[h0],ArW.mk (by simp[hA.len]) (by simp[hA.lenH]) ?_ (fun i=>?_) ?_ (fun i q' x' h' e1 e2 e3=>?_),fun k hk=>?_,fun i u hu=>?_,fun x hx=>?_⟩
          · show m' 0=none;have:m' 0=γ.m 0:=if_neg (by omega);rw[this];exact hA.m0
          · show(if i+1=xs.length+1 then _ else _)=_;by_cases hi:i=xs.length
            · subst hi;rw[if_pos rfl,←hA.len,List.getElem?_append_right (Nat.le_refl _)];simp
            · rw[if_neg (by omega),hAm];by_cases hi2:i<xs.length
              · rw[List.getElem?_append_left (by rw[hA.len];exact hi2)]
              · rw[List.getElem?_eq_none (by rw[hA.len];omega),List.getElem?_eq_none (by simp[hA.len];omega)]
          · have e:flatB (ls++[(w.heap.size,[])])=flatB ls++[w.heap.size]:=by simp[flatB]
            rw[e];refine List.nodup_append.2 ⟨hA.nd,by simp,fun k hk k' hk'=>?_⟩;have:=hBs k hk;simp at hk';omega
          · by_cases hi:i<xs.length
            · rw[List.getElem?_append_left (by rw[hA.len];exact hi)] at e1;rw[List.getElem?_append_left hi] at e2;rw[List.getElem?_append_left (by rw[hA.lenH];exact hi)] at e3;exact(hA.node i q' x' h' e1 e2 e3).mono K.imm K.heap fun k hk=>hc.block k (hBs k (qaR e1 k hk)) (by simp)
            · have hi':i=xs.length:=by
                have:=qz e2;simp at this;omega
              subst hi';rw[←hA.len,List.getElem?_append_right (Nat.le_refl _)] at e1;rw[List.getElem?_append_right (Nat.le_refl _)] at e2;rw[←hA.lenH,List.getElem?_append_right (Nat.le_refl _)] at e3;simp only[Nat.sub_self,List.getElem?_cons_zero,Option.some.injEq] at e1 e2 e3;subst e1;subst e2;subst e3;have hrep:=(qaN (S:=Imm objs' γ w) r.o f.keep.imm q hd (hl.take q.size) (fun o' ho' b hb=>hids o' (by rw[qcL q hpure];exact ho') b hb)).1;rw[Ty.pure_ids q hpure] at hrep;refine⟨v.cells,v.cells.toList.take q.size,hblk,Rep.mono K.imm K.heap q hrep (by simp[blocks]),?_,?_⟩
              · cases ow with
                | none =>
                  have hlen:=Nat.eq_of_beq_eq_true hlen;have:=hl.length;show v.cells.toList=v.cells.toList.take q.size++[];rw[List.append_nil,List.take_of_length_le (by omega)]
                | some i =>
                  simp only at hlen;split at hlen
                  · rename_i hdrop;have h5:=hl.drop q.size;rw[hdrop] at h5;obtain⟨u,s,e5,h6,h7⟩:=h5;simp only[VR] at h6;simp only[VRL] at h7;subst h6;subst h7;show v.cells.toList=v.cells.toList.take q.size++[.slice none 0 0];rw[←e5,List.take_append_drop]
                  · cases hlen
              · cases ow with
                | none=>exact⟨rfl,rfl,rfl⟩
                | some i =>
                  refine⟨.slice none 0 0,rfl,rfl,?_⟩;cases (lent==some xs.length)
                  · exact .inr ⟨rfl,.inl ⟨rfl,rfl,rfl⟩⟩
                  · exact .inl ⟨rfl,rfl⟩
          · have e:flatB (ls++[(w.heap.size,[])])=flatB ls++[w.heap.size]:=by simp[flatB]
            rw[e] at hk;show k∈w.heap.size::γ.B;rcases List.mem_append.1 hk with hk | hk
            · exact List.mem_cons_of_mem _ (hB k hk)
            · simp at hk;subst hk;exact List.mem_cons_self
          · show(if o'=o'∧i+1=xs.length+1 then _ else _)=_;by_cases hi:i=xs.length
            · subst hi;rw[if_pos ⟨rfl,rfl⟩];rw[←hA.lenH,List.getElem?_append_right (Nat.le_refl _)] at hu;simp only[Nat.sub_self,List.getElem?_cons_zero,Option.some.injEq] at hu;exact hu
            · rw[if_neg (by omega)];have:i<xs.length:=by
                have:=qz hu;rw[List.length_append,hA.lenH] at this;simp at this;omega
              rw[List.getElem?_append_left (by rw[hA.lenH];exact this)] at hu;exact hkc i u hu
          · rw[List.length_append] at hx;simp at hx;show(if o'=o'∧x=xs.length+1 then _ else _)=_;rw[if_neg (by omega)]
            exact hj x (by omega))
      rw[List.append_nil] at ho K;have hK:Keep σ.objs γ w (objs'.set p (.ar t q ow (xs++[(d,none)]) lent)) _ w' σ.objs.length:=f.keep.trans (by rw[←f.len];exact K)
      obtain⟨h1,h2⟩:=qbm r hK ho (f.same.trans (fun o' ti e ys fz hx hlt'=>by
          rcases qo hx with ⟨_,_,e⟩ | ⟨_,hx⟩
          · cases e
          · exact⟨_,_,_,_,hx,rfl⟩) (by rw[f.len];exact Nat.le_refl _)) (fun o' ho' hb'=>by
          rw[List.getElem?_set,if_neg (fun e=>by subst e;rw[hpr] at hb';cases hb')]
          exact f.prot o' hb') hput (v := .pointer (some ⟨w.heap.size,0,none⟩)) (.inr ⟨w.heap.size,by omega,if_pos rfl,rfl⟩)
      exact EfA.val hrun hc hk h1 h2
    | _=>simp at h
  | _=>simp at h
theorem qqQ (r:Rel F σ γ a w) {t:TypeId} {x:Operand} (ho:o.op = .box t x) (h:((ev σ [] x).bind fun v=>(qa9 v).bind fun l=>bif nodeT t then nodeE σ o t l k else(σ.new o.dst (.box l) (.c (.ptr σ.objs.length 0))).bind k)=some res):EfA P F σ γ a w o k res Q:=by
  simp only[Option.bind_eq_some_iff] at h;obtain⟨pv,h1,l,h2,h⟩:=h;have key:(execOp a.eval o).run P w = .ok (.value (.pointer (some ⟨w.heap.size,0,none⟩))) (w.alloc (.cells (a.eval x).cells t)):=?_
  · cases hn:nodeT t with
    | true=>rw[hn,cond_true] at h;exact ef_node r (qbg h2 (qg r (qj σ) h1)) key h
    | false =>
      rw[hn,cond_false] at h;obtain⟨σ',h3,h4⟩:=Option.bind_eq_some_iff.1 h;exact ef_box r (v:=a.eval x) (t:=t) (qbg h2 (qg r (qj σ) h1)) key h3 h4
  obtain⟨dst,op,type,pos,after,guard⟩:=o;simp only at ho;subst ho;simp only[execOp,Instr.box,newVar,newRow,newObj];rfl
theorem qro (r:Rel F σ γ a w) {t:TypeId} (ho:o.op = .alloc t) (h:allocE P env σ o t k=some res):EfA P F σ γ a w o k res Q:=by
  obtain⟨l,h2,h⟩:=Option.bind_eq_some_iff.1 h;obtain⟨i,z,hi,hz,hzv⟩:=qlG (P:=P) (σ:=σ) (γ:=γ) (w:=w) h2
  have hzr:(zeroValue t).run P w = .ok z w:=by simp[zeroValue,typeInfo,hi,hz,go_sem]
  have hrun:(execOp a.eval o).run P w = .ok (.value (.pointer (some ⟨w.heap.size,0,none⟩))) (w.alloc (.cells z.cells t)):=by
    obtain⟨dst,op,type,pos,after,guard⟩:=o;simp only at ho;subst ho;simp only[execOp,Instr.alloc,Sem.run_bind,hzr,Result.andThen_ok,newVar,newRow,newObj];rfl
  cases hn:nodeT t with
  | true=>rw[hn,cond_true] at h;exact ef_node r hzv hrun h
  | false =>
  rw[hn,cond_false] at h
  cases hb:env.bldT t with
  | false =>
    rw[hb,cond_false] at h;obtain⟨σ',h3,h4⟩:=Option.bind_eq_some_iff.1 h;exact ef_box r (v:=z) (t:=t) hzv hrun h3 h4
  | true =>
    rw[hb,cond_true] at h;split at h
    · obtain⟨σ',h3,h4⟩:=Option.bind_eq_some_iff.1 h;have hc:z.cells = #[.pointer none,.slice none 0 0]:=by
        obtain⟨v1,q1,e1,e2,v2,q2,e3,e4,e5⟩:=hzv;simp only[VR] at e2 e4;simp only[VRL] at e5;subst e2 e4 e5 e3;rw[←Array.toList_inj,e1]
      rw[hc] at hrun;exact ef_bld r hrun h3 h4
    · cases h

theorem qes {t:TypeId} {inf:TypeInfo} {b off:Nat} {cur:Array Value} {T:TypeId} {v:Value} (hi:P.info? t=some inf) (hb:Row w b cur T) (hs:v.cells.size=inf.size) (hfit:off+v.cells.toList.length≤cur.size) (h1:∀u∈v.cells.toList,u.oneCell'=true)
    {ad x:Operand} (ho:o.op = .store t ad x) (e1:a.eval ad = .pointer (some ⟨b,off,none⟩)) (e2:a.eval x=v) :
    (execOp a.eval o).run P w = .ok .skip (w.setRow b (cur.toList.take off++v.cells.toList++cur.toList.drop (off+v.cells.toList.length)).toArray):=by
  have hst:=qf5 (P:=P) hb off v.cells.toList hfit h1
  have hsr:(sizeOf t).run P w = .ok inf.size w:=by simp[sizeOf,typeInfo,hi,go_sem]
  have hv1:(storeVar t ⟨b,off,none⟩ v).run P w = .ok () (w.setRow b (cur.toList.take off++v.cells.toList++cur.toList.drop (off+v.cells.toList.length)).toArray):=by
    unfold storeVar;rw[Sem.run_bind,hsr,Result.andThen_ok];rw[if_neg (fun hn=>hn hs)];exact hst
  obtain⟨dst,op,type,pos,after,guard⟩:=o;simp only at ho;subst ho;simp only[execOp,Sem.run_bind,e1,e2,Instr.storeAt,Instr.sureAddr,Sem.run_pure,Result.andThen_ok,hv1]
theorem qfg {b:Nat} {cs:Array Value}:Chg [b] w (w.setRow b cs) :=
  ⟨rfl,rfl,rfl,by simp[World.setRow],fun j hj hn=>setRow_other w b j cs (fun e=>hn (by simp[e])),fun _=>Nat.le_refl _⟩
theorem qkY {objs:List OB} {p b:Nat} {ob:OB} {w':World} (hch:Chg [b] w w') (r:ORel F objs γ w) (hm:Mut objs p) (hg:(γ p).2=some b)
    (hmut:∀(i:TypeId) (e:Ty) (xs:List (D e)),ob ≠ .arr i e xs true) (hob:Keep objs γ w (objs.set p ob) γ w' objs.length→ObR (objs.set p ob) γ w' ob (γ p)) (hna:isAr ob=false:=by rfl) :
    ORel F (objs.set p ob) γ w'∧Keep objs γ w (objs.set p ob) γ w' objs.length:=by
  have hlt:=hm.lt;have hget:∀o',(objs.set p ob)[o']?=if p=o' then some ob else objs[o']?:=fun o'=>by
    rw[List.getElem?_set];by_cases e1:p=o'
    · subst e1;simp[hlt]
    · simp[e1]
  have hmu:∀o',Mut (objs.set p ob) o'→Mut objs o':=by
    rintro o' ⟨ob',h1,h2⟩
    rw[hget] at h1;split at h1
    · rename_i e;subst e;exact hm
    · exact⟨ob',h1,h2⟩
  have K:Keep objs γ w (objs.set p ob) γ w' objs.length :=
    ⟨⟨fun k hk=>⟨Nat.lt_of_lt_of_le hk.lt hch.size,hk.s,fun o' hm'=>hk.own o' (hmu o' hm'),hk.nb⟩,fun _ _ h=>h⟩,fun k hk=>hch.block k hk.lt (by simp;intro e;subst e;exact hk.own p hm hg),by simp,fun _ _=>rfl,hch.size,rfl,fun _ _ _ _ h=>h⟩
  have hne:∀o' b',p≠o'→o'<objs.length→(γ o').2=some b'→(∃ob',objs[o']?=some ob'∧(mutOb ob'=true∨(∃i,∃e:Ty,∃xs:List (D e),ob' = .arr i e xs true)))→b'≠b:=by
    rintro o' b' h1 h2 h3 ⟨ob',h4,h5⟩ rfl
    rcases h5 with h5 | ⟨i,e,xs,rfl⟩
    · exact h1 (r.inj p o' b' hm ⟨ob',h4,h5⟩ hg h3)
    · exact(r.frz o' i e xs b' h4 h3).own p hm hg
  refine⟨⟨fun o' ob' h1=>?_,fun o1 o2 b' h1 h2=>r.inj o1 o2 b' (hmu o1 h1) (hmu o2 h2),fun o1 b' h1=>r.own o1 b' (hmu o1 h1),fun o1 b' h1 h2=>Nat.lt_of_lt_of_le (r.lt o1 b' (by simpa using h1) h2) hch.size,?_,fun o1 i e xs b' h1 h2=>?_,r.up,r.tab.mono K.imm K.heap,fun k hk=>⟨Nat.lt_of_lt_of_le (r.bl k hk).1 hch.size,(r.bl k hk).2⟩,fun o1 b' h1=>r.bo o1 b' (hmu o1 h1),
    fun o1 t1 p1 w1 x1 l1 h1=>(r.ar o1 t1 p1 w1 x1 l1 (SameAr.set objs p hna o1 t1 p1 w1 x1 l1 h1)).keep K rfl rfl (fun _=>rfl) fun k hk=>hch.block k (r.bl k hk).1 (by simp;intro e;subst e;exact r.bo p k hm hg hk)⟩,K⟩
  · rw[hget] at h1;split at h1
    · rename_i e;subst e;cases h1;exact hob K
    · rename_i e
      cases hd:ob' with
      | dead=>trivial
      | ar _ _ _ _ _=>rw[hd] at h1;exact r.rep o' _ h1
      | bld t c =>
        rw[hd] at h1;exact ObR.keep K (fun b' hb'=>hch.block b' (r.lt o' b' (qz h1) hb') (by simpa using hne o' b' e (qz h1) hb' ⟨_,h1,.inl rfl⟩)) (r.rep o' _ h1)
      | mbr i e' x =>
        rw[hd] at h1;exact ObR.keep K (fun b' hb'=>hch.block b' (r.lt o' b' (qz h1) hb') (by simpa using hne o' b' e (qz h1) hb' ⟨_,h1,.inl rfl⟩)) (r.rep o' _ h1)
      | nilr =>
        rw[hd] at h1;exact ObR.keep K (fun b' hb'=>hch.block b' (r.lt o' b' (qz h1) hb') (by simpa using hne o' b' e (qz h1) hb' ⟨_,h1,.inl rfl⟩)) (r.rep o' _ h1)
      | hr _ _ _ _ _ _ =>
        rw[hd] at h1;exact ObR.keep K (fun b' hb'=>hch.block b' (r.lt o' b' (qz h1) hb') (by simpa using hne o' b' e (qz h1) hb' ⟨_,h1,.inl rfl⟩)) (r.rep o' _ h1)
      | mp k v xs =>
        rw[hd] at h1;exact ObR.keep K (fun b' hb'=>hch.block b' (r.lt o' b' (qz h1) hb') (by simpa using hne o' b' e (qz h1) hb' ⟨_,h1,.inl rfl⟩)) (r.rep o' _ h1)
      | box l =>
        rw[hd] at h1;exact ObR.keep K (fun b' hb'=>hch.block b' (r.lt o' b' (qz h1) hb') (by simpa using hne o' b' e (qz h1) hb' ⟨_,h1,.inl rfl⟩)) (r.rep o' _ h1)
      | fbx l =>
        rw[hd] at h1;refine ObR.keep K (fun b' hb'=>hch.block b' (r.lt o' b' (qz h1) hb') ?_) (r.rep o' _ h1);obtain⟨b1,_,_,e1,_,_,hi⟩:=r.rep o' _ h1;rw[e1] at hb'
        obtain rfl:b1=b':=by simpa using hb'
        intro hm'
        obtain rfl:b1=b:=by simpa using hm'
        exact hi.own p hm hg
      | arr i e' xs fz =>
        rw[hd] at h1;have hcase:mutOb (.arr i e' xs fz)=true∨(∃i2,∃e2:Ty,∃xs2:List (D e2),OB.arr i e' xs fz = .arr i2 e2 xs2 true):=by
          cases fz
          · exact .inl rfl
          · exact .inr ⟨i,e',xs,rfl⟩
        exact ObR.keep K (fun b' hb'=>hch.block b' (r.lt o' b' (qz h1) hb') (by simpa using hne o' b' e (qz h1) hb' ⟨_,h1,hcase⟩)) (r.rep o' _ h1)
  · have:=r.chg;refine⟨hch.os.trans this.os,hch.tape.trans this.tape,hch.output.trans this.output,Nat.le_trans this.size hch.size,fun k hk hn=>(hch.block k (Nat.lt_of_lt_of_le hk this.size) ?_).trans (this.block k hk hn),fun e=>Nat.le_trans (this.drawn e) (hch.drawn e)⟩;simp;intro e;subst e;rcases r.own p k hm hg with h1 | h1
    · omega
    · exact hn h1
  · rw[hget] at h1;split at h1
    · cases h1;exact absurd rfl (hmut _ _ _)
    · exact K.imm _ (r.frz o1 i e xs b' h1 h2)
theorem qhw {objs:List OB} {p b:Nat} {ob:OB} {w':World} (hch:Chg [b] w w') (r:ORel F objs γ w) (hm:Mut objs p) (hg:(γ p).2=some b)
    (hmut:mutOb ob=true) (hob:Keep objs γ w (objs.set p ob) γ w' objs.length→ObR (objs.set p ob) γ w' ob (γ p)) :
    ORel F (objs.set p ob) γ w'∧Keep objs γ w (objs.set p ob) γ w' objs.length:=qkY hch r hm hg (fun i e xs h=>by rw[h] at hmut;cases hmut) hob (by cases ob<;>first | rfl | cases hmut)
theorem qik {objs:List OB} {p b:Nat} {ob:OB} {cs:Array Value} (r:ORel F objs γ w) (hm:Mut objs p) (hg:(γ p).2=some b)
    (hmut:mutOb ob=true) (hob:Keep objs γ w (objs.set p ob) γ (w.setRow b cs) objs.length→ObR (objs.set p ob) γ (w.setRow b cs) ob (γ p)) :
    ORel F (objs.set p ob) γ (w.setRow b cs)∧Keep objs γ w (objs.set p ob) γ (w.setRow b cs) objs.length:=qhw qfg r hm hg hmut hob
theorem VRL.setv {objs:List OB}:∀ {l:List Cv} {vs:List Value} {c:Cv} {v:Value} (j:Nat),VRL objs γ w l vs→VR objs γ w c v→VRL objs γ w (l.set j c) (vs.set j v)
  | [],_,_,_,_,h,_=>by simp[VRL] at h;simp[h,VRL]
  | _::_,_,_,_,0,⟨u,q,e,h1,h2⟩,h=>by subst e;exact⟨_,q,rfl,h,h2⟩
  | _::_,_,_,_,j+1,⟨u,q,e,h1,h2⟩,h=>by subst e;exact⟨u,_,rfl,h1,VRL.setv j h2 h⟩
theorem qis {objs:List OB} {i:Int} {x:Cv} {off sz inner:Nat} {v:Value} (hx:VR objs γ w x v):∀ {n j:Nat} {cs cs':List Cv} {vs:List Value},qpw i x off sz inner n j cs=some cs'→VRL objs γ w cs vs →
    (((j:Int)≤i∧i<((j+n:Nat):Int))→VRL objs γ w cs' (vs.set (off+i.toNat*sz+inner) v)∧off+i.toNat*sz+inner<vs.length)∧((i<(j:Int)∨((j+n:Nat):Int)≤i)→VRL objs γ w cs' vs)
  | 0,j,cs,cs',vs,h,hv=>by
    simp only[qpw,Option.some.injEq] at h;subst h;exact⟨fun hh=>by omega,fun _=>hv⟩
  | n+1,j,cs,cs',vs,h,hv=>by
    simp only[qpw] at h;split at h
    · rename_i c q hc;obtain⟨c',h1,h2⟩:=Option.bind_eq_some_iff.1 h;have h0:cs[off+j*sz+inner]?=some c:=by
        have:=congrArg (fun l:List Cv=>l[0]?) hc;simpa using this
      obtain⟨u,hu,hcu⟩:=hv.get h0;by_cases hij:i=(j:Int)
      · subst hij;have hc':VR objs γ w c' v:=(qdc h1).1 (by simp) hx;have hv':=VRL.setv (off+j*sz+inner) hv hc';have ih:=(qis hx (n:=n) (j:=j+1) h2 hv').2 (.inl (by omega));refine⟨fun _=>⟨?_,?_⟩,fun hh=>by omega⟩
        · simpa using ih
        · simpa using qz hu
      · have hc':VR objs γ w c' u:=(qdc h1).2 (by simpa using hij) hcu;have hv':=VRL.setv (off+j*sz+inner) hv hc';have hset:vs.set (off+j*sz+inner) u=vs:=by
          apply List.ext_getElem?;intro m;rw[List.getElem?_set];split
          · rename_i e;subst e;rw[if_pos (qz hu)];exact hu.symm
          · rfl
        rw[hset] at hv';have ih:=qis hx (n:=n) (j:=j+1) h2 hv';refine⟨fun hh=>ih.1 (by omega),fun hh=>ih.2 (by omega)⟩
    · cases h
theorem all_one {l:List Cv} {vs:List Value} (h:l.all qrF=true) (hv:VRL σ.objs γ w l vs):∀u∈vs,u.oneCell'=true:=by
  induction l generalizing vs with
  | nil=>simp only[VRL] at hv;subst hv;intro u hu;cases hu
  | cons c l ih =>
    obtain⟨v,q,rfl,h1,h2⟩:=hv;simp only[List.all_cons,Bool.and_eq_true] at h;intro u hu;rcases List.mem_cons.1 hu with rfl | hu
    · exact qfS h.1 h1
    · exact ih h.2 h2 u hu
theorem EfR.skip {w':World} {σ':AState} {γ':Gh} (hd:o.dst=none) (h:(execOp a.eval o).run P w = .ok .skip w') (hk:k σ'=some res) (hr:Rel F σ' γ' a w') (hs:Step σ γ w σ' γ' w'):EfR P F σ γ a w o k res Q:=by
  unfold EfR Oper.wp;rw[h];refine⟨σ',γ',hk,?_,hs⟩;rw[hd];exact hr
theorem qdE {objs':List OB} {γ':Gh} {w':World} (K:Keep σ.objs γ w objs' γ' w' σ.objs.length) (hp:∀o,o<σ.objs.length→bitB σ.prO o=true→objs'[o]?=σ.objs[o]?):Step σ γ w { σ with objs:=objs' } γ' w':=⟨rfl,rfl,rfl,fun _ _ _ h=>h,hp,K⟩
theorem qA {A:Type} {l:List A} {i j:Nat} {x:A} (h:i≠j):(l.set i x)[j]?=l[j]?:=by rw[List.getElem?_set,if_neg h]
theorem qma {objs:List OB} {p:Nat} {l:List Cv}:SameLen objs (objs.set p (.box l)):=fun o ti e xs fz hx hlt=>by
  rw[List.getElem?_set] at hx;split at hx
  · split at hx
    · cases hx
    · cases hx
  · exact⟨_,_,_,_,hx,rfl⟩
theorem qpU {objs:List OB} {p:Nat} {t:TypeId} {c:Cv}:SameLen objs (objs.set p (.bld t c)):=fun o ti e xs fz hx hlt=>by
  rw[List.getElem?_set] at hx;split at hx
  · split at hx
    · cases hx
    · cases hx
  · exact⟨_,_,_,_,hx,rfl⟩
theorem qoR {objs:List OB} {w':World} {b:Nat} (r:ORel F objs γ w) (hb:b∈γ.B) (hch:Chg [b] w w'):Chg F.M F.w0 w':=by
  have:=r.chg;refine⟨hch.os.trans this.os,hch.tape.trans this.tape,hch.output.trans this.output,Nat.le_trans this.size hch.size,fun k hk hn=>(hch.block k (Nat.lt_of_lt_of_le hk this.size) ?_).trans (this.block k hk hn),fun e=>Nat.le_trans (this.drawn e) (hch.drawn e)⟩;simp;intro e;subst e;rcases(r.bl k hb).2 with h1 | h1
  · omega
  · exact hn h1
theorem qqt {objs:List OB} (r:ORel F objs γ w) {p:Nat} {ob:OB} (h:objs[p]?=some ob):ob = .dead∨isAr ob=true∨∀b,(γ p).2=some b→b∉γ.B:=by
  cases hm:mutOb ob with
  | true=>exact .inr (.inr fun b hb=>r.bo p b ⟨ob,h,hm⟩ hb)
  | false =>
    cases ob with
    | dead=>exact .inl rfl
    | ar _ _ _ _ _ =>
      have h0:(γ p).2=none:=r.rep p _ h;exact .inr (.inr fun b hb=>by rw[h0] at hb;cases hb)
    | fbx l =>
      obtain⟨b1,_,_,e1,_,_,hi⟩:=r.rep p _ h;refine .inr (.inr fun b hb=>?_);rw[e1] at hb
      obtain rfl:b1=b:=by simpa using hb
      exact hi.nb
    | arr i e xs fz =>
      cases fz with
      | true=>exact .inr (.inr fun b hb=>(r.frz p i e xs b h hb).nb)
      | false=>cases hm
    | _=>cases hm
theorem qdb:∀ {ls:List (Nat×List Nat)} {i:Nat} {b:Nat} {M blk:List Nat} {k:Nat},ls[i]?=some (b,M)→k∈flatB (ls.set i (b,blk))→k∈flatB ls∨k∈blk
  | [],i,b,M,blk,k,h,_=>by simp at h
  | x::r,0,b,M,blk,k,h,hk=>by
    simp only[List.getElem?_cons_zero,Option.some.injEq] at h;subst h;have hk:k∈(b::blk)++flatB r:=hk;rcases List.mem_append.1 hk with hk | hk
    · rcases List.mem_cons.1 hk with rfl | hk
      · exact .inl (List.mem_append_left _ List.mem_cons_self)
      · exact .inr hk
    · exact .inl (List.mem_append_right (_::M) hk)
  | x::r,i+1,b,M,blk,k,h,hk=>by
    have hk:k∈(x.1::x.2)++flatB (r.set i (b,blk)):=hk;rcases List.mem_append.1 hk with hk | hk
    · exact .inl (List.mem_append_left _ hk)
    · exact(qdb (by simpa using h) hk).imp (List.mem_append_right _) id
theorem qc9:∀ {ls:List (Nat×List Nat)} {i:Nat} {b:Nat} {M blk:List Nat},ls[i]?=some (b,M)→(flatB ls).Nodup→blk.Nodup→(∀k∈blk,k∉flatB ls)→(flatB (ls.set i (b,blk))).Nodup
  | [],i,b,M,blk,h,_,_,_=>by simp at h
  | x::r,0,b,M,blk,h,hn,hb,hd=>by
    simp only[List.getElem?_cons_zero,Option.some.injEq] at h;subst h;have hn:((b::M)++flatB r).Nodup:=hn;have hd:∀k∈blk,k∉(b::M)++flatB r:=hd;show((b::blk)++flatB r).Nodup;obtain⟨n1,n2,n3⟩:=List.nodup_append.1 hn;refine List.nodup_append.2 ⟨List.nodup_cons.2 ⟨fun h=>hd b h (by simp),hb⟩,n2,fun k hk k' hk' e=>?_⟩;subst e;rcases List.mem_cons.1 hk with rfl | hk
    · exact n3 k (by simp) k hk' rfl
    · exact hd k hk (List.mem_append_right _ hk')
  | x::r,i+1,b,M,blk,h,hn,hb,hd=>by
    have hn:((x.1::x.2)++flatB r).Nodup:=hn;have hd:∀k∈blk,k∉(x.1::x.2)++flatB r:=hd;show((x.1::x.2)++flatB (r.set i (b,blk))).Nodup;obtain⟨n1,n2,n3⟩:=List.nodup_append.1 hn;refine List.nodup_append.2 ⟨n1,qc9 (by simpa using h) n2 hb fun k hk hm=>hd k hk (List.mem_append_right _ hm),fun k hk k' hk' e=>?_⟩;subst e;rcases qdb (by simpa using h) hk' with h1 | h1
    · exact n3 k hk k h1 rfl
    · exact hd k h1 (List.mem_append_left _ hk)
theorem ls_of {m:Nat→Option Nat} {ls:List (Nat×List Nat)} (hm:∀i,m (i+1)=(ls[i]?).map Prod.fst) {x b:Nat} (hx:x≠0) (h:m x=some b):∃M,ls[x-1]?=some (b,M):=by
  have:=hm (x-1);rw[show x-1+1=x by omega,h] at this;obtain⟨⟨b',M⟩,h1,rfl⟩:=Option.map_eq_some_iff.1 this.symm;exact⟨M,h1⟩
theorem ef_storeN (r:Rel F σ γ a w) {t:TypeId} {ad x:Operand} {inf:TypeInfo} (ho:o.op = .store t ad x) (hd:o.dst=none) (hi:P.info? t=some inf) {l:List Cv} {y off:Nat} {objs':List OB}
    (hvl:VRL σ.objs γ w l (a.eval x).cells.toList) (hone:∀u∈(a.eval x).cells.toList,u.oneCell'=true) (hcs:(a.eval x).cells.size=inf.size) (hp:PR σ.objs γ w (.fa y off) (a.eval ad)) (hsb:qpz σ.objs l (.fa y off)=true)
    (h4:storeAt σ.objs σ.prO l (.fa y off)=some objs') (h5:k { σ with objs:=objs' }=some res):EfR P F σ γ a w o k res Q:=by
  obtain⟨b,hy,hm,e1⟩:=hp;have hlen:=hvl.length;simp only[storeAt,Option.bind_eq_some_iff] at h4;obtain⟨p,hpo,ob,hob,h4⟩:=h4
  cases ob with
  | ar tn q ow xs lent =>
    by_cases hc:Nat.ble (off+l.length) q.size=true
    · -- what it holds
      simp only[hc,cond_true,chk_some,Bool.and_eq_true,Bool.not_eq_true',Option.bind_eq_some_iff] at h4;obtain⟨⟨hpr,hpure⟩,d,hd2,objs1,hfr,ob1,hob1,h7⟩:=h4;have hfit:=Nat.le_of_ble_eq_true hc;obtain⟨f,f2⟩:=qaB r.o hfr
      cases ob1 with
      | ar t1 q1 ow1 xs1 lent1 =>
        have hsame:=f.ar p _ _ _ _ _ hob1;rw[hob] at hsame;cases hsame;simp only[Option.some.injEq] at h7;subst h7;obtain⟨ls,hs,hA,hB,hkc,hj⟩:=f.o.ar p _ _ _ _ _ hob1;have hAm:∀i,γ.m (i+1)=(ls[i]?).map Prod.fst:=hA.m;obtain⟨M,hls⟩:=ls_of hAm hy hm
        have hlt:y-1<xs.length:=by rw[←hA.len];exact qz hls
        have hlt2:y-1<hs.length:=by rw[hA.lenH];exact hlt
        rw[getE hlt] at hd2 hfr h5;have hnode:=hA.node (y-1) _ _ _ hls (List.getElem?_eq_getElem hlt) (List.getElem?_eq_getElem hlt2);obtain⟨cells,pl,n1,n2,n3,n4⟩:=hnode;obtain⟨pl0,hrep0⟩:∃u:Unit,Rep w (Imm σ.objs γ w) q xs[y-1].1 [] pl:=by
          obtain⟨ls',hs',hA',_⟩:=r.o.ar p _ _ _ _ _ hob;obtain⟨M',hls'⟩:=ls_of (m:=γ.m) hA'.m hy hm;obtain⟨cells',pl',k1,k2,k3,_⟩:=hA'.node (y-1) _ _ _ hls' (List.getElem?_eq_getElem hlt) (List.getElem?_eq_getElem (by rw[hA'.lenH];exact hlt));simp only at k1 n1;rw[n1] at k1;cases k1;have:pl'=pl:=by
            have h1:=congrArg (List.take q.size) (k3.symm.trans n3)
            rwa [List.take_left' (Rep.length q k2),List.take_left' (Rep.length q n2)] at h1
          subst this;exact⟨(),k2⟩
        have hpll:=Rep.length q n2;have hbB:b∈γ.B:=hB b (qaR hls b (by simp))
        have hcl:cells.toList.length=pl.length+(hs[y-1]).toList.length:=by rw[n3,List.length_append]
        have hcsz:cells.size=cells.toList.length:=by simp
        have hrun:=qes (a:=a) hi (Row.of n1) hcs (off:=off) (by omega) hone ho e1 rfl;have hch:Chg [b] w (w.setRow b (cells.toList.take off++(a.eval x).cells.toList++cells.toList.drop (off+(a.eval x).cells.toList.length)).toArray):=qfg;have hhb:(w.setRow b (cells.toList.take off++(a.eval x).cells.toList++cells.toList.drop (off+(a.eval x).cells.toList.length)).toArray).heap[b]?=some (.cells (cells.toList.take off++(a.eval x).cells.toList++cells.toList.drop (off+(a.eval x).cells.toList.length)).toArray tn (0,0)):=setRow_heap w b cells _ tn (0,0) n1;generalize hw':w.setRow b (cells.toList.take off++(a.eval x).cells.toList++cells.toList.drop (off+(a.eval x).cells.toList.length)).toArray=w' at hch hhb hrun;have hnew:=((qai q hrep0).take off).append hvl |>.append ((qai q hrep0).drop (off+l.length))
        obtain⟨hdr,_⟩:=qaN (S:=Imm objs1 γ w) r.o f.keep.imm q hd2 hnew (fun o' ho' b' hb'=>f2 o' (by rw[qcL (objs':=[]) q hpure] at ho';rw[getE hlt];exact ho') b' hb');rw[Ty.pure_ids q hpure] at hdr;have hdr:Rep w (Imm objs1 γ w) q d [] _:=hdr
        have K0:Keep objs1 γ w (objs1.set p (.ar tn q ow (xs.set (y-1) (d,xs[y-1].2)) lent)) (γ.arn γ.m γ.B γ.kc) w' objs1.length :=
          ⟨⟨fun k hk=>⟨Nat.lt_of_lt_of_le hk.lt hch.size,hk.s,fun o' hm'=>hk.own o' (qd8 hm').1,hk.nb⟩,fun _ _ h=>h⟩,fun k hk=>hch.block k hk.lt (by simp;intro e;subst e;exact hk.nb hbB),by simp,fun _ _=>rfl,hch.size,rfl,fun _ _ _ _ h=>h⟩
        obtain⟨hor,K⟩:=qcF (news:=[]) (gs:=[]) (M:=[]) f.o K0 (by simp) (qoR f.o hbB hch) rfl rfl List.nodup_nil (fun o' ob ho'=>by
            rcases qo ho' with ⟨rfl,_,rfl⟩ | ⟨_,ho'⟩
            · exact .inr (.inr fun _=>f.o.rep _ _ hob1)
            · rcases qqt f.o ho' with rfl | h1 | h1
              · exact .inr (.inl rfl)
              · exact .inr (.inr fun _=>by cases ob<;>first | exact r.o.rep _ _ ho' | exact f.o.rep _ _ ho' | cases h1)
              · exact .inl ⟨f.o.rep o' ob ho',fun b' hb'=>hch.block b' (f.o.lt o' b' (qz ho') hb') (by simp;intro e;subst e;exact h1 _ hb' hbB)⟩) (fun o' hm=>(qd8 hm).1) (fun o' i e ys ho'=>by
            rcases qo ho' with ⟨_,_,e⟩ | ⟨_,ho'⟩
            · cases e
            · exact ho') (fun b hb=>by cases hb) (fun _ j ob g hj'=>by simp at hj') (fun k hk=>⟨Nat.lt_of_lt_of_le (f.o.bl k hk).1 hch.size,(f.o.bl k hk).2⟩) (fun o' b' hm hb'=>f.o.bo o' b' (qd8 hm).1 hb') (fun b hb=>by cases hb) (fun K o' t2 p2 w2 x2 l2 ho'=>by
            rw[List.append_nil] at ho';rcases qo ho' with ⟨rfl,_,e⟩ | ⟨hne,ho'⟩
            rotate_left
            · exact absurd (qfr hpo o' t2 p2 w2 x2 l2 (f.ar o' t2 p2 w2 x2 l2 ho')) hne
            cases e;refine⟨ls,hs,ArW.mk (by rw[List.length_set];exact hA.len) (by rw[List.length_set];exact hA.lenH) hA.m0 hAm hA.nd (fun i q' x' h' g1 g2 g3=>?_),hB,hkc,fun z hz=>hj z (by rw[List.length_set] at hz;exact hz)⟩;by_cases hiy:i=y-1
            · subst hiy;rw[hls] at g1;rw[List.getElem?_set,if_pos rfl,if_pos hlt] at g2;rw[List.getElem?_eq_getElem hlt2] at g3;cases g1;cases g2;cases g3
              have hMk:∀k∈M,w'.heap[k]?=w.heap[k]?:=fun k hk=>hch.block k (f.o.bl k (hB k (qaR hls k (List.mem_cons_of_mem _ hk)))).1 (by
                simp;intro e;subst e
                exact(List.nodup_cons.1 (qhu hA.nd hls)).1 hk)
              refine⟨_,_,hhb,Rep.mono K.imm K.heap q hdr (by simp),?_,?_⟩
              rotate_left
              · cases ow with
                | none=>exact n4
                | some i =>
                  obtain⟨v,k5,k6,k7⟩:=n4;refine⟨v,k5,k6,?_⟩;rcases k7 with k7 | ⟨k7,k8 | ⟨ks,us,k8,k10,k11⟩⟩
                  · exact .inl k7
                  · exact .inr ⟨k7,.inl k8⟩
                  · exact .inr ⟨k7,.inr ⟨ks,us,k8,k10.mono hMk,k11⟩⟩
              rw[n3,List.take_append_of_le_length (by omega),List.drop_append_of_le_length (by omega),hlen];simp
            · rw[List.getElem?_set,if_neg (fun e=>hiy e.symm)] at g2;refine(hA.node i q' x' h' g1 g2 g3).mono K.imm K.heap fun k hk=>hch.block k (f.o.bl k (hB k (qaR g1 k hk))).1 ?_;simp;intro e;subst e
              exact hiy (qdx hA.nd g1 hls hk (by simp)))
        rw[List.append_nil] at hor K;have hK:Keep σ.objs γ w (objs1.set p (.ar tn q ow (xs.set (y-1) (d,xs[y-1].2)) lent)) _ w' σ.objs.length:=f.keep.trans (by rw[←f.len];exact K);refine EfR.skip hd hrun h5 (r.setObjsN hK hor) (qdE hK fun o' ho' hp'=>?_);rw[qA (fun e2=>by subst e2;rw[hpr] at hp';cases hp')];exact f.prot o' hp'
      | _=>simp at h7
    · -- the row of children
      simp only[Bool.eq_false_iff.2 hc,cond_false] at h4;split at h4
      rotate_left
      · cases h4
      rename_i r';obtain⟨ob,hr',h4⟩:=Option.bind_eq_some_iff.1 h4;split at h4
      rotate_left
      · cases h4
      rename_i i zs;simp only[chk_some,Bool.and_eq_true,Bool.not_eq_true',Option.some.injEq] at h4;obtain⟨⟨hoff,how,hprp,hprr⟩,rfl⟩:=h4;have hoff:=Nat.eq_of_beq_eq_true hoff;have how:ow=some i:=by
        cases ow with
        | none=>cases how
        | some j=>rw[Nat.eq_of_beq_eq_true how]
      subst how;simp only[qpz,hr',hpo,Option.bind_some,hob] at hsb;have hlent:∀j',lent=some j'→j'=y-1:=by
        cases lent with
        | none=>exact fun j' e=>by cases e
        | some j'=>exact fun j2 e=>by cases e;exact Nat.eq_of_beq_eq_true hsb
      have hlentI:∀j,j≠y-1→(lent==some j)=false:=fun j hj=>by
        cases lent with
        | none=>rfl
        | some j' =>
          have:=hlent j' rfl;subst this;simpa using fun e:y-1=j=>hj e.symm
      obtain⟨ls,hs,hA,hB,hkc,hj⟩:=r.o.ar p _ _ _ _ _ hob;have hAm:∀i,γ.m (i+1)=(ls[i]?).map Prod.fst:=hA.m;obtain⟨M,hls⟩:=ls_of hAm hy hm
      have hlt:y-1<xs.length:=by rw[←hA.len];exact qz hls
      have hlt2:y-1<hs.length:=by rw[hA.lenH];exact hlt
      rw[getE hlt] at h5;obtain⟨cells,pl,n1,n2,n3,v0,n5,_,_⟩:=hA.node (y-1) _ _ _ hls (List.getElem?_eq_getElem hlt) (List.getElem?_eq_getElem hlt2);rw[n5] at n3;have n3:cells.toList=pl++[v0]:=n3;have hpll:=Rep.length q n2;have hbB:b∈γ.B:=hB b (qaR hls b (by simp))
      have hcsz:cells.size=cells.toList.length:=by simp
      have hcl:cells.toList.length=pl.length+1:=by rw[n3];simp
      obtain⟨v,e2,hvr⟩:=hvl.one'
      have hvlen:(a.eval x).cells.toList.length=1:=by rw[e2];rfl
      have hrun:=qes (a:=a) hi (Row.of n1) hcs (off:=off) (by omega) hone ho e1 rfl;have hcells:(cells.toList.take off++(a.eval x).cells.toList++cells.toList.drop (off+(a.eval x).cells.toList.length)).toArray=(pl++[v]).toArray:=by
        rw[hvlen,e2,n3,hoff,←hpll,List.take_left,List.drop_eq_nil_of_le (by simp)];simp
      rw[hcells] at hrun;have hch:Chg [b] w (w.setRow b (pl++[v]).toArray):=qfg;have hhb:(w.setRow b (pl++[v]).toArray).heap[b]?=some (.cells (pl++[v]).toArray tn (0,0)):=setRow_heap w b cells _ tn (0,0) n1;generalize w.setRow b (pl++[v]).toArray=w' at hch hhb hrun;obtain⟨hr1,hr2,ao,vn,vc,hr3⟩:=hvr;have hmr:Mut σ.objs r':=⟨_,hr',rfl⟩;obtain⟨us,hown,hrep⟩:=r.o.rep r' _ hr'
      have hne:p≠r':=fun e=>by rw[e,hr'] at hob;cases hob
      have hmut:∀o',Mut ((σ.objs.set p .dead).set r' .dead) o'→Mut σ.objs o'∧o'≠r':=by
        rintro o' ⟨ob,g1,g2⟩
        rcases qo g1 with ⟨_,_,rfl⟩ | ⟨g3,g1⟩
        · cases g2
        · rcases qo g1 with ⟨_,_,rfl⟩ | ⟨_,g1⟩
          · cases g2
          · exact⟨⟨ob,g1,g2⟩,g3⟩
      have hblk:∀k,k∈(γ r').2.toList→(γ r').2=some k:=fun k hk=>by
        cases h9:(γ r').2 with
        | none=>rw[h9] at hk;cases hk
        | some k'=>rw[h9] at hk;simp at hk;rw[hk]
      let kc':Nat→Nat→Option Value:=fun o' z=>if o'=σ.objs.length then((hs.set (y-1) (some v))[z-1]?).join else γ.kc o' z
      have K0:Keep σ.objs γ w ((σ.objs.set p .dead).set r' .dead) (γ.arn γ.m ((γ r').2.toList++γ.B) kc') w' σ.objs.length :=
        ⟨⟨fun k hk=>⟨Nat.lt_of_lt_of_le hk.lt hch.size,hk.s,fun o' hm'=>hk.own o' (hmut o' hm').1,fun hm'=>by
            rcases List.mem_append.1 hm' with g | g
            · exact hk.own r' hmr (hblk k g)
            · exact hk.nb g⟩,fun _ _ h=>h⟩,fun k hk=>hch.block k hk.lt (by simp;intro e;subst e;exact hk.nb hbB),by simp,fun _ _=>rfl,hch.size,rfl,fun o' ho' z u hu=>by
            show(if o'=σ.objs.length then _ else _)=_
            rw[if_neg (by omega)];exact hu⟩
      obtain⟨hor,K⟩:=qcF (news:=[.ar tn q (some i) (xs.set (y-1) (xs[y-1].1,some zs)) none]) (gs:=[(undef,none)]) (M:=[]) r.o K0 (by simp) (qoR r.o hbB hch) rfl rfl List.nodup_nil (fun o' ob ho'=>by
          rcases qo ho' with ⟨_,_,rfl⟩ | ⟨_,ho'⟩
          · exact .inr (.inl rfl)
          · rcases qo ho' with ⟨_,_,rfl⟩ | ⟨_,ho'⟩
            · exact .inr (.inl rfl)
            · rcases qqt r.o ho' with rfl | h1 | h1
              · exact .inr (.inl rfl)
              · exact .inr (.inr fun _=>by cases ob<;>first | exact r.o.rep _ _ ho' | exact f.o.rep _ _ ho' | cases h1)
              · exact .inl ⟨r.o.rep o' ob ho',fun b' hb'=>hch.block b' (r.o.lt o' b' (qz ho') hb') (by simp;intro e;subst e;exact h1 _ hb' hbB)⟩) (fun o' hm=>(hmut o' hm).1) (fun o' i e ys ho'=>by
          rcases qo ho' with ⟨_,_,e⟩ | ⟨_,ho'⟩
          · cases e
          · rcases qo ho' with ⟨_,_,e⟩ | ⟨_,ho'⟩
            · cases e
            · exact ho') (fun b hb=>by cases hb) (fun _ j ob g hj' hg'=>by
          obtain⟨rfl,rfl⟩:=qcT hj';obtain⟨_,rfl⟩:=qcT hg';exact⟨rfl,.inr rfl⟩) (fun k hk=>by
          rcases List.mem_append.1 hk with hk | hk
          · exact⟨Nat.lt_of_lt_of_le (r.o.lt r' k hmr.lt (hblk k hk)) hch.size,r.o.own r' k hmr (hblk k hk)⟩
          · exact⟨Nat.lt_of_lt_of_le (r.o.bl k hk).1 hch.size,(r.o.bl k hk).2⟩) (fun o' b' hm hb' hB'=>by
          rcases List.mem_append.1 hB' with hB' | hB'
          · exact(hmut o' hm).2 (r.o.inj o' r' b' (hmut o' hm).1 hmr hb' (hblk b' hB'))
          · exact r.o.bo o' b' (hmut o' hm).1 hb' hB') (fun b hb=>by cases hb) (fun K o' t2 p2 w2 x2 l2 ho'=>by
          by_cases hlt':o'<((σ.objs.set p .dead).set r' .dead).length
          · rw[List.getElem?_append_left hlt'] at ho';rcases qo ho' with ⟨_,_,e⟩ | ⟨_,ho'⟩
            · cases e
            · rcases qo ho' with ⟨_,_,e⟩ | ⟨g,ho'⟩
              · cases e
              · exact absurd (qfr hpo o' t2 p2 w2 x2 l2 ho') g
          rw[List.getElem?_append_right (by omega)] at ho';obtain⟨h0,e⟩:=qcT ho';have ho'':o'=σ.objs.length:=by
            simp only[List.length_set] at h0 hlt';omega
          cases e;have hblkB:∀k∈(γ r').2.toList,k∉flatB ls:=fun k hk hm'=>r.o.bo r' k hmr (hblk k hk) (hB k hm')
          refine⟨ls.set (y-1) (b,(γ r').2.toList),hs.set (y-1) (some v),ArW.mk (by rw[List.length_set,List.length_set];exact hA.len) (by rw[List.length_set,List.length_set];exact hA.lenH) hA.m0 (fun z=>?_) (qc9 hls hA.nd (by cases (γ r').2<;>simp) hblkB) (fun z q' x' h' g1 g2 g3=>?_),fun k hk=>?_,fun z u hu=>?_,fun z hz=>?_⟩
          · show γ.m (z+1)=_;rw[hAm,List.getElem?_set];by_cases hz:y-1=z
            · subst hz;rw[if_pos rfl,hls,if_pos (qz hls)];rfl
            · rw[if_neg hz]
          · by_cases hz:z=y-1
            · subst hz;rw[List.getElem?_set,if_pos rfl,if_pos (qz hls)] at g1;rw[List.getElem?_set,if_pos rfl,if_pos hlt] at g2;rw[List.getElem?_set,if_pos rfl,if_pos hlt2] at g3;cases g1;cases g2;cases g3;refine⟨_,pl,hhb,Rep.mono K.imm K.heap q n2 (by simp),rfl,v,rfl,hone v (by rw[e2];simp),.inr ⟨rfl,.inr ⟨zs,us,rfl,?_,?_⟩⟩⟩
              · have:=hown.mono (w':=w') fun b' hb'=>hch.block b' (r.o.lt r' b' hmr.lt (hblk b' hb')) (by simp;intro e;subst e;exact r.o.bo r' b' hmr (hblk b' hb') hbB);rw[hr2];exact this
              · exact RepL.mono (fun _ _ h=>h.2) hrep
            · rw[List.getElem?_set,if_neg (fun e=>hz e.symm)] at g1 g2 g3;have:=hA.node z q' x' h' g1 g2 g3;rw[hlentI z hz] at this;refine this.mono K.imm K.heap fun k hk=>hch.block k (r.o.bl k (hB k (qaR g1 k hk))).1 ?_;simp;intro e;subst e;exact hz (qdx hA.nd g1 hls hk (by simp))
          · rcases qdb hls hk with hk | hk
            · exact List.mem_append_right _ (hB k hk)
            · exact List.mem_append_left _ hk
          · show(if o'=σ.objs.length then _ else _)=_;rw[if_pos ho'',Nat.add_sub_cancel,hu];rfl
          · show(if o'=σ.objs.length then _ else _)=_
            rw[if_pos ho'',List.getElem?_eq_none (by
              rw[List.length_set,hA.lenH];rw[List.length_set] at hz
              omega)]
            rfl)
      refine EfR.skip hd hrun h5 (r.setObjsN K hor) (qdE K fun o' ho' hp'=>?_);rw[List.getElem?_append_left (by simpa using ho'),qA (fun e2=>by subst e2;rw[hprr] at hp';cases hp'),qA (fun e2=>by subst e2;rw[hprp] at hp';cases hp')]
  | _=>simp at h4
theorem qnF {objs:List OB}:∀(τ:Ty) (l:List Cv),τ.flat=true→idsD objs τ l=[]
  | .sl _,_,h=>by cases h
  | .osl _ _,_,h=>by cases h
  | .obx _,_,h=>by cases h
  | .onl _ _,_,h=>by cases h
  | .err,_,h=>by cases h
  | .bld _ _,_,h=>by cases h
  | .ref,_,h=>by cases h
  | .ifc _ _,_,h=>by cases h
  | .omp _ _,_,h=>by cases h
  | .hrl _ _ _ _ _,_,h=>by cases h
  | .int _,_,_=>rfl
  | .bool,_,_=>rfl
  | .str,_,_=>rfl
  | .nil,_,_=>rfl
  | .st f r,l,h=>by
    simp only[Ty.flat,Bool.and_eq_true] at h;simp only[idsD,qnF f _ h.1,qnF r _ h.2,List.append_nil]
theorem qi7:∀(τ:Ty),τ.flat=true→τ.pure=true
  | .sl _,h=>by cases h
  | .osl _ _,h=>by cases h
  | .obx _,h=>by cases h
  | .onl _ _,h=>by cases h
  | .err,h=>by cases h
  | .bld _ _,h=>by cases h
  | .ref,h=>by cases h
  | .ifc _ _,h=>by cases h
  | .omp _ _,h=>by cases h
  | .hrl _ _ _ _ _,h=>by cases h
  | .int _,_=>rfl
  | .bool,_=>rfl
  | .str,_=>rfl
  | .nil,_=>rfl
  | .st f r,h=>by
    simp only[Ty.flat,Bool.and_eq_true] at h;simp only[Ty.pure,qi7 f h.1,qi7 r h.2,Bool.and_self]
theorem qpo (r:Rel F σ γ a w) {t:TypeId} {ad x:Operand} {inf:TypeInfo} (ho:o.op = .store t ad x) (hd:o.dst=none) (hi:P.info? t=some inf) (hcs:(a.eval x).cells.size=inf.size) (hone:∀u∈(a.eval x).cells.toList,u.oneCell'=true)
    {q i off:Nat} {ti:TypeId} {p qt:Ty} {j:TypeId} {xs xs':List (El p qt)} {hole hole':Option (Nat×Nat)} (hob:σ.objs[q]?=some (.hr ti p qt j xs hole)) (hpr:bitB σ.prO q=false) (hp:PR σ.objs γ w (.ep q (p.size+(1+qt.size)) i off) (a.eval ad))
    (hfit:off+(a.eval x).cells.toList.length≤p.size+(1+qt.size)) {y y':El p qt×Option Value} (hl:xs'.length=xs.length) (hy0:(hz (hole.map fun h=>(h.1,(γ h.2).1)) xs)[i]?=some y) (hz':hz (hole'.map fun h=>(h.1,(γ h.2).1)) xs'=(hz (hole.map fun h=>(h.1,(γ h.2).1)) xs).set i y')
    (hy:∀c,ElR (fun x c=>Rep w (Imm σ.objs γ w) p x [] c) (fun x c=>Rep w (Imm σ.objs γ w) qt x [] c) (KidI w (Imm σ.objs γ w)) y c→ElR (fun x c=>Rep w (Imm σ.objs γ w) p x [] c) (fun x c=>Rep w (Imm σ.objs γ w) qt x [] c) (KidI w (Imm σ.objs γ w)) y' (c.take off++(a.eval x).cells.toList++c.drop (off+(a.eval x).cells.toList.length)))
    (hh':∀k r,hole'=some (k,r)→k<xs'.length∧VR σ.objs γ w (.os r) (γ r).1) (h5:k { σ with objs:=σ.objs.set q (.hr ti p qt j xs' hole') }=some res):EfR P F σ γ a w o k res Q:=by
  obtain⟨hq,b,hg,ep1,ao0,n0,c0,hg0,hil⟩:=hp
  have hil:i<xs.length:=by rw[←qoV r.o hob hg0];exact hil
  obtain⟨us,hown,hrep,hhole⟩:=r.o.rep q _ hob;rcases hown with ⟨_,_,h8,_⟩ | ⟨b1,cap1,cur1,h8,h9,h10,h11,h12,h13,h14⟩
  · exact absurd hil (by omega)
  have hb1:b1=b:=by
    have:=toList_some h8;rw[this] at hg;simpa using hg
  subst hb1;have hsz0:(a.eval x).cells.toList.length=(a.eval x).cells.size:=Array.length_toList;have hS:∀m,(m+1)*(p.size+(1+qt.size))=m*(p.size+(1+qt.size))+(p.size+(1+qt.size)):=fun m=>Nat.succ_mul _ _;have hcurlen:i*(p.size+(1+qt.size))+(p.size+(1+qt.size))≤cur1.size:=by
    rw[h13,←hS];exact Nat.mul_le_mul_right _ (by omega)
  have hrun:=qes (a:=a) hi h10 hcs (off:=i*(p.size+(1+qt.size))+off) (by omega) hone ho ep1 rfl;have hx0:=hrep.get (sz:=p.size+(1+qt.size)) (fun _ _ h=>ElR.len h) hy0
  have hzl:i<(hz (hole.map fun h=>(h.1,(γ h.2).1)) xs).length:=by rw[qiV];exact hil
  have hset:=RepL.set (R:=ElR (fun x c=>Rep w (Imm σ.objs γ w) p x [] c) (fun x c=>Rep w (Imm σ.objs γ w) qt x [] c) (KidI w (Imm σ.objs γ w))) (sz:=p.size+(1+qt.size)) (fun _ _ h=>ElR.len h) (hy _ hx0) i hzl hrep;rw[←hz'] at hset
  obtain⟨hor,K⟩:=qik (ob := .hr ti p qt j xs' hole') (cs:=(cur1.toList.take (i*(p.size+(1+qt.size))+off)++(a.eval x).cells.toList++cur1.toList.drop (i*(p.size+(1+qt.size))+off+(a.eval x).cells.toList.length)).toArray) r.o ⟨_,hob,rfl⟩ hg rfl (fun K=>by
    refine⟨_,.inr ⟨b1,cap1,_,h8,?_,h10.set _ (by simp only[List.size_toArray,List.length_append,List.length_take,List.length_drop,Array.length_toList];omega),?_,h12,?_,?_⟩,
      hset.mono (ElR.mono (fun x c=>Rep.keep K) (fun x c=>Rep.keep K) fun ks v hk=>hk.mono K.imm K.heap),fun k' r' e=>⟨(hh' k' r' e).1,VR.keep K (hh' k' r' e).2.1 (hh' k' r' e).2⟩⟩
    · rw[h9,hl]
    · rw[hl];exact h11
    · simp only[List.size_toArray,List.length_append,List.length_take,List.length_drop,Array.length_toList];omega
    · rw[hl];simp only[List.toList_toArray];rw[←h14]
      exact qnp cur1.toList _ (xs.length*(p.size+(1+qt.size))) (i*(p.size+(1+qt.size))) (p.size+(1+qt.size)) off (by rw[←hS];exact Nat.mul_le_mul_right _ hil) (by simp only[Array.length_toList];rw[h13];exact Nat.mul_le_mul_right _ h11) hfit)
  refine EfR.skip hd hrun h5 (r.setObjs K (fun o' ti' e' xs'' fz' hx' hlt'=>?_) hor) (qdE K fun o' _ hp'=>qA (fun e=>by subst e;rw[hpr] at hp';cases hp'));rw[List.getElem?_set] at hx';by_cases e2:q=o'
  · subst e2;rw[if_pos rfl,if_pos (qz hob)] at hx';cases hx'
  · rw[if_neg e2] at hx';exact⟨_,_,_,_,hx',rfl⟩
theorem hz_set {A:Type} (h:Option (Nat×Value)) (xs:List A) (i:Nat) (x:A):hz h (xs.set i x)=(hz h xs).set i (x,hvAt h i):=by
  refine List.ext_getElem? fun t=>?_;rw[qfw,List.getElem?_set,List.getElem?_set,qiV];by_cases e:i=t
  · subst e;by_cases hi:i<xs.length
    · simp[hi]
    · simp[hi]
  · simp[e,qfw]
theorem hz_hole {A:Type} (k:Nat) (v v':Value) (xs:List A) {x:A} (hx:xs[k]?=some x):hz (some (k,v')) xs=(hz (some (k,v)) xs).set k (x,some v'):=by
  refine List.ext_getElem? fun t=>?_;rw[qfw,List.getElem?_set,qiV,qfw];by_cases e:k=t
  · subst e;have hi:=(List.getElem?_eq_some_iff.1 hx).1;simp[hx,hi,hvAt,Nat.beq_refl];exact(List.getElem?_eq_some_iff.1 hx).2
  · have:Nat.beq k t=false:=by
      cases hb:Nat.beq k t with
      | false=>rfl
      | true=>exact absurd (Nat.eq_of_beq_eq_true hb) e
    simp[e,hvAt,this]
theorem ef_store (r:Rel F σ γ a w) {t:TypeId} {ad x:Operand} (ho:o.op = .store t ad x) (h:storeE P σ o t ad x k=some res):EfR P F σ γ a w o k res Q:=by
  simp only[storeE,Option.bind_eq_some_iff,chk_some,req_some,Bool.and_eq_true] at h;obtain⟨p,h1,pv,h2,l,h3,⟨hc,hd,hok⟩,hsb,objs',h4,h5⟩:=h
  have hd:o.dst=none:=by simpa using hd
  obtain⟨inf,hi,hsz⟩:=qaA hc;have hp:=qjG (qg r (qj σ) h1);have hvl:=qbg h3 (qg r (qj σ) h2);generalize faOf p=p at *;have hone:=all_one hok hvl;have hlen:=hvl.length
  have hcs:(a.eval x).cells.size=inf.size:=by rw[hsz];simpa using hlen
  cases p with
  | c c =>
    cases c<;>simp only[storeAt] at h4<;>try (cases h4;done)
    rename_i q off;obtain⟨ob,hob,h6⟩:=Option.bind_eq_some_iff.1 h4
    cases ob with
    | box cs =>
      simp only[chk_some,Bool.and_eq_true,Bool.not_eq_true',Option.some.injEq] at h6;obtain⟨⟨hpr,hfit⟩,rfl⟩:=h6;have hfit:=Nat.le_of_ble_eq_true hfit;obtain⟨hq,b,hg,e1⟩:=hp;obtain⟨b',T,cells,hgg,hheap,hbv⟩:=r.o.rep q _ hob
      have hbb:b'=b:=by rw[hgg] at hg;simpa using hg
      subst hbb;have hcl:=hbv.length;have hrun:=qes (a:=a) hi (Row.of hheap) hcs (by rw[hlen];simp only[Array.length_toList] at hcl;omega) hone ho e1 rfl
      have hd3:VRL σ.objs γ w (cs.drop (off+l.length)) (cells.toList.drop (off+(a.eval x).cells.toList.length)):=by rw[hlen];exact hbv.drop _
      obtain⟨hor,K⟩:=qik (ob := .box (cs.take off++l++cs.drop (off+l.length))) (cs:=(cells.toList.take off++(a.eval x).cells.toList++cells.toList.drop (off+(a.eval x).cells.toList.length)).toArray) r.o ⟨_,hob,rfl⟩ hg rfl (fun K =>
        ⟨b',T,_,hgg,setRow_heap w b' cells _ T (0,0) hheap,VRL.keep K (((hbv.take off).append hvl).append hd3).below (((hbv.take off).append hvl).append hd3)⟩)
      refine EfR.skip hd hrun h5 (r.setObjs K qma hor) (qdE K fun o' _ hp'=>qA (fun e=>by subst e;rw[hpr] at hp';cases hp'))
    | bld tb c =>
      simp only at h6;split at h6
      · rename_i ro;obtain⟨ob2,hob2,h6⟩:=Option.bind_eq_some_iff.1 h6
        cases ob2 with
        | arr ri re rxs rfz =>
        simp only[chk_some,req_some,Bool.and_eq_true,Bool.not_eq_true',Option.some.injEq] at h6;obtain⟨⟨hpr,ho1⟩,rfl⟩:=h6;have hrn:Nat.blt 0 rxs.length=true:=by
          simp only[qpz,hob,hob2] at hsb;exact hsb
        obtain rfl:=Nat.eq_of_beq_eq_true ho1;obtain⟨hq,b,hg,e1⟩:=hp;obtain⟨b',pp,vv,hgg,hheap,hpp,hvc⟩:=r.o.rep q _ hob
        have hbb:b'=b:=by rw[hgg] at hg;simpa using hg
        subst hbb;obtain⟨v,hv1,hv2⟩:=hvl.one';have hrun:=qes (a:=a) hi (Row.of hheap) hcs (by rw[hv1];simp) hone ho e1 rfl;rw[hv1] at hrun;have hset:((#[pp,vv]:Array Value).toList.take 1++[v]++(#[pp,vv]:Array Value).toList.drop (1+[v].length)).toArray = #[pp,v]:=rfl;rw[hset] at hrun;have hne:NE v:=by
          obtain⟨_,e2,_⟩:=hv2;obtain⟨us,hown,_⟩:=r.o.rep ro _ hob2;rw[←e2] at hown
          have hrn:0<rxs.length:=by simpa[Nat.blt_eq] using hrn
          rcases hown with ⟨_,_,h0,_⟩ | ⟨b2,cap2,cur2,_,e3,_,h4,_⟩
          · omega
          · exact .inr ⟨_,_,_,e3,by omega⟩
        obtain⟨hor,K⟩:=qik (ob := .bld tb (.os ro)) (cs:=#[pp,v]) r.o ⟨_,hob,rfl⟩ hg rfl (fun K =>
          ⟨b',pp,v,hgg,setRow_heap w b' _ _ tb (0,0) hheap,⟨hpp.1,hne⟩,VR.keep K hv2.below hv2⟩)
        refine EfR.skip hd hrun h5 (r.setObjs K qpU hor) (qdE K fun o' _ hp'=>qA (fun e=>by subst e;rw[hpr] at hp';cases hp'))
        | _=>simp at h6
      · cases h6
    | _=>simp at h6
  | pa q off sz cnt inner i =>
    simp only[storeAt] at h4;obtain⟨ob,hob,h6⟩:=Option.bind_eq_some_iff.1 h4
    cases ob with
    | box cs =>
      simp only at h6;split at h6
      · rename_i y;simp only[chk_some,Bool.not_eq_true',Option.bind_eq_some_iff,Option.some.injEq] at h6;obtain⟨hpr,cs',hset,rfl⟩:=h6;obtain⟨hq,b,hg,hi0,hi1,e1⟩:=hp;obtain⟨b',T,cells,hgg,hheap,hbv⟩:=r.o.rep q _ hob
        have hbb:b'=b:=by rw[hgg] at hg;simpa using hg
        subst hbb;obtain⟨v,hv1,hv2⟩:=hvl.one';obtain⟨hs1,hs2⟩:=(qis hv2 hset hbv).1 ⟨by simpa using hi0,by simpa using hi1⟩;have hrun:=qes (a:=a) hi (Row.of hheap) hcs (by rw[hv1];simp at hs2 ⊢;omega) hone ho e1 rfl;rw[hv1] at hrun;have hset':cells.toList.take (off+i.toNat*sz+inner)++[v]++cells.toList.drop (off+i.toNat*sz+inner+[v].length)=cells.toList.set (off+i.toNat*sz+inner) v:=by
          rw[List.set_eq_take_append_cons_drop,if_pos hs2];simp
        rw[hset'] at hrun
        obtain⟨hor,K⟩:=qik (ob := .box cs') (cs:=(cells.toList.set (off+i.toNat*sz+inner) v).toArray) r.o ⟨_,hob,rfl⟩ hg rfl (fun K =>
          ⟨b',T,_,hgg,setRow_heap w b' cells _ T (0,0) hheap,VRL.keep K hs1.below hs1⟩)
        refine EfR.skip hd hrun h5 (r.setObjs K qma hor) (qdE K fun o' _ hp'=>qA (fun e=>by subst e;rw[hpr] at hp';cases hp'))
      · cases h6
    | _=>simp at h6
  | ep q sz i off =>
    simp only[storeAt] at h4;obtain⟨ob,hob,h6⟩:=Option.bind_eq_some_iff.1 h4
    cases ob with
    | arr ti e xs fz =>
      cases fz with
      | true=>simp at h6
      | false =>
      simp only[chk_some,Bool.and_eq_true,Bool.not_eq_true',Option.bind_eq_some_iff] at h6;obtain⟨⟨hpr,hsz2,hfit,hpure⟩,d,hd2,objs1,hfr,ob1,hob1,h7⟩:=h6;have hsz2:=Nat.eq_of_beq_eq_true hsz2;subst hsz2;have hfit:=Nat.le_of_ble_eq_true hfit
      cases ob1 with
      | arr ti1 e1 xs1 fz1 =>
        cases fz1 with
        | true=>simp at h7
        | false =>
        simp only[Option.some.injEq] at h7;subst h7;obtain⟨hq,b,hg,ep1,ao0,n0,c0,hg0,hil⟩:=hp
        have hil:i<xs.length:=by rw[←ObR.len (r.o.rep q _ hob) hg0];exact hil
        obtain⟨f1,f2⟩:=qaB r.o hfr
        have hob1':objs1[q]?=some (.arr ti e xs false):=by rw[f1.mt q ⟨_,hob1,rfl⟩,hob]
        have r1:Rel F { σ with objs:=objs1 } γ a w:=r.setObjs f1.keep f1.same f1.o;obtain⟨us,hown,hrep⟩:=f1.o.rep q _ hob1';have hrep0:RepL (fun x c=>Rep w (Imm σ.objs γ w) e x [] c) xs us:=by
          obtain⟨us0,hown0,hrep0⟩:=r.o.rep q _ hob;rcases hown with ⟨_,_,h8,_⟩ | ⟨b1,cap1,cur1,h8,h9,h10,h11,h12,h13,h14⟩
          · exact absurd hil (by omega)
          · rcases hown0 with ⟨_,_,h8',_⟩ | ⟨b2,cap2,cur2,h8',h9',h10',h11',h12',h13',h14'⟩
            · exact absurd hil (by omega)
            · have:b1=b2:=by rw[h8] at h8';simpa using h8'
              subst this;rw[←h14,h10.eq h10',h14'];exact hrep0
        have hx0:=hrep0.get (Rep.slen e) (j:=i) (x:=getD' xs i (dflt e)) (by simp[getD',hil]);have hcell0:=qai e hx0;have hdl:((us.drop (i*e.size)).take e.size).length=e.size:=Rep.length e hx0
        have hnew:VRL σ.objs γ w ((cellsOf e (getD' xs i (dflt e))).take off++l++(cellsOf e (getD' xs i (dflt e))).drop (off+l.length)) (((us.drop (i*e.size)).take e.size).take off++(a.eval x).cells.toList++((us.drop (i*e.size)).take e.size).drop (off+l.length)) :=
          ((hcell0.take off).append hvl).append (hcell0.drop _)
        obtain⟨hdr,_⟩:=qaN (S:=Imm objs1 γ w) r.o f1.keep.imm e hd2 hnew (fun o' ho' b' hb'=>f2 o' (by rw[qcL (objs':=[]) e hpure] at ho';exact ho') b' hb');rw[Ty.pure_ids e hpure] at hdr;have hdr:Rep w (Imm objs1 γ w) e d [] _:=hdr;rcases hown with ⟨_,_,h8,_⟩ | ⟨b1,cap1,cur1,h8,h9,h10,h11,h12,h13,h14⟩
        · exact absurd hil (by omega)
        · have hb1:b1=b:=by
            have:=toList_some h8;rw[this] at hg;simpa using hg
          subst hb1;have hcurlen:i*e.size+e.size≤cur1.size:=by
            rw[h13,←Nat.succ_mul];exact Nat.mul_le_mul_right _ (by omega)
          have hrun:=qes (a:=a) hi h10 hcs (off:=i*e.size+off) (by rw[hlen];omega) hone ho ep1 rfl;have hset:=hrep.set (Rep.slen e) hdr i hil
          obtain⟨hor,K⟩:=qik (ob := .arr ti e (xs.set i d) false) (cs:=(cur1.toList.take (i*e.size+off)++(a.eval x).cells.toList++cur1.toList.drop (i*e.size+off+(a.eval x).cells.toList.length)).toArray) f1.o ⟨_,hob1',rfl⟩ hg rfl (fun K=>by
            refine⟨_,.inr ⟨b1,cap1,_,h8,?_,h10.set _ (by simp only[List.size_toArray,List.length_append,List.length_take,List.length_drop,Array.length_toList,hlen];omega),?_,h12,?_,?_⟩,RepL.keep K hset⟩
            · rw[h9];simp
            · simpa using h11
            · simp only[List.size_toArray,List.length_append,List.length_take,List.length_drop,Array.length_toList,hlen];omega
            · rw[hlen];simp only[List.length_set];rw[←h14]
              have hn:i*e.size+e.size≤xs.length*e.size:=by rw[←Nat.succ_mul];exact Nat.mul_le_mul_right _ hil
              have hcl:xs.length*e.size≤cur1.toList.length:=by simp only[Array.length_toList];rw[h13];exact Nat.mul_le_mul_right _ h11
              have hlv:(a.eval x).cells.toList.length=l.length:=hlen;generalize (a.eval x).cells.toList=vs at hlv ⊢;rw[←hlv] at hfit ⊢
              exact qnp cur1.toList vs (xs.length*e.size) (i*e.size) e.size off hn hcl hfit)
          have hK:Keep σ.objs γ w (objs1.set q (.arr ti e (xs.set i d) false)) γ (w.setRow b1 _) σ.objs.length:=f1.keep.trans (by rw[←f1.len];exact K);refine EfR.skip hd hrun h5 (r.setObjs hK (f1.same.trans (fun o' ti' e' xs' fz' hx' hlt'=>?_) (by rw[f1.len];exact Nat.le_refl _)) hor) (qdE hK fun o' ho' hp'=>?_)
          · rw[List.getElem?_set] at hx';by_cases e2:q=o'
            · subst e2;rw[if_pos rfl,if_pos (qz hob1')] at hx';cases hx';exact⟨_,_,_,_,hob1',by simp⟩
            · rw[if_neg e2] at hx';exact⟨_,_,_,_,hx',rfl⟩
          · rw[qA (fun e2=>by subst e2;rw[hpr] at hp';cases hp')];exact f1.prot o' hp'
      | _=>simp at h7
    | hr ti pt qt jj xs hole =>
      by_cases hoff:Nat.blt pt.size off=true
      · simp only[hoff,cond_true,chk_some,Bool.and_eq_true,Bool.not_eq_true',Option.bind_eq_some_iff,Option.some.injEq] at h6;obtain⟨⟨hpr,hsz2,hfit,hflat⟩,d,hd2,rfl⟩:=h6;obtain rfl:=Nat.eq_of_beq_eq_true hsz2;have hfit:=Nat.le_of_ble_eq_true hfit
        have hoff:pt.size<off:=by rwa [Nat.blt_eq] at hoff
        have hil:i<xs.length:=by
          obtain⟨_,_,_,_,_,_,_,hg0,hil⟩:=hp;rw[←qoV r.o hob hg0];exact hil
        have hgd:getD' xs i (dflt (eT pt qt))=xs[i]:=getE (A:=El pt qt) hil;rw[hgd] at hd2 h5
        refine qpo r ho hd hi hcs hone hob hpr hp (by rw[hlen];exact hfit) (y:=(xs[i],hvAt (hole.map fun h=>(h.1,(γ h.2).1)) i)) (y':=((xs[i].1,xs[i].2.1,d),hvAt (hole.map fun h=>(h.1,(γ h.2).1)) i)) (by simp) (by rw[qfw,List.getElem?_eq_getElem hil];rfl) (hz_set _ _ _ _) (fun c hc=>?_) (fun k' r' e=>by
          obtain⟨_,_,_,hh⟩:=r.o.rep q _ hob;rw[List.length_set]
          exact hh k' r' e) h5
        obtain⟨c1,u,c2,e1,e2,e3,e4,e5⟩:=hc;have hl1:=Rep.length pt e2;have hl2:=Rep.length qt e3;have hnew:=((qai qt e3).take (off-(pt.size+1))).append hvl |>.append ((qai qt e3).drop (off-(pt.size+1)+l.length));obtain⟨hdr,_⟩:=qaN (S:=Imm σ.objs γ w) r.o (Sp.le.refl _) qt hd2 hnew (fun o' ho'=>by rw[qnF qt _ hflat] at ho';cases ho');rw[Ty.pure_ids qt (qi7 qt hflat)] at hdr;refine⟨c1,u,_,?_,e2,hdr,e4,e5⟩;subst e1;rw[hlen];have k1:(c1++u::c2).take off=c1++u::c2.take (off-(pt.size+1)):=by
          rw[List.take_append,List.take_of_length_le (by omega),show off-c1.length=(off-(pt.size+1))+1 by omega,List.take_succ_cons]
        have k2:(c1++u::c2).drop (off+l.length)=c2.drop (off-(pt.size+1)+l.length):=by
          rw[List.drop_append,List.drop_of_length_le (by omega),List.nil_append,show off+l.length-c1.length=(off-(pt.size+1)+l.length)+1 by omega,List.drop_succ_cons]
        rw[k1,k2];simp
      · simp only[Bool.eq_false_iff.2 hoff,cond_false] at h6;split at h6
        · rename_i r' k' r0;obtain⟨ob',hob',h7⟩:=Option.bind_eq_some_iff.1 h6
          cases ob' with
          | arr j' e' ys fz =>
            split at h7
            · rename_i hm;cases hm;simp only[chk_some,Bool.and_eq_true,Bool.not_eq_true',Option.some.injEq] at h7;obtain⟨⟨hpr,hsz2,hoff2,hj⟩,rfl⟩:=h7;obtain rfl:=Nat.eq_of_beq_eq_true hsz2;obtain rfl:=Nat.eq_of_beq_eq_true hoff2;have hik:i=k':=by
                have:(Nat.blt pt.size pt.size||Nat.beq i k')=true:=by simpa[qpz,hob] using hsb
                simp only[Bool.or_eq_true] at this;rcases this with h | h
                · rw[Nat.blt_eq] at h;exact absurd h (Nat.lt_irrefl _)
                · exact Nat.eq_of_beq_eq_true h
              subst hik;have hil:i<xs.length:=by
                obtain⟨_,_,_,_,_,_,_,hg0,hil⟩:=hp;rw[←qoV r.o hob hg0];exact hil
              obtain⟨v',hvv,hvr⟩:=hvl.one';have hvv2:v'=(γ r').1:=hvr.2.1
              have hlen1:(a.eval x).cells.toList.length=1:=by rw[hvv];rfl
              refine qpo r ho hd hi hcs hone hob hpr hp (by rw[hlen1];omega) (y:=(xs[i],some (γ r0).1)) (y':=(xs[i],some (γ r').1)) (hole':=some (i,r')) rfl (by rw[qfw,List.getElem?_eq_getElem hil];simp[hvAt,Nat.beq_refl]) (hz_hole i _ _ xs (List.getElem?_eq_getElem hil)) (fun c hc=>?_) (fun k2 r2 e=>by
                cases e
                exact⟨hil,by rw[←hvv2];exact hvr⟩) h5
              obtain⟨c1,u,c2,e1,e2,e3,e4,e5⟩:=hc;have hl1:=Rep.length pt e2;refine⟨c1,v',c2,?_,e2,e3,?_,hvv2⟩
              · subst e1;rw[hvv];rw[List.take_append,List.take_of_length_le (by omega),hl1,Nat.sub_self,List.take_zero,List.drop_append,List.drop_of_length_le (by simp;omega)];simp[hl1]
              · obtain⟨_,_,ao,n,c,rfl⟩:=hvr;rfl
            · cases h7
          | _=>simp at h7
        · cases h6
    | _=>simp at h6
  | fa y off=>exact ef_storeN r ho hd hi hvl hone hcs hp hsb h4 h5
  | _=>simp[storeAt] at h4
end
end Go.Den
namespace Go.Den
open Go.Eng
set_option linter.unusedVariables false
set_option linter.unusedSectionVars false
set_option linter.unusedSimpArgs false
variable [CT : Ctx]

theorem qem {vs:List Value} {c:Cv} (h:cv1 (cvs vs)=some c):∃v,vs=[v]∧c = .v v:=by
  cases vs with
  | nil=>cases h
  | cons v r=>cases r with
    | nil=>simp only[cvs,cv1,Option.some.injEq] at h;exact⟨v,rfl,h.symm⟩
    | cons _ _=>cases h
theorem qrn:∀(vs:List Value) (n:Nat),(cvs vs).take n=cvs (vs.take n)
  | [],n=>by simp[cvs]
  | v::r,0=>by simp[cvs]
  | v::r,n+1=>by simp[cvs,qrn r n]
theorem qrI:∀(vs:List Value) (n:Nat),(cvs vs).drop n=cvs (vs.drop n)
  | [],n=>by simp[cvs]
  | v::r,0=>by simp[cvs]
  | v::r,n+1=>by simp[cvs,qrI r n]
theorem zero_rep {w:World} {S:Sp} (τ:Ty):∀ {x:D τ} {vs:List Value},toD [] τ (cvs vs)=some x→Rep w S τ x [] vs:=by
  induction τ with
  | int k =>
    intro x vs h;obtain⟨c,h1,h2⟩:=Option.bind_eq_some_iff.1 h;obtain⟨v,rfl,rfl⟩:=qem h1;have:=qfC h2;simp only[Cv.v.injEq] at this;exact⟨rfl,by rw[this]⟩
  | bool =>
    intro x vs h;obtain⟨c,h1,h2⟩:=Option.bind_eq_some_iff.1 h;obtain⟨v,rfl,rfl⟩:=qem h1;have:=qfD h2;simp only[Cv.v.injEq] at this;exact⟨rfl,by rw[this]⟩
  | str =>
    intro x vs h;obtain⟨c,h1,h2⟩:=Option.bind_eq_some_iff.1 h;obtain⟨v,rfl,rfl⟩:=qem h1;have:=qhg h2;simp only[Cv.v.injEq] at this;exact⟨rfl,by rw[this]⟩
  | nil =>
    intro x vs h
    cases vs with
    | nil=>exact⟨rfl,rfl⟩
    | cons _ _=>cases h
  | sl e _ =>
    intro x vs h;obtain⟨c,h1,h2⟩:=Option.bind_eq_some_iff.1 h;obtain⟨v,rfl,rfl⟩:=qem h1;obtain⟨rfl,rfl⟩:=ofSl_v h2;exact⟨rfl,none,0,[],rfl,Nat.le_refl _,rfl,fun hn=>absurd rfl hn⟩
  | osl i e _ =>
    intro x vs h;obtain⟨c,h1,h2⟩:=Option.bind_eq_some_iff.1 h;obtain⟨v,rfl,rfl⟩:=qem h1;obtain⟨rfl,rfl⟩:=ofOsl_v h2;exact⟨_,[],rfl,.inl ⟨rfl,⟨_,rfl⟩,rfl,rfl⟩,rfl⟩
  | onl i e _ =>
    intro x vs h;obtain⟨c,h1,h2⟩:=Option.bind_eq_some_iff.1 h;obtain⟨v,rfl,rfl⟩:=qem h1;obtain⟨rfl,rfl⟩:=ofOnl_v h2;exact .inl ⟨rfl,rfl,rfl⟩
  | obx e _ =>
    intro x vs h;obtain⟨bl,h1,_⟩:=Option.bind_eq_some_iff.1 h;obtain⟨o,off,_,_,hob⟩:=qgu h1;simp at hob
  | err =>
    intro x vs h;obtain⟨c,h1,h2⟩:=Option.bind_eq_some_iff.1 h;obtain⟨v,rfl,rfl⟩:=qem h1;exact⟨rfl,v,rfl,qnb (objs:=[]) (γ:=⟨fun _=>(undef,none),fun _=>False,fun _=>none,[],fun _ _=>none⟩) (w:=w) h2 rfl⟩
  | bld t i =>
    intro x vs h;obtain⟨c,h1,_⟩:=Option.bind_eq_some_iff.1 h;obtain⟨o,off,_,_,hob⟩:=qow h1;simp at hob
  | ref =>
    intro x vs h;obtain⟨c,h1,h2⟩:=Option.bind_eq_some_iff.1 h;obtain⟨v,rfl,rfl⟩:=qem h1;exact⟨rfl,qmM (objs:=[]) (γ:=⟨fun _=>(undef,none),fun _=>False,fun _=>none,[],fun _ _=>none⟩) (w:=w) (fun _ _ h=>by cases h) h2 rfl⟩
  | ifc t e _ =>
    intro x vs h;obtain⟨c,h1,h2⟩:=Option.bind_eq_some_iff.1 h;obtain⟨v,rfl,rfl⟩:=qem h1;cases h2
  | hrl i p q j b _ _ =>
    intro x vs h;obtain⟨c,h1,h2⟩:=Option.bind_eq_some_iff.1 h;obtain⟨v,rfl,rfl⟩:=qem h1;cases h2
  | omp k v _ _ =>
    intro x vs h;obtain⟨c,h1,h2⟩:=Option.bind_eq_some_iff.1 h;obtain⟨v,rfl,rfl⟩:=qem h1;cases h2
  | st f q ihf ihq =>
    intro x vs h;simp only[toD,Option.bind_eq_some_iff] at h;obtain⟨x1,h1,x2,h2,hx⟩:=h;have hx:(x1,x2)=x:=Option.some.inj hx;subst hx;rw[qrn] at h1;rw[qrI] at h2;exact⟨_,_,[],[],(List.take_append_drop f.size vs).symm,rfl,ihf h1,ihq h2⟩
theorem qdF (z:Array Value) (hz:0<z.size):∀n:Nat,(madeCells z (n*z.size)).toList=(List.replicate n z.toList).flatten
  | 0=>by simp[madeCells]
  | n+1=>by
    have ih:=qdF z hz n;simp only[madeCells,Array.toList_map,Array.toList_range] at ih ⊢;rw[List.replicate_succ,List.flatten_cons,←ih,show(n+1)*z.size=z.size+n*z.size by rw[Nat.add_mul];omega,List.range_add,List.map_append,List.map_map];congr 1
    · apply List.ext_getElem
      · simp
      · intro i h1 h2;simp at h2;simp[Nat.mod_eq_of_lt h2,h2]
    · apply List.map_congr_left;intro i _;simp
section
variable {P : Program} {env : Env} {F : Fr} {σ : AState} {γ : Gh} {a : Act} {w : World} {o : Oper} {α : Type} {k : AState → Option α} {res : α} {Q : Exit → Act → World → Prop}

theorem qbi {i:TypeId} {τ:Ty} {x:D τ} (h:qgl P i τ=some x):∃inf z,P.info? i=some inf∧inf.zero=some z∧inf.size=τ.size∧z.cells.size=τ.size∧0<τ.size∧∀(w:World) (S:Sp),Rep w S τ x [] z.cells.toList:=by
  simp only[qgl,Option.bind_eq_some_iff,chk_some,Bool.and_eq_true,Bool.not_eq_true'] at h;obtain⟨inf,h1,z,h2,⟨h3,h4,h5⟩,h6⟩:=h;have h3:=Nat.eq_of_beq_eq_true h3;refine⟨inf,z,h1,h2,h3,Nat.eq_of_beq_eq_true h4,?_,fun w S=>zero_rep τ h6⟩;rcases Nat.eq_zero_or_pos τ.size with h | h
  · rw[h3,h] at h5;cases h5
  · exact h
theorem ef_row {objs1:List OB} {i:TypeId} {τ:Ty} {xs:List (D τ)} {cells:Array Value} {σ':AState} (r:Rel F σ γ a w) (f1:Frz F σ.prO σ.objs γ w objs1) {cap:Nat} (hcap:xs.length≤cap) (hcm:cap≤maxLen) (hsz:cells.size=cap*τ.size)
    (hrep:RepL (fun x c=>Rep w (Imm objs1 γ w) τ x [] c) xs (cells.toList.take (xs.length*τ.size)))
    (hrun:(execOp a.eval o).run P w = .ok (.value (.slice (some ⟨w.heap.size,0,none⟩) xs.length cap)) (w.alloc (.cells cells i)))
    (hput:AState.new { σ with objs:=objs1 } o.dst (.arr i τ xs false) (.c (.os objs1.length))=some σ') (hk:k σ'=some res):EfA P F σ γ a w o k res Q:=by
  have hc:=qb4 w (.cells cells i)
  obtain⟨ho,K⟩:=qdf (news:=[.arr i τ xs false]) (gs:=[(.slice (some ⟨w.heap.size,0,none⟩) xs.length cap,some w.heap.size)]) (M:=[w.heap.size]) f1.o hc rfl (by simp) (by simp) (fun b hb=>by
      simp at hb;subst hb;exact⟨Nat.le_refl _,by rw[qbu];omega⟩) (fun K j ob g hj hg=>by
      obtain⟨rfl,rfl⟩:=qcT hj;obtain⟨_,rfl⟩:=qcT hg
      exact⟨⟨_,.inr ⟨w.heap.size,cap,cells,rfl,rfl,Row.of (by have:=qhb w cells i;unfold Blk at this;simpa using this),hcap,hcm,hsz,rfl⟩,RepL.keep K hrep⟩,rfl⟩)
  have hK:Keep σ.objs γ w (objs1++[.arr i τ xs false]) _ _ σ.objs.length:=f1.keep.trans (by rw[←f1.len];exact K);obtain⟨h1,h2⟩:=qbm r hK ho (f1.same.trans qaW (by rw[f1.len];exact Nat.le_refl _)) (fun o' ho' hp=>by rw[List.getElem?_append_left (by rw[f1.len];exact ho')];exact f1.prot o' hp) hput (v := .slice (some ⟨w.heap.size,0,none⟩) xs.length cap)
    ⟨by simp,by have:=qbt (γ:=γ) (n:=objs1.length) (j:=0) (gs:=[(Value.slice (some ⟨w.heap.size,0,none⟩) xs.length cap,some w.heap.size)]) rfl;rw[Nat.add_zero] at this;rw[this],_,_,_,rfl⟩
  exact EfA.val hrun hc hk h1 h2
theorem ef_rowH {objs1:List OB} {i:TypeId} {p q:Ty} {j:TypeId} {xs:List (El p q)} {cells:Array Value} {σ':AState} (r:Rel F σ γ a w) (f1:Frz F σ.prO σ.objs γ w objs1) {cap:Nat} (hcap:xs.length≤cap) (hcm:cap≤maxLen) (hsz:cells.size=cap*(p.size+(1+q.size)))
    (hrep:RepL (ElR (fun x c=>Rep w (Imm objs1 γ w) p x [] c) (fun x c=>Rep w (Imm objs1 γ w) q x [] c) (KidI w (Imm objs1 γ w))) (hz none xs) (cells.toList.take (xs.length*(p.size+(1+q.size)))))
    (hrun:(execOp a.eval o).run P w = .ok (.value (.slice (some ⟨w.heap.size,0,none⟩) xs.length cap)) (w.alloc (.cells cells i)))
    (hput:AState.new { σ with objs:=objs1 } o.dst (.hr i p q j xs none) (.c (.os objs1.length))=some σ') (hk:k σ'=some res):EfA P F σ γ a w o k res Q:=by
  have hc:=qb4 w (.cells cells i)
  obtain⟨ho,K⟩:=qdf (news:=[.hr i p q j xs none]) (gs:=[(.slice (some ⟨w.heap.size,0,none⟩) xs.length cap,some w.heap.size)]) (M:=[w.heap.size]) f1.o hc rfl (by simp) (by simp) (fun b hb=>by
      simp at hb;subst hb;exact⟨Nat.le_refl _,by rw[qbu];omega⟩) (fun K j' ob g hj hg=>by
      obtain⟨rfl,rfl⟩:=qcT hj;obtain⟨_,rfl⟩:=qcT hg
      exact⟨⟨_,.inr ⟨w.heap.size,cap,cells,rfl,rfl,Row.of (by have:=qhb w cells i;unfold Blk at this;simpa using this),hcap,hcm,hsz,rfl⟩,
        hrep.mono (ElR.mono (fun x c=>Rep.keep K) (fun x c=>Rep.keep K) fun ks v hk=>hk.mono K.imm K.heap),fun _ _ e=>by cases e⟩,rfl⟩)
  have hK:Keep σ.objs γ w (objs1++[.hr i p q j xs none]) _ _ σ.objs.length:=f1.keep.trans (by rw[←f1.len];exact K);obtain⟨h1,h2⟩:=qbm r hK ho (f1.same.trans qaW (by rw[f1.len];exact Nat.le_refl _)) (fun o' ho' hp=>by rw[List.getElem?_append_left (by rw[f1.len];exact ho')];exact f1.prot o' hp) hput (v := .slice (some ⟨w.heap.size,0,none⟩) xs.length cap)
    ⟨by simp,by have:=qbt (γ:=γ) (n:=objs1.length) (j:=0) (gs:=[(Value.slice (some ⟨w.heap.size,0,none⟩) xs.length cap,some w.heap.size)]) rfl;rw[Nat.add_zero] at this;rw[this],_,_,_,rfl⟩
  exact EfA.val hrun hc hk h1 h2
theorem qfh {n b:Nat} (h:room n b=true) (hb:Nat.beq b 0=false):n*b≤140737488355328∧n≤140737488355328:=by
  have h1:=Nat.le_of_ble_eq_true h;have h2:0<b:=by
    rcases Nat.eq_zero_or_pos b with h | h
    · subst h;cases hb
    · exact h
  exact⟨h1,Nat.le_trans (Nat.le_mul_of_pos_right n h2) h1⟩
theorem ef_make (r:Rel F σ γ a w) {t:TypeId} {l c:Operand} (ho:o.op = .makeSlice t l c) (h:makeE P σ o t l c k=some res):EfA P F σ γ a w o k res Q:=by
  simp only[makeE,Option.bind_eq_some_iff,chk_some,req_some,Bool.and_eq_true,Bool.not_eq_true'] at h;obtain⟨i,hu,τ,hτ,z,hz,u,h1,⟨kn,n⟩,h2,v,h3,⟨km,m⟩,h4,inf,hinf,⟨hby,hpure⟩,⟨hn0,hnm,hroom⟩,σ',h5,h6⟩:=h;have hu:=qG hu;obtain⟨inf',zv,hi,hzv,hsz,hzs,hpos,hzr⟩:=qbi hz;rw[hinf] at hi;cases hi
  have hnm:n=m:=by simpa using hnm
  subst hnm
  have hn0:0≤n:=by simpa using hn0
  obtain⟨hr1,hr2⟩:=qfh hroom hby;have e1:=qbv r (qj σ) h1 h2;have e2:=qbv r (qj σ) h3 h4;have hb2:(inf.bytes:Int)*n≤281474976710656:=by
    have:((n.toNat*inf.bytes:Nat):Int)≤(140737488355328:Nat):=Int.ofNat_le.2 hr1;rw[Int.natCast_mul,Int.toNat_of_nonneg hn0,Int.mul_comm] at this;omega
  have hrun0:=run_make (P:=P) w t i inf zv hu hinf hzv kn km n n hn0 (Int.le_refl _) hb2 (by omega);refine ef_row (xs:=List.replicate n.toNat z) (cells:=madeCells zv.cells (n.toNat*inf.size)) (cap:=n.toNat) r (Frz.refl r.o σ.prO) (by simp) (by unfold maxLen;omega) (by simp[madeCells,hsz]) ?_ ?_ h5 h6
  · rw[hsz,←hzs,qdF _ (by omega)];rw[List.take_of_length_le]
    · exact RepL.replicate (R:=fun x c=>Rep w (Imm σ.objs γ w) τ x [] c) (hzr w _) _
    · simp[hzs]
  · obtain⟨dst,op,type,pos,after,guard⟩:=o;simp only at ho;subst ho;simp only[execOp,Sem.run_bind,e1,e2,hrun0,Result.andThen_ok,Sem.run_pure,List.length_replicate]
theorem qo6 {S:Sp} {τ:Ty} (r:ORel F σ.objs γ w) (hS:Sp.le (Imm σ.objs γ w) S) (hpure:τ.pure=true):∀ {ps:List (Nat×List Cv)} {vals:List (Nat×Value)} {xs ys:List (D τ)} {cells:Array Value},litE σ.objs τ xs ps=some ys→RepL (fun x c=>Rep w S τ x [] c) xs cells.toList→ps.length=vals.length →
    (∀(j:Nat) (p:Nat×Value) (q:Nat×List Cv),vals[j]?=some p→ps[j]?=some q→q.1=p.1∧VRL σ.objs γ w q.2 p.2.cells.toList)→(∀o∈qor τ ps,∀b,(γ o).2=some b→S b) →
    ∃out,Instr.fill (fun i=>some (i*τ.size,τ.size)) cells vals=some out∧RepL (fun x c=>Rep w S τ x [] c) ys out.toList∧ys.length=xs.length∧out.size=cells.size
  | [],[],xs,ys,cells,h,hv,_,_,_=>by simp only[litE,Option.some.injEq] at h;subst h;exact⟨cells,rfl,hv,rfl,rfl⟩
  | (i,c)::ps,(i',v)::vals,xs,ys,cells,h,hv,hl,hp,hids=>by
    simp only[litE,Option.bind_eq_some_iff,chk_some] at h;obtain⟨d,h1,h2,h4⟩:=h
    have h2:i<xs.length:=by simpa[Nat.blt_eq] using h2
    obtain⟨rfl,hc⟩:=hp 0 _ _ rfl rfl;obtain⟨hd,_⟩:=qaN (S:=S) r hS τ h1 hc (fun o ho=>hids o (by rw[qcL (objs':=[]) τ hpure] at ho;simp[qor,ho]));rw[Ty.pure_ids τ hpure] at hd;have hd:Rep w S τ d [] v.cells.toList:=hd;have lc:=Rep.length τ hd;have lx:=hv.length (Rep.slen τ)
    have hz:v.cells.size=τ.size:=by simpa using lc
    have hfit:i*τ.size+τ.size≤cells.size:=by
      have:i*τ.size+τ.size≤xs.length*τ.size:=by rw[←Nat.succ_mul];exact Nat.mul_le_mul_right _ h2
      simp only[Array.length_toList] at lx;omega
    have hf:(v.cells.zipIdx.foldl (fun cs (p:Value×Nat)=>cs.setIfInBounds (i*τ.size+p.2) p.1) cells).toList=cells.toList.take (i*τ.size)++v.cells.toList++cells.toList.drop (i*τ.size+v.cells.toList.length):=by
      have:=qoh (i*τ.size) v.cells.toList cells 0 (by simp;omega);simp only[Nat.add_zero] at this;rw[←this];rw[←Array.foldl_toList];congr 2;simp
    have hset:=hv.set (Rep.slen τ) hd i h2;rw[←lc,lc] at hf;obtain⟨out,h5,h6,h7,h8⟩:=qo6 (cells:=v.cells.zipIdx.foldl (fun cs (p:Value×Nat)=>cs.setIfInBounds (i*τ.size+p.2) p.1) cells) r hS hpure h4 (by rw[hf];exact hset) (by simpa using hl) (fun j p q hj hq=>hp (j+1) p q (by simpa using hj) (by simpa using hq)) (fun o ho=>hids o (by simp[qor,ho]));refine⟨out,?_,h6,by simpa using h7,?_⟩
    · simp only[Instr.fill];rw[if_neg (by simp[hz];omega)];exact h5
    · rw[h8];have:=congrArg List.length hf;simp only[Array.length_toList,List.length_append,List.length_take,List.length_drop] at this;omega
  | [],_::_,_,_,_,_,_,hl,_,_=>by simp at hl
  | _::_,[],_,_,_,_,_,hl,_,_=>by simp at hl
theorem qrt (r:Rel F σ γ a w) {t:TypeId} {len:Nat} {parts:Array (Nat×Operand)} (ho:o.op = .buildSlice t len parts) (h:buildE P σ o t len parts k=some res):EfA P F σ γ a w o k res Q:=by
  simp only[buildE,Option.bind_eq_some_iff,chk_some,Bool.and_eq_true] at h;obtain⟨i,hu,τ,hτ,z,hz,ps,h1,⟨hle,hpure⟩,xs,h2,objs1,h3,σ',h4,h5⟩:=h;have hu:=qG hu;obtain⟨inf,zv,hi,hzv,hsz,hzs,hpos,hzr⟩:=qbi hz;obtain⟨e1,h6⟩:=qg8 r (qj σ) h1;obtain⟨f1,f2⟩:=qaB r.o h3;have hle:=Nat.le_of_ble_eq_true hle;have hmade:(madeCells zv.cells (len*inf.size)).toList=(List.replicate len zv.cells.toList).flatten:=by
    rw[hsz,←hzs];exact qdF _ (by omega) len
  obtain⟨out,h7,h8,h9,h10⟩:=qo6 (S:=Imm objs1 γ w) (cells:=madeCells zv.cells (len*inf.size)) (vals:=(parts.map fun (p:Nat×Operand)=>(p.1,a.eval p.2)).toList) r.o f1.keep.imm hpure h2 (by
      rw[hmade];exact RepL.replicate (R:=fun x c=>Rep w (Imm objs1 γ w) τ x [] c) (hzr w _) len) (by simp[e1]) (fun j p q hp hq=>by
    simp only[Array.toList_map,List.getElem?_map,Option.map_eq_some_iff] at hp;obtain⟨p',hp',rfl⟩:=hp
    exact h6 j p' q hp' hq) f2
  have hlen:xs.length=len:=by simpa using h9
  have hosz:out.size=len*τ.size:=by rw[h10];simp[madeCells,hsz]
  refine ef_row (xs:=xs) (cells:=out) (cap:=len) r f1 (by omega) ?_ hosz ?_ ?_ h4 h5
  · unfold maxLen;have:len≤len*τ.size:=Nat.le_mul_of_pos_right len hpos;omega
  · rw[List.take_of_length_le]
    · exact h8
    · simp only[Array.length_toList,hosz,hlen];exact Nat.le_refl _
  · obtain⟨dst,op,type,pos,after,guard⟩:=o;simp only at ho;subst ho;rw[hlen]
    have hsr:(sizeOf i).run P w = .ok inf.size w:=by simp[sizeOf,typeInfo,hi,go_sem]
    have hzr':(zeroValue i).run P w = .ok zv w:=by simp[zeroValue,typeInfo,hi,hzv,go_sem]
    rw[←hsz] at h7 hle hpos;have hb:(Instr.buildSlice t len (parts.map fun (p:Nat×Operand)=>(p.1,a.eval p.2))).run P w = .ok (.slice (some ⟨w.heap.size,0,none⟩) len len) (w.alloc (.cells out i)):=by
      generalize (parts.map fun (p:Nat×Operand)=>(p.1,a.eval p.2))=vals at h7
      have hng:¬(len*inf.size>2 ^ 24):=by omega
      unfold Instr.buildSlice;simp only[Sem.run_bind,run_underlying hu,Result.andThen_ok,hsr];rw[if_neg hng];by_cases h0:len*inf.size=0
      · have hl0:len=0:=by
          rcases Nat.mul_eq_zero.1 h0 with h | h
          · exact h
          · omega
        subst hl0;simp only[Nat.zero_mul,if_true,Sem.run_pure,Result.andThen_ok,Sem.run_bind]
        have hm0:madeCells zv.cells 0 = #[]:=by simp[madeCells]
        rw[Nat.zero_mul,hm0] at h7;simp[h7,newRow,go_sem]
      · simp only[h0,if_false,Sem.run_bind,hzr',Result.andThen_ok,Sem.run_pure];have hm1:((Array.range (len*inf.size)).map (zv.cells[· % zv.cells.size]!))=madeCells zv.cells (len*inf.size):=rfl;rw[hm1,h7];simp[newRow,go_sem]
    simp only[execOp,Sem.run_bind];rw[hb];rfl
theorem fill_one {cells:Array Value} {v:Value} {sz:Nat} (hv:v.cells.size=sz) (hc:cells.size=sz):∃out,Instr.fill (fun i=>some (i*sz,sz)) cells [(0,v)]=some out∧out.toList=v.cells.toList:=by
  refine⟨v.cells.zipIdx.foldl (fun cs (p:Value×Nat)=>cs.setIfInBounds (0*sz+p.2) p.1) cells,?_,?_⟩
  · simp only[Instr.fill];rw[if_neg (by simp[hv];omega)]
  · have:=qoh (0*sz) v.cells.toList cells 0 (by simp;omega);simp only[Nat.add_zero] at this;rw[←Array.foldl_toList]
    have e:v.cells.zipIdx.toList=v.cells.toList.zipIdx:=by simp
    rw[e,this];simp only[Nat.zero_mul,Nat.zero_add,List.take_zero,List.nil_append,Array.length_toList];rw[List.drop_of_length_le (by simp;omega),List.append_nil]
theorem qr7 {c:Option Cv} (h:nilC0 c=true):c=some (.v (.slice none 0 0)):=by
  unfold nilC0 at h;split at h
  · rfl
  · cases h
theorem qoZ (r:Rel F σ γ a w) {t:TypeId} {len:Nat} {parts:Array (Nat×Operand)} (ho:o.op = .buildSlice t len parts) (h:buildH P σ o t len parts k=some res):EfA P F σ γ a w o k res Q:=by
  simp only[buildH,Option.bind_eq_some_iff] at h;obtain⟨i,hu,τ,hτ,s,hs,j,hj,z,hz,h⟩:=h;split at h
  rotate_left
  · cases h
  rename_i x hparts;simp only[Option.bind_eq_some_iff,chk_some,Bool.and_eq_true] at h;obtain⟨pv,h1,l,h2,⟨hlen,hle,hll,hcs,hpp,hqp,hnil⟩,d1,hd1,d2,hd2,objs1,h3,σ',h4,h5⟩:=h;obtain rfl:=Nat.eq_of_beq_eq_true hlen;have hll:=Nat.eq_of_beq_eq_true hll;have hu:=qG hu;obtain⟨inf,zv,hi,hzv,hsz,hzs,hpos,hzr⟩:=qbi hz;have hE:(eT s.1 s.2).size=s.1.size+(1+s.2.size):=rfl;rw[hE] at hsz hzs hpos hll;have hvl:=qbg h2 (qg r (qj σ) h1);have hvlen:=hvl.length;have hnil:=qr7 hnil;obtain⟨u,hu1,hu2⟩:=hvl.get hnil;have hu2:u = .slice none 0 0:=hu2;subst hu2;obtain⟨f1,f2⟩:=qaB r.o h3
  obtain⟨hr1,_⟩:=qaN (S:=Imm objs1 γ w) r.o f1.keep.imm s.1 hd1 (hvl.take s.1.size) (fun o' ho'=>f2 o' (by rw[qcL (objs':=[]) s.1 hpp] at ho';exact List.mem_append_left _ ho'));rw[Ty.pure_ids s.1 hpp] at hr1;have hr1:Rep w (Imm objs1 γ w) s.1 d1 [] _:=hr1;obtain⟨hr2,_⟩:=qaN (S:=Imm objs1 γ w) r.o f1.keep.imm s.2 hd2 (hvl.drop (s.1.size+1)) (fun o' ho'=>f2 o' (by rw[qcL (objs':=[]) s.2 hqp] at ho';exact List.mem_append_right _ ho'));rw[Ty.pure_ids s.2 hqp] at hr2;have hr2:Rep w (Imm objs1 γ w) s.2 d2 [] _:=hr2
  have hp:parts = #[(0,x)]:=by rw[←Array.toList_inj,hparts]
  subst hp
  have hcl:(a.eval x).cells.toList.length=s.1.size+(1+s.2.size):=by rw[hvlen,hll]
  have hcsz:(a.eval x).cells.size=s.1.size+(1+s.2.size):=by rw[←hcl,Array.length_toList]
  have hmsz:(madeCells zv.cells (1*inf.size)).size=s.1.size+(1+s.2.size):=by simp[madeCells,hsz]
  obtain⟨out,h7,h8⟩:=fill_one (sz:=s.1.size+(1+s.2.size)) hcsz hmsz
  have hosz:out.size=s.1.size+(1+s.2.size):=by rw[←Array.length_toList,h8,hcl]
  have hsplit:(a.eval x).cells.toList=(a.eval x).cells.toList.take s.1.size ++ .slice none 0 0::(a.eval x).cells.toList.drop (s.1.size+1):=by
    have hlt:=(List.getElem?_eq_some_iff.1 hu1).1;have h9:=List.drop_eq_getElem_cons hlt;rw[(List.getElem?_eq_some_iff.1 hu1).2] at h9;rw[←h9,List.take_append_drop]
  refine ef_rowH (xs:=[(d1,[],d2)]) (cells:=out) (cap:=1) r f1 (Nat.le_refl _) (by unfold maxLen;omega) (by rw[hosz,Nat.one_mul]) ?_ ?_ h4 h5
  · rw[List.length_singleton,Nat.one_mul,h8,List.take_of_length_le (by rw[hcl];exact Nat.le_refl _)];exact⟨_,[],(List.append_nil _).symm,⟨_,_,_,hsplit,hr1,hr2,rfl,.inl ⟨rfl,rfl⟩⟩,rfl⟩
  · obtain⟨dst,op,type,pos,after,guard⟩:=o;simp only at ho;subst ho
    have hsr:(sizeOf i).run P w = .ok inf.size w:=by simp[sizeOf,typeInfo,hi,go_sem]
    have hzr':(zeroValue i).run P w = .ok zv w:=by simp[zeroValue,typeInfo,hi,hzv,go_sem]
    rw[←hsz] at h7 hpos;have hb:(Instr.buildSlice t 1 (#[(0,x)].map fun (p:Nat×Operand)=>(p.1,a.eval p.2))).run P w = .ok (.slice (some ⟨w.heap.size,0,none⟩) 1 1) (w.alloc (.cells out i)):=by
      have hng:¬(1*inf.size>2 ^ 24):=by
        have hle:=Nat.le_of_ble_eq_true hle;rw[hE] at hle;omega
      unfold Instr.buildSlice;simp only[Sem.run_bind,run_underlying hu,Result.andThen_ok,hsr];rw[if_neg hng]
      have h0:¬1*inf.size=0:=by omega
      simp only[h0,if_false,Sem.run_bind,hzr',Result.andThen_ok,Sem.run_pure];have hm1:((Array.range (1*inf.size)).map (zv.cells[· % zv.cells.size]!))=madeCells zv.cells (1*inf.size):=rfl
      have hv1:(#[(0,x)].map fun (p:Nat×Operand)=>(p.1,a.eval p.2)).toList=[(0,a.eval x)]:=by simp
      rw[hm1,hv1,h7];simp[newRow,go_sem]
    simp only[execOp,Sem.run_bind];rw[hb];rfl
end
end Go.Den
