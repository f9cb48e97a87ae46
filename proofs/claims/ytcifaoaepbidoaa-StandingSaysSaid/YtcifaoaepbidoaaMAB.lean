/- Several texts in one: Den4, Den5, Den6, Den7, Den8. -/
import Derived.Test.YtcifaoaepbidoaaMAA
import Derived.Laws.Cover3
import Derived.Laws.Pointers
import Derived.WideLaws
namespace Go.Den
open Go.Eng
set_option linter.unusedVariables false
set_option linter.unusedSectionVars false
set_option linter.unusedSimpArgs false
variable [CT : Ctx]

section
variable {P : Program} {env : Env} {F : Fr} {σ : AState} {γ : Gh} {a : Act} {w : World} {tg : Tag} {o : Oper} {α : Type} {k : PV → Option α} {res : α}

theorem qX {t:TypeId} {n:Nat} (h:qbO P t n=true):∃i,P.info? t=some i∧i.size=n:=by
  unfold qbO at h;split at h
  · rename_i i hi;exact⟨i,hi,Nat.eq_of_beq_eq_true h⟩
  · cases h
theorem qif {t:TypeId} (h:flatIs P t=true):aggOf P t=some false:=by
  unfold flatIs at h;split at h
  · rename_i b hb;rw[hb];simp at h;rw[h]
  · cases h
theorem qcA {i:Int} {n:Nat} (h:inb i n=true):0≤i∧i<(n:Int):=by simpa[inb] using h
theorem qhQ {A:Type} {l:List A} {i:Nat} {x:A} (h:l[i]?=some x):i<l.length:=(List.getElem?_eq_some_iff.1 h).1

theorem qia {t:TypeId} (h:aggIs P t=true):aggOf P t=some true:=by
  unfold aggIs at h;split at h
  · rename_i b hb;rw[hb,h]
  · cases h
theorem qhu {l:List Cv} {sz len i:Nat} (hi:i<len) (hl:len*sz=l.length):∀ {m:Nat} {cs:List Cv},m≤sz→selW l sz len i m=some cs→cs=(l.drop (i*sz+(sz-m))).take m
  | 0,cs,_,h=>by simp only[selW,Option.some.injEq] at h;subst h;simp
  | m+1,cs,hm,h=>by
    simp only[selW,chk_some,Option.bind_eq_some_iff,Option.some.injEq] at h;obtain⟨hc,c,h1,r,h2,rfl⟩:=h;have hc:=Nat.eq_of_beq_eq_true hc;have hg:=qh2 hc hi;have hle:i*sz+sz≤l.length:=by
      rw[←hl,←Nat.succ_mul];exact Nat.mul_le_mul_right _ hi
    have hlt:i*sz+(sz-(m+1))<l.length:=by omega
    rw[Nat.zero_add,List.getElem?_eq_getElem hlt] at hg;have:=qet h1 hg;rw[List.drop_eq_getElem_cons hlt,List.take_succ_cons,this,qhu hi hl (by omega) h2];congr 3;omega
theorem qiu (r:Rel F σ γ a w) {t:TypeId} {x i:Operand} (ho:o.op = .index t x i) (h:idxS P σ tg t x i k=some res):StR P σ γ a w tg o k res:=by
  simp only[idxS,Option.bind_eq_some_iff] at h;obtain⟨pv,h1,iv,h2,⟨ki,n⟩,h3,h4⟩:=h;split at h4
  · rename_i l;split at h4
    · rename_i len e hu;by_cases hag:aggIs P e=true
      · simp only[hag,cond_true,Option.bind_eq_some_iff,chk_some,req_some] at h4;obtain⟨inf,hi,hl,hb,ds,hs,h5⟩:=h4;refine StR.of h5 fun hT=>?_;have e2:=qaO r hT h2 h3;obtain⟨cs,e1,hv⟩:=qa r hT h1;have hb':=qcA (qao hb hT);have hl:=Nat.eq_of_beq_eq_true hl;have hds:=qhu (i:=n.toNat) (by omega) hl (Nat.le_refl _) hs;rw[Nat.sub_self,Nat.add_zero] at hds;have hle:n.toNat*inf.size+inf.size≤l.length:=by
          rw[←hl,←Nat.succ_mul];exact Nat.mul_le_mul_right _ (by omega)
        have hp:qdn P e l (n.toNat*inf.size)=some (.agg ((l.drop (n.toNat*inf.size)).take inf.size)):=by
          simp only[qdn,qia hag,hi,Option.bind_some,cond_true,chk,Nat.ble_eq_true_of_le hle]
        obtain⟨v,h6,h7,_⟩:=qbh (P:=P) hp hv;rw[←hds] at h7;refine⟨v,fun w' _=>?_,h7⟩
        have hsr:(sizeOf e).run P w' = .ok inf.size w':=by simp[sizeOf,typeInfo,hi,go_sem]
        have h6:=h6 w';rw[Array.toArray_toList] at h6;obtain⟨dst,op,type,pos,after,guard⟩:=o;simp only at ho;subst ho;generalize a.eval=ρ at e1 e2 ⊢;simp only[execOp,Instr.index,Sem.run_bind,e1,e2,asIntOf,Sem.run_pure,Result.andThen_ok,run_underlying hu,hb',and_self,if_true,hsr,h6]
      rw[Bool.not_eq_true] at hag;simp only[hag,cond_false] at h4;simp only[chk_some,Bool.and_eq_true,req_some,Option.bind_eq_some_iff] at h4;obtain⟨⟨hc,hl,hf⟩,hb,c,hs,h5⟩:=h4;obtain⟨inf,hi,hsz⟩:=qX hc;refine StR.of h5 fun hT=>?_;have e2:=qaO r hT h2 h3;obtain⟨cs,e1,hv⟩:=qa r hT h1;have hb':=qcA (qao hb hT);have hlen:len=l.length:=Nat.eq_of_beq_eq_true hl
      have hlt:n.toNat<l.length:=by omega
      have hsel:=qet hs (List.getElem?_eq_getElem hlt);obtain⟨v,h6,h7⟩:=hv.get (List.getElem?_eq_getElem hlt);rw[hsel] at h7;refine⟨v,fun w' _=>?_,h7⟩;have hag:=qif hf
      have h6':cs[n.toNat]?=some v:=by simpa using h6
      have hsr:(sizeOf e).run P w' = .ok inf.size w':=by simp[sizeOf,typeInfo,hi,go_sem]
      have hpart:(part e cs n.toNat).run P w' = .ok v w':=by simp[part,qcP hag,h6',go_sem]
      obtain⟨dst,op,type,pos,after,guard⟩:=o;simp only at ho;subst ho;generalize a.eval=ρ at e1 e2 ⊢;simp only[execOp,Instr.index,Sem.run_bind,e1,e2,asIntOf,Sem.run_pure,Result.andThen_ok,run_underlying hu,hb',and_self,if_true,hsr,hsz,Nat.mul_one,hpart]
    · cases h4
  · rename_i s;split at h4
    · rename_i hu;obtain⟨b,h5,h6⟩:=Option.bind_eq_some_iff.1 h4;refine StR.of h6 fun hT=>⟨.int .u8 (b.toNat:Int),fun w' _=>?_,rfl⟩;have e2:=qaO r hT h2 h3;have e1:a.eval x = .string s:=qa r hT h1;rw[tagB_spec.2 hT] at h5;have h5':strAt s n=some b:=h5;unfold strAt at h5';have hnn:0≤n:=by
        by_cases hn:0≤n
        · exact hn
        · simp[hn] at h5'
      simp only[hnn,decide_true,cond_true] at h5';obtain⟨dst,op,type,pos,after,guard⟩:=o;simp only at ho;subst ho;generalize a.eval=ρ at e1 e2 ⊢;simp[execOp,Instr.index,e1,e2,asIntOf,run_underlying hu,hnn,h5',go_sem]
    · cases h4
  · cases h4

theorem qix (r:Rel F σ γ a w) (hT:tagT σ tg):∀ {l:List Operand} {vs:List PV},evs σ tg l=some vs→vs.length=l.length∧∀(i:Nat) (x:Operand) (v:PV),l[i]?=some x→vs[i]?=some v→PR σ.objs γ w v (a.eval x)
  | [],vs,h=>by simp only[evs,Option.some.injEq] at h;subst h;exact⟨rfl,fun i x v hx=>by simp at hx⟩
  | x::l,vs,h=>by
    simp only[evs,Option.bind_eq_some_iff,Option.some.injEq] at h;obtain⟨v,h1,us,h2,rfl⟩:=h;obtain⟨e,ih⟩:=qix r hT h2;refine⟨by simp[e],fun i y u hy hu=>?_⟩
    cases i with
    | zero=>simp at hy hu;subst hy;subst hu;exact qa r hT h1
    | succ i=>exact ih i y u (by simpa using hy) (by simpa using hu)
theorem qd1 {c:Cv} {v:Value} (h:qiM c=true) (hv:VR σ.objs γ w c v):v.oneCell'=true:=by
  cases c with
  | v x=>simp only[VR] at hv;subst hv;exact h
  | sl e xs=>obtain⟨_,ao,cap,us,e1,_⟩:=hv;simp at e1;rw[e1];rfl
  | os o=>obtain⟨_,_,ao,n,c,rfl⟩:=hv;rfl
  | ptr o off=>obtain⟨_,b,_,rfl⟩:=hv;rfl
  | fn f caps=>obtain⟨_,l,rfl,_⟩:=hv;rfl
  | e0=>obtain⟨ao,rfl⟩:=hv;rfl
  | er b=>rcases hv with ⟨_,rfl⟩ | ⟨_,_,_,rfl⟩<;>rfl
theorem qbn {pv:PV} {l:List Cv} {v:Value} (h:qaJ pv=some l) (hv:PR σ.objs γ w pv v):VRL σ.objs γ w l v.cells.toList:=by
  cases pv with
  | c c =>
    simp only[qaJ,chk_some,Option.some.injEq] at h;obtain⟨h0,rfl⟩:=h;have h1:v.cells = #[v]:=by
      have:=qd1 h0 hv
      cases v<;>first | rfl | (simp[Value.oneCell'] at this)
    rw[h1];exact⟨v,[],rfl,hv,rfl⟩
  | agg l' =>
    simp only[qaJ,Option.some.injEq] at h;subst h;obtain⟨cs,rfl,h1⟩:=hv;exact h1
  | _=>simp[qaJ] at h

theorem qip (off:Nat):∀(vs:List Value) (cells:Array Value) (i:Nat),off+i+vs.length≤cells.size→(List.foldl (fun cs (p:Value×Nat)=>cs.setIfInBounds (off+p.2) p.1) cells (vs.zipIdx i)).toList=cells.toList.take (off+i)++vs++cells.toList.drop (off+i+vs.length)
  | [],cells,i,_=>by simp
  | v::vs,cells,i,h=>by
    simp only[List.zipIdx_cons,List.foldl_cons];rw[qip off vs _ (i+1) (by simp at h ⊢;omega)];simp only[Array.toList_setIfInBounds,List.length_cons]
    have hlt:off+i<cells.toList.length:=by simp at h ⊢;omega
    rw[show off+(i+1)=off+i+1 by omega];have h1:(cells.toList.set (off+i) v).take (off+i+1)=cells.toList.take (off+i)++[v]:=by
      rw[List.take_add_one,List.getElem?_set_self hlt,List.take_set_of_le (Nat.le_refl _)];rfl
    have h2:(cells.toList.set (off+i) v).drop (off+i+1+vs.length)=cells.toList.drop (off+i+(vs.length+1)):=by
      rw[List.drop_set_of_lt (by omega)];congr 1;omega
    rw[h1,h2];simp
theorem qdr (r:Rel F σ γ a w) (hT:tagT σ tg):∀ {l:List (Nat×Operand)} {ps:List (Nat×List Cv)},qeb σ tg l=some ps→ps.length=l.length∧∀(j:Nat) (p:Nat×Operand) (q:Nat×List Cv),l[j]?=some p→ps[j]?=some q→q.1=p.1∧VRL σ.objs γ w q.2 (a.eval p.2).cells.toList
  | [],ps,h=>by simp only[qeb,Option.some.injEq] at h;subst h;exact⟨rfl,fun i x v hx=>by simp at hx⟩
  | (i,x)::l,ps,h=>by
    simp only[qeb,Option.bind_eq_some_iff,Option.some.injEq] at h;obtain⟨v,h1,c,h2,q,h3,rfl⟩:=h;obtain⟨e,ih⟩:=qdr r hT h3;refine⟨by simp[e],fun j p u hp hu=>?_⟩
    cases j with
    | zero=>simp at hp hu;subst hp;subst hu;exact⟨rfl,qbn h2 (qa r hT h1)⟩
    | succ j=>exact ih j p u (by simpa using hp) (by simpa using hu)
theorem qgA {place:Nat→Option (Nat×Nat)}:∀ {ps:List (Nat×List Cv)} {vals:List (Nat×Value)} {cs l:List Cv} {cells:Array Value},fillC place cs ps=some l→VRL σ.objs γ w cs cells.toList→ps.length=vals.length →
    (∀(j:Nat) (p:Nat×Value) (q:Nat×List Cv),vals[j]?=some p→ps[j]?=some q→q.1=p.1∧VRL σ.objs γ w q.2 p.2.cells.toList)→∃out,Instr.fill place cells vals=some out∧VRL σ.objs γ w l out.toList
  | [],[],cs,l,cells,h,hv,_,_=>by simp only[fillC,Option.some.injEq] at h;subst h;exact⟨cells,rfl,hv⟩
  | (i,c)::ps,(i',v)::vals,cs,l,cells,h,hv,hl,hp=>by
    simp only[fillC,Option.bind_eq_some_iff,chk_some,Bool.and_eq_true] at h;obtain⟨⟨off,sz⟩,h1,⟨h2,h3⟩,h4⟩:=h;obtain⟨rfl,hc⟩:=hp 0 _ _ rfl rfl;have e2:c.length=sz:=Nat.eq_of_beq_eq_true h2;have e3:off+c.length≤cs.length:=Nat.le_of_ble_eq_true h3;have lc:=hc.length;have lcs:=hv.length;simp only[Array.length_toList] at lc lcs
    have hz:v.cells.size=sz:=by omega
    have hfit:¬(off+v.cells.size>cells.size):=by omega
    have hf:(v.cells.zipIdx.foldl (fun cs (p:Value×Nat)=>cs.setIfInBounds (off+p.2) p.1) cells).toList=cells.toList.take off++v.cells.toList++cells.toList.drop (off+v.cells.toList.length):=by
      have:=qip off v.cells.toList cells 0 (by simp;omega);simp only[Nat.add_zero] at this;rw[←this];rw[←Array.foldl_toList];congr 2;simp
    have hv':VRL σ.objs γ w (cs.take off++c++cs.drop (off+c.length)) (v.cells.zipIdx.foldl (fun cs (p:Value×Nat)=>cs.setIfInBounds (off+p.2) p.1) cells).toList:=by
      rw[hf];refine((hv.take off).append hc).append ?_
      have:off+c.length=off+v.cells.toList.length:=by simp;omega
      rw[this];exact hv.drop _
    obtain⟨out,h5,h6⟩:=qgA h4 hv' (by simpa using hl) (fun j p q hj hq=>hp (j+1) p q (by simpa using hj) (by simpa using hq));refine⟨out,?_,h6⟩;simp only[Instr.fill,h1];rw[if_neg (by simp[hz,hfit];omega)];exact h5
  | [],_::_,_,_,_,_,_,hl,_=>by simp at hl
  | _::_,[],_,_,_,_,_,hl,_=>by simp at hl
theorem qf9 {t:TypeId} {l:List Cv} (h:qhE P t=some l):∃i z,P.info? t=some i∧i.zero=some z∧VRL σ.objs γ w l z.cells.toList:=by
  simp only[qhE,Option.bind_eq_some_iff,Option.some.injEq] at h;obtain⟨i,h1,z,h2,rfl⟩:=h;exact⟨i,z,h1,h2,VRL.cvs _⟩
theorem qiw (r:Rel F σ γ a w) {t:TypeId} {parts:Array (Nat×Operand)} (ho:o.op = .build t parts) (h:((qhE P t).bind fun z=>(qeb σ tg parts.toList).bind fun ps=>chk (qhg P t) ((fillC (qdw P t) z ps).bind fun l=>k (.agg l)))=some res):StR P σ γ a w tg o k res:=by
  simp only[Option.bind_eq_some_iff,chk_some] at h;obtain⟨zc,h1,ps,h2,h3,l,h4,h5⟩:=h;refine StR.of h5 fun hT=>?_;obtain⟨i,z,hi,hz,hzv⟩:=qf9 (P:=P) (σ:=σ) (γ:=γ) (w:=w) h1;obtain⟨e1,h6⟩:=qdr r hT h2
  obtain⟨out,h7,h8⟩:=qgA (vals:=(parts.map fun (p:Nat×Operand)=>(p.1,a.eval p.2)).toList) h4 hzv (by simp[e1]) (fun j p q hp hq=>by
    simp only[Array.toList_map,List.getElem?_map,Option.map_eq_some_iff] at hp;obtain⟨p',hp',rfl⟩:=hp
    exact h6 j p' q hp' hq)
  refine⟨.agg out,fun w' _=>?_,out,rfl,h8⟩;obtain⟨dst,op,type,pos,after,guard⟩:=o;simp only at ho;subst ho
  have hzr:(zeroValue t).run P w' = .ok z w':=by simp[zeroValue,typeInfo,hi,hz,go_sem]
  have hb:(Instr.build t (parts.map fun (p:Nat×Operand)=>(p.1,a.eval p.2))).run P w' = .ok (.agg out) w':=by
    generalize hvals:(parts.map fun (p:Nat×Operand)=>(p.1,a.eval p.2))=vals at h7;unfold qhg at h3;have hpl:qdw P t=qdw P t:=rfl;split at h3
    · rename_i fs hu
      have hpe:qdw P t=fun i=>(fs[i]?).bind fun (f:Field)=>(P.info? f.type).bind fun inf=>some (f.offset,inf.size):=by funext i;simp[qdw,hu]
      rw[hpe] at h7;have hm:∃places:Array (Nat×Nat),(fs.mapM fun (f:Field)=>(do pure (f.offset,←sizeOf f.type):Sem (Nat×Nat))).run P w' = .ok places w'∧(fun (i:Nat)=>places[i]?)=fun (i:Nat)=>(fs[i]?).bind fun (f:Field)=>(P.info? f.type).bind fun inf=>some (f.offset,inf.size):=by
        have hall:∀f∈fs.toList,∃inf,P.info? f.type=some inf:=fun f hf=>by
          have:=List.all_eq_true.1 h3 f hf;exact Option.isSome_iff_exists.1 this
        refine⟨(fs.toList.map fun (f:Field)=>(f.offset,((P.info? f.type).map (·.size)).getD 0)).toArray,?_,?_⟩
        · rw[Array.mapM_eq_mapM_toList]
          have:=qcV (P:=P) (w:=w') (fun f:Field=>(do pure (f.offset,←sizeOf f.type):Sem (Nat×Nat))) fs.toList (fs.toList.map fun (f:Field)=>(f.offset,((P.info? f.type).map (·.size)).getD 0)) (fun j f y hf hy=>by
            simp only[List.getElem?_map,hf,Option.map_some,Option.some.injEq] at hy;subst hy;obtain⟨inf,hinf⟩:=hall f (List.mem_of_getElem? hf)
            simp[sizeOf,typeInfo,hinf,go_sem]) (by simp)
          simp only[Sem.run_map] ;rw[this];simp
        · funext i;simp only[List.getElem?_toArray,List.getElem?_map]
          cases hf:fs[i]? with
          | none=>simp[hf]
          | some f =>
            obtain⟨inf,hinf⟩:=hall f (by simpa using Array.mem_of_getElem? hf);simp[hf,hinf]
      obtain⟨places,hm1,hm2⟩:=hm;unfold Instr.build;simp only[Sem.run_bind,hzr,Result.andThen_ok,run_underlying hu,hm1,hm2,h7,Sem.run_pure]
    · rename_i m e hu;obtain⟨inf,hinf⟩:=Option.isSome_iff_exists.1 h3
      have hpe:qdw P t=fun i=>some (i*inf.size,inf.size):=by funext i;simp[qdw,hu,hinf]
      rw[hpe] at h7
      have hsr:(sizeOf e).run P w' = .ok inf.size w':=by simp[sizeOf,typeInfo,hinf,go_sem]
      unfold Instr.build;simp only[Sem.run_bind,hzr,Result.andThen_ok,run_underlying hu,hsr,h7,Sem.run_pure]
    · cases h3
  simp only[execOp,Sem.run_bind];rw[hb];rfl
end
end Go.Den
namespace Go.Den
open Go.Eng
set_option linter.unusedVariables false
set_option linter.unusedSectionVars false
set_option linter.unusedSimpArgs false
variable [CT : Ctx]

section
variable {P : Program} {env : Env} {F : Fr} {σ : AState} {γ : Gh} {a : Act} {w : World} {tg : Tag} {o : Oper} {α : Type} {k : PV → Option α} {res : α}

theorem Rep.slen {S:Nat→Prop} (e:Ty):∀(x:D e) (c:List Value),Rep w S e x [] c→c.length=e.size:=fun x c h=>Rep.length e h
theorem qcU {t e:TypeId} {inf:TypeInfo} (hu:P.underlying t=some (.slice e)) (hi:P.info? e=some inf) {ρ:Operand→Value} {x i:Operand} {ad:Addr} {len cap:Nat} {ki:IntKind} {n:Int}
    (ho:o.op = .indexAddr t x i) (e1:ρ x = .slice (some ad) len cap) (e2:ρ i = .int ki n) (hb:0≤n∧n<(len:Int)) (w':World) :
    (execOp ρ o).run P w' = .ok (.value (.pointer (some (ad.add (n.toNat*inf.size))))) w':=by
  obtain⟨dst,op,type,pos,after,guard⟩:=o;simp only at ho;subst ho;simp[execOp,Instr.indexAt,e1,e2,asIntOf,underlying,sizeOf,typeInfo,hu,hi,hb,go_sem]
theorem qb2 {t e:TypeId} {inf:TypeInfo} {len:Nat} (hu:P.underlying t=some (.array len e)) (hi:P.info? e=some inf) {ρ:Operand→Value} {x i:Operand} {ad:Addr} {ki:IntKind} {n:Int}
    (ho:o.op = .indexAddr t x i) (e1:ρ x = .pointer (some ad)) (e2:ρ i = .int ki n) (hb:0≤n∧n<(len:Int)) (w':World) :
    (execOp ρ o).run P w' = .ok (.value (.pointer (some (ad.add (n.toNat*inf.size))))) w':=by
  obtain⟨dst,op,type,pos,after,guard⟩:=o;simp only at ho;subst ho;simp[execOp,Instr.indexAt,Instr.sureAddr,e1,e2,asIntOf,underlying,sizeOf,typeInfo,hu,hi,hb,go_sem]
theorem toList_some {A:Type} {o:Option A} {b:A} (h:o.toList=[b]):o=some b:=by cases o<;>simp_all
theorem qez (r:ORel F σ.objs γ w) {p:Nat} {i:TypeId} {e:Ty} {xs:List (D e)} {fz:Bool} (h:σ.objs[p]?=some (.arr i e xs fz)) (hn:xs≠[]):∃b cap us,(γ p).2=some b∧(γ p).1 = .slice (some ⟨b,0,none⟩) xs.length cap∧xs.length≤cap∧CellsAt w ⟨b,0,none⟩ us∧RepL (fun x c=>Rep w (Imm σ.objs γ w) e x [] c) xs us:=by
  obtain⟨us,h1,h2⟩:=r.rep p _ h;obtain⟨b,cap,h3,h4,h5,h6⟩:=h1.cells (fun hl=>hn (List.eq_nil_of_length_eq_zero hl));exact⟨b,cap,us,toList_some h3,h4,h5,h6,h2⟩
theorem qfP {k:Nat→Option α} {n:Int} {res:α}:∀ {m j:Nat},qgp n k m j=some res→∃j',k j'=some res
  | 0,j,h=>⟨j,h⟩
  | m+1,j,h=>by
    unfold qgp at h
    cases hb:(n==(j:Int)) with
    | true=>rw[hb] at h;exact⟨j,h⟩
    | false=>rw[hb] at h;exact qfP h
theorem qhI {k:Nat→Option α} {n:Int} {res:α}:∀ {m j:Nat},qgp n k m j=some res→(j:Int)≤n→n≤(j+m:Nat)→k n.toNat=some res
  | 0,j,h,h1,h2=>by
    have:n.toNat=j:=by omega
    rw[this];exact h
  | m+1,j,h,h1,h2=>by
    unfold qgp at h;by_cases hb:n=(j:Int)
    · have:n.toNat=j:=by omega
      rw[this];simpa[hb] using h
    · have:(n==(j:Int))=false:=by simpa using hb
      rw[this] at h;exact qhI h (by omega) (by omega)
theorem qe5 (r:Rel F σ γ a w) {t:TypeId} {x i:Operand} (ho:o.op = .indexAddr t x i) (h:((ev σ tg x).bind fun v=>(ev σ tg i).bind fun w=>(asInt w).bind fun q=>qic P σ (tagB σ tg) t v (qfn i) q.2 k)=some res):StR P σ γ a w tg o k res:=by
  simp only[Option.bind_eq_some_iff] at h;obtain⟨pv,h1,iv,h2,⟨ki,n⟩,h3,h4⟩:=h;unfold qic at h4;split at h4
  · rename_i e hu
    cases pv with
    | c c =>
      have h6:idxSl P (tagB σ tg) e n k σ c=some res:=h4
      cases c with
      | sl τ xs =>
        simp only[idxSl,chk_some] at h6;obtain⟨hc,h7⟩:=h6;obtain⟨inf,hi,hsz⟩:=qX hc;obtain⟨d,h8,h9⟩:=Option.bind_eq_some_iff.1 h7;refine StR.of h9 fun hT=>?_;rw[tagB_spec.2 hT] at h8;have h8':at? xs n=some d:=h8;unfold at? at h8';have hnn:0≤n:=by
          by_cases hn:0≤n
          · exact hn
          · simp[hn] at h8'
        simp only[hnn,decide_true,cond_true] at h8';have hlt:=qhQ h8';have e2:=qaO r hT h2 h3;obtain⟨_,ao,cap,us,e1,hcap,hrep,hne⟩:=qa r hT h1;obtain⟨ad,rfl,hS,hcell⟩:=hne (fun hx=>by subst hx;simp at hlt);simp only[List.cons.injEq,and_true] at e1;refine⟨_,fun w' _=>qcU hu hi ho e1 e2 ⟨hnn,by simp only;omega⟩ w',?_⟩;have hx:=hrep.get (Rep.slen τ) h8';rw[hsz];refine⟨_,_,rfl,by rw[add_block];exact hS.1,fun _=>by rw[add_block];exact hS,CellsAt.part hcell (n.toNat*τ.size) τ.size,qav τ hx⟩
      | os p =>
        simp only[idxSl,Option.bind_eq_some_iff] at h6;obtain⟨ob,hob,h7⟩:=h6
        cases ob with
        | arr ti τ xs fz =>
          simp only[chk_some,req_some] at h7;obtain⟨hc,hb,h8⟩:=h7;obtain⟨inf,hi,hsz⟩:=qX hc;refine StR.of h8 fun hT=>?_;have hb':=qcA (qao hb hT);have e2:=qaO r hT h2 h3;obtain⟨hp1,e1,_⟩:=qa r hT h1
          have hne:xs≠[]:=fun hx=>by subst hx;simp at hb';omega
          obtain⟨b,cap,us,hg2,hg1,hcap,hcell,hrep⟩:=qez r.o hob hne;rw[hg1] at e1;refine⟨_,fun w' _=>qcU hu hi ho e1 e2 hb' w',hp1,b,hg2,?_,_,_,_,hg1,by omega⟩;rw[qbQ,hsz];simp
        | _=>simp at h7
      | _=>simp[idxSl] at h6
    | vw p sz lo m =>
      simp only[idxW,Option.bind_eq_some_iff] at h4;obtain⟨ob,hob,h7⟩:=h4
      cases ob with
      | arr ti τ xs fz =>
        simp only[chk_some,req_some,Bool.and_eq_true] at h7;obtain⟨⟨hc,hsz'⟩,hb,h8⟩:=h7;obtain⟨inf,hi,hsz⟩:=qX hc;refine StR.of h8 fun hT=>?_;have hb':=qcA (qao hb hT);have e2:=qaO r hT h2 h3;obtain⟨hp1,ao0,n0,c0,ao,cap,hg,hlo,e1,hcap,hpos,_⟩:=qa r hT h1;obtain⟨b,hg2,hao⟩:=hpos (by omega);subst hao;have hn0:n0=xs.length:=by
          obtain⟨us,h9,_⟩:=r.o.rep p _ hob;rcases h9 with ⟨_,⟨ao1,h10⟩,h11,_⟩ | ⟨b1,cap1,cur,_,h10,_⟩
          · rw[hg] at h10;simp only[Value.slice.injEq] at h10;omega
          · rw[hg] at h10;simp only[Value.slice.injEq] at h10;exact h10.2.1
        refine⟨_,fun w' _=>qcU hu hi ho e1 e2 hb' w',hp1,b,hg2,?_,_,_,_,hg,by omega⟩;rw[qbQ,hsz];simp[Nat.add_mul]
      | _=>simp at h7
    | _=>simp[idxW] at h4
  · rename_i len e hu;simp only[Option.bind_eq_some_iff,chk_some] at h4;obtain⟨inf,hi,hz,h5⟩:=h4;split at h5
    · rename_i m hm;simp only[chk_some,Option.bind_eq_some_iff] at h5;obtain⟨hb,u,h6,h7⟩:=h5;have hb':=qcA hb;have hnm:n=m:=by
        cases i<;>simp only[qfn] at hm<;>try (cases hm;done)
        rename_i z
        cases z<;>simp only[qfn,Option.some.injEq] at hm<;>try (cases hm;done)
        subst hm;simp only[ev,qhd,Option.some.injEq] at h2;subst h2;simp only[asInt,Option.some.injEq,Prod.mk.injEq] at h3;exact h3.2.symm
      subst hnm;refine StR.of h7 fun hT=>?_;obtain⟨ad,e1,hu2⟩:=qfx h6 (qa r hT h1);exact⟨_,fun w' _=>qb2 hu hi ho e1 (qaO r hT h2 h3) hb' w',hu2⟩
    · cases pv with
      | c c =>
        cases c<;>simp only[idxV] at h5<;>try (cases h5;done)
        rename_i p off;by_cases hap:(arrE P e||apartAt σ p off (len*inf.size))=true
        · simp only[hap,cond_true,chk_some,Bool.not_eq_true'] at h5;obtain⟨hl0,h5⟩:=h5
          have hl0:len≠0:=fun e=>by subst e;simp at hl0
          obtain⟨hb,h6⟩:=req_some.1 h5;obtain⟨j0,hj0⟩:=qfP h6;refine⟨⟨_,hj0⟩,fun hT=>?_⟩;have hb':=qcA (qao hb hT);have h7:=qhI h6 (by omega) (by omega);obtain⟨hp1,b,hg,e1⟩:=qa r hT h1;refine⟨.c (.ptr p (off+n.toNat*inf.size)),⟨_,fun w' _=>qb2 hu hi ho e1 (qaO r hT h2 h3) hb' w',?_⟩,h7⟩;exact⟨hp1,b,hg,by rw[qbQ]⟩
        · simp only[Bool.eq_false_iff.2 hap,cond_false] at h5;obtain⟨hb,h6⟩:=req_some.1 h5;refine StR.of h6 fun hT=>?_;have hb':=qcA (qao hb hT);obtain⟨hp1,b,hg,e1⟩:=qa r hT h1;refine⟨_,fun w' _=>qb2 hu hi ho e1 (qaO r hT h2 h3) hb' w',hp1,b,hg,hb'.1,hb'.2,?_⟩;rw[qbQ];simp
      | rp l =>
        simp only[idxV,chk_some,req_some,Bool.and_eq_true,Option.bind_eq_some_iff] at h5;obtain⟨⟨hs1,hl⟩,hb,c,hs,h6⟩:=h5;have hs1:=Nat.eq_of_beq_eq_true hs1;have hl:=Nat.eq_of_beq_eq_true hl;refine StR.of h6 fun hT=>?_;have hb':=qcA (qao hb hT);obtain⟨ad,us,e1,h0,hS,hcell,hv⟩:=qa r hT h1
        have hlt:n.toNat<l.length:=by omega
        obtain⟨v,h7,h8⟩:=hv.get (List.getElem?_eq_getElem hlt);rw[qet hs (List.getElem?_eq_getElem hlt)] at h8;refine⟨_,fun w' _=>qb2 hu hi ho e1 (qaO r hT h2 h3) hb' w',?_⟩;refine⟨_,[v],rfl,by rw[add_block];exact h0,fun _=>by rw[add_block];exact hS (fun e=>by rw[e] at h7;simp at h7),?_,⟨v,[],rfl,h8,rfl⟩⟩;have:=CellsAt.part hcell (n.toNat*inf.size) 1;rw[hs1,Nat.mul_one] at this ⊢;have hd:(us.drop n.toNat).take 1=[v]:=by
          rw[List.drop_eq_getElem_cons (qhQ h7)];simp[(List.getElem?_eq_some_iff.1 h7).2]
        rw[hd] at this;exact this
      | _=>simp[idxV] at h5
  · cases h4

theorem loadAt_of {ρ:Operand→Value} {t:TypeId} {x:Operand} {ad:Addr} {v:Value} {w':World} (ho:o.op = .load t x) (e1:ρ x = .pointer (some ad)) (h:(loadVar t ad).run P w' = .ok v w'):(execOp ρ o).run P w' = .ok (.value v) w':=by
  obtain⟨dst,op,type,pos,after,guard⟩:=o;simp only at ho;subst ho;simp only[execOp,Instr.loadAt,Instr.sureAddr,e1,Sem.run_bind,Sem.run_pure,Result.andThen_ok,h]
theorem Chg.cells {ex:List Nat} {w w':World} {ad:Addr} {us:List Value} (h:CellsAt w ad us) (hc:Chg [] w w') (hl:us≠[]→ad.block<w.heap.size):CellsAt w' ad us:=by
  by_cases hn:us=[]
  · subst hn;intro j v hv;simp at hv
  · exact CellsAt.mono h (hc.block _ (hl hn) (by simp))
theorem qfX (r:ORel F σ.objs γ w) {t:TypeId} {pv u:PV} {v:Value} (h:qeu P σ t pv=some u) (hv:PR σ.objs γ w pv v):∃ad x,v = .pointer (some ad)∧(∀w',Chg [] w w'→(loadVar t ad).run P w' = .ok x w')∧PR σ.objs γ w u x:=by
  cases pv with
  | c c =>
    cases c<;>simp only[qeu] at h<;>try (cases h;done)
    rename_i p off;obtain⟨ob,hob,h2⟩:=Option.bind_eq_some_iff.1 h
    cases ob with
    | box cs =>
      simp only at h2;obtain⟨hp1,b,hg,rfl⟩:=hv;obtain⟨b',T,cells,hgg,hheap,hvl⟩:=r.rep p _ hob
      have hbb:b'=b:=by rw[hgg] at hg;simpa using hg
      subst hbb;obtain⟨x,_,h4,h5⟩:=qbh (P:=P) h2 hvl;refine⟨_,x,rfl,fun w' hc=>h5 w' _ ?_,h4⟩;have hlt:=(Array.getElem?_eq_some_iff.1 hheap).1;exact Chg.cells (ex:=[]) (qbA hheap off) hc (fun _=>hlt)
    | fbx cs =>
      simp only at h2;obtain⟨hp1,b,hg,rfl⟩:=hv;obtain⟨b',T,cells,hgg,hheap,hvl,_⟩:=r.rep p _ hob
      have hbb:b'=b:=by rw[hgg] at hg;simpa using hg
      subst hbb;obtain⟨x,_,h4,h5⟩:=qbh (P:=P) h2 hvl;refine⟨_,x,rfl,fun w' hc=>h5 w' _ ?_,h4⟩;have hlt:=(Array.getElem?_eq_some_iff.1 hheap).1;exact Chg.cells (ex:=[]) (qbA hheap off) hc (fun _=>hlt)
    | bld tb c =>
      simp only[chk_some] at h2;obtain⟨ho1,h3⟩:=h2;obtain rfl:=Nat.eq_of_beq_eq_true ho1;obtain⟨hp1,b,hg,rfl⟩:=hv;obtain⟨b',pp,vv,hgg,hheap,hpp,hvc⟩:=r.rep p _ hob
      have hbb:b'=b:=by rw[hgg] at hg;simpa using hg
      subst hbb;obtain⟨x,_,h4,h5⟩:=qbh (P:=P) (cs:=[vv]) h3 ⟨vv,[],rfl,hvc,rfl⟩;refine⟨_,x,rfl,fun w' hc=>h5 w' _ ?_,h4⟩;have hlt:=(Array.getElem?_eq_some_iff.1 hheap).1;exact Chg.cells (ex:=[]) (qbA hheap 1) hc (fun _=>hlt)
    | _=>simp at h2
  | rp l =>
    simp only[qeu] at h;obtain⟨ad,us,rfl,h0,hS,hcell,hvl⟩:=hv;obtain⟨x,_,h4,h5⟩:=qbh (P:=P) h hvl;exact⟨ad,x,rfl,fun w' hc=>h5 w' _ (by rw[List.drop_zero];exact Chg.cells (ex:=[]) hcell hc (fun _=>h0)),h4⟩
  | ep p sz i off =>
    simp only[qeu] at h;obtain⟨ob,hob,h2⟩:=Option.bind_eq_some_iff.1 h
    cases ob with
    | arr ti e xs fz =>
      simp only[chk_some] at h2;obtain⟨hsz,h3⟩:=h2;have hsz:=Nat.eq_of_beq_eq_true hsz;subst hsz;obtain⟨hp1,b,hg,rfl,ao0,n0,c0,hg0,hlt0⟩:=hv
      have hlt:i<xs.length:=by rw[←ObR.len (r.rep p _ hob) hg0];exact hlt0
      obtain⟨b',cap,us,hg2,_,_,hcell,hrep⟩:=qez r hob (fun e=>by subst e;simp at hlt)
      have hbb:b'=b:=by rw[hg2] at hg;simpa using hg
      subst hbb;have hx:=hrep.get (Rep.slen e) (j:=i) (x:=getD' xs i (dflt e)) (by simp[getD',hlt]);obtain⟨x,_,h4,h5⟩:=qbh (P:=P) h3 (qav e hx);refine⟨_,x,rfl,fun w' hc=>h5 w' _ ?_,h4⟩;have h6:=CellsAt.drop (CellsAt.part hcell (i*e.size) e.size) off;rw[qbQ,qbQ,Nat.zero_add] at h6;exact Chg.cells (ex:=[]) h6 hc (fun _=>r.lt p b' hp1 hg2)
    | _=>simp at h2
  | pa p off sz cnt inner i =>
    simp only[qeu] at h;obtain⟨ob,hob,h2⟩:=Option.bind_eq_some_iff.1 h
    cases ob with
    | box cs =>
      simp only[Option.bind_eq_some_iff,chk_some,Bool.and_eq_true,Bool.not_eq_true',Option.some.injEq] at h2;obtain⟨ag,hag,⟨rfl,hlen⟩,c,hs,rfl⟩:=h2;obtain⟨hp1,b,hg,hi0,hi1,rfl⟩:=hv;obtain⟨b',T,cells,hgg,hheap,hvl⟩:=r.rep p _ hob
      have hbb:b'=b:=by rw[hgg] at hg;simpa using hg
      subst hbb;have hlen:=Nat.eq_of_beq_eq_true hlen;have hcg:=qh2 (cs:=cs) (sz:=sz) (inner:=inner) (off:=off) (j:=i.toNat) hlen (by omega)
      have hlt:i.toNat<(col cs off sz inner cnt).length:=by omega
      rw[List.getElem?_eq_getElem hlt,qet hs (List.getElem?_eq_getElem hlt)] at hcg;obtain⟨x,h7,h8⟩:=hvl.get hcg.symm;refine⟨_,x,rfl,fun w' hc=>?_,h8⟩;have hbl:=(Array.getElem?_eq_some_iff.1 hheap).1;have hcw:w'.heap[b']?=some (.cells cells T (0,0)):=(hc.block b' hbl (by simp)).trans hheap;have h9:w'.cell? ⟨b',off+i.toNat*sz+inner,none⟩=some x:=by
        have:cells[off+i.toNat*sz+inner]?=some x:=by simpa using h7
        simp[World.cell?,hcw,this]
      simp[loadVar,qcP hag,h9,go_sem]
    | _=>simp at h2
  | _=>simp[qeu] at h
theorem st_load (r:Rel F σ γ a w) {t:TypeId} {x:Operand} (ho:o.op = .load t x) (h:((ev σ tg x).bind fun v=>(qeu P σ t v).bind k)=some res):StR P σ γ a w tg o k res:=by
  simp only[Option.bind_eq_some_iff] at h;obtain⟨pv,h1,u,h2,h3⟩:=h;refine StR.of h3 fun hT=>?_;obtain⟨ad,v,e1,h4,h5⟩:=qfX r.o h2 (qa r hT h1);exact⟨v,fun w' hc=>loadAt_of ho e1 (h4 w' (hc (by simp[qgm,ho]))),h5⟩

theorem qbc (r:Rel F σ γ a w) (hT:tagT σ tg) {d n:Int} {x:Option Operand} (h:optI σ tg d x=some n):(x=none∧n=d)∨∃y ki,x=some y∧a.eval y = .int ki n:=by
  cases x with
  | none=>simp only[optI,Option.some.injEq] at h;exact .inl ⟨rfl,h.symm⟩
  | some y =>
    simp only[optI,Option.bind_eq_some_iff,Option.some.injEq] at h;obtain⟨v,h1,q,h2,rfl⟩:=h;exact .inr ⟨y,q.1,rfl,qaO r hT h1 h2⟩
theorem qs {t e:TypeId} (h:qaL P t=some e):P.underlying t=some (.slice e):=by
  simp only[qaL,Option.bind_eq_some_iff] at h;obtain⟨d,h1,h2⟩:=h
  cases d<;>simp at h2
  rw[h1,h2]
theorem qdA {isS:Bool} {len cap:Nat} {lo hi:Option Value} {l h:Int} (hl:(lo=none∧l=0)∨∃ki,lo=some (.int ki l)) (hh:(hi=none∧h=(len:Int))∨∃ki,hi=some (.int ki h)) (hb:qa4 l h len=true) (hcap:len≤cap) (w':World) :
    (Instr.sliceBounds isS len cap lo hi none).run P w' = .ok (l.toNat,h.toNat,cap) w':=by
  simp only[qa4,Bool.and_eq_true,decide_eq_true_eq] at hb;obtain⟨b1,b2,b3⟩:=hb
  have h1:0≤h∧h≤(cap:Int):=by omega
  have h2:0≤l∧l≤((h.toNat:Nat):Int):=by omega
  rcases hh with ⟨rfl,rfl⟩ | ⟨kh,rfl⟩<;>rcases hl with ⟨rfl,rfl⟩ | ⟨kl,rfl⟩
  · simp[Instr.sliceBounds,go_sem]
  · have h3:0≤l∧l≤(len:Int):=by omega
    simp[Instr.sliceBounds,Instr.sliceBound,asIntOf,h3,go_sem]
  · simp[Instr.sliceBounds,Instr.sliceBound,asIntOf,h1,go_sem]
  · simp[Instr.sliceBounds,Instr.sliceBound,asIntOf,h1,h2,go_sem];intro hlt;omega
theorem qeC {x:Option Operand} (h:qbG x=true):∃ki,x=some (.const (.int ki 0)):=by
  unfold qbG at h;split at h
  · exact⟨_,rfl⟩
  · cases h
theorem qg9 {t e:TypeId} {inf:TypeInfo} (hu:P.underlying t=some (.slice e)) (hi:P.info? e=some inf) {x:Operand} {hi' mx:Option Operand} (ho:o.op = .slice t x none hi' mx) (h1:qbG hi'=true) (h2:qbG mx=true)
    {ao:Option Addr} {len cap:Nat} (e1:a.eval x = .slice ao len cap) (w':World):(execOp a.eval o).run P w' = .ok (.value (.slice ao 0 0)) w':=by
  obtain⟨k1,rfl⟩:=qeC h1;obtain⟨k2,rfl⟩:=qeC h2;obtain⟨dst,op,type,pos,after,guard⟩:=o;simp only at ho;subst ho;have ec:∀ki,a.eval (.const (.int ki 0)) = .int ki 0:=fun _=>rfl;have ec1:=ec k1;have ec2:=ec k2;generalize a.eval=ρ at e1 ec1 ec2 ⊢;simp[execOp,Instr.sliceAt,Instr.slice,Instr.sliceBounds,Instr.sliceBound,underlying,sizeOf,typeInfo,hu,hi,e1,ec1,ec2,asIntOf,go_sem]
theorem qhU {S:Nat→Prop} {e:Ty} {xs:List (D e)} {l h:Int} {ao:Option Addr} {cap:Nat} {us:List Value} (hcap:xs.length≤cap) (hrep:RepL (fun x c=>Rep w S e x [] c) xs us) (hne:xs≠[]→∃ad,ao=some ad∧S ad.block∧CellsAt w ad us) (hb:qa4 l h xs.length=true) :
    Rep w S (.sl e) ((xs.take h.toNat).drop l.toNat) [] [.slice (if cap=l.toNat then ao else ao.map (·.add (l.toNat*e.size))) (h.toNat-l.toNat) (cap-l.toNat)]:=by
  simp only[qa4,Bool.and_eq_true,decide_eq_true_eq] at hb;obtain⟨b1,b2,b3⟩:=hb
  have hlen:((xs.take h.toNat).drop l.toNat).length=h.toNat-l.toNat:=by simp;omega
  refine⟨rfl,_,cap-l.toNat,_,by rw[hlen],by rw[hlen];omega,(hrep.take (Rep.slen e) h.toNat).drop (Rep.slen e) l.toNat,fun hn=>?_⟩;have hx:xs≠[]:=fun e=>hn (by rw[e,List.take_nil,List.drop_nil]);obtain⟨ad,rfl,hS,hc⟩:=hne hx;have hlt:l.toNat<h.toNat:=by
    rcases Nat.lt_or_ge l.toNat h.toNat with h1 | h1
    · exact h1
    · exact absurd (List.eq_nil_of_length_eq_zero (by rw[hlen];omega)) hn
  have hcl:cap≠l.toNat:=by omega
  rw[if_neg hcl];exact⟨_,rfl,by rw[add_block];exact hS,CellsAt.drop (CellsAt.take hc _) _⟩
theorem qdh {t e:TypeId} {inf:TypeInfo} (hu:P.underlying t=some (.slice e)) (hi:P.info? e=some inf) {x:Operand} {lo hi':Option Operand} (ho:o.op = .slice t x lo hi' none)
    {ao:Option Addr} {len cap:Nat} {l h:Int} (e1:a.eval x = .slice ao len cap) (hl:(lo=none∧l=0)∨∃y ki,lo=some y∧a.eval y = .int ki l) (hh:(hi'=none∧h=(len:Int))∨∃y ki,hi'=some y∧a.eval y = .int ki h)
    (hb:qa4 l h len=true) (hcap:len≤cap) (w':World) :
    (execOp a.eval o).run P w' = .ok (.value (.slice (if cap=l.toNat then ao else ao.map (·.add (l.toNat*inf.size))) (h.toNat-l.toNat) (cap-l.toNat))) w':=by
  have hl':(lo.map a.eval=none∧l=0)∨∃ki,lo.map a.eval=some (.int ki l):=by
    rcases hl with ⟨rfl,rfl⟩ | ⟨y,ki,rfl,hy⟩
    · exact .inl ⟨rfl,rfl⟩
    · exact .inr ⟨ki,by simp[hy]⟩
  have hh':(hi'.map a.eval=none∧h=(len:Int))∨∃ki,hi'.map a.eval=some (.int ki h):=by
    rcases hh with ⟨rfl,rfl⟩ | ⟨y,ki,rfl,hy⟩
    · exact .inl ⟨rfl,rfl⟩
    · exact .inr ⟨ki,by simp[hy]⟩
  have hsb:=qdA (P:=P) (isS:=true) hl' hh' hb hcap w'
  have hsr:(sizeOf e).run P w' = .ok inf.size w':=by simp[sizeOf,typeInfo,hi,go_sem]
  obtain⟨dst,op,type,pos,after,guard⟩:=o;simp only at ho;subst ho;simp only[execOp,Instr.sliceAt,Sem.run_bind,run_underlying hu,Result.andThen_ok,Instr.slice,e1,Option.map_none,hsb,hsr,Sem.run_pure]
theorem qiC (r:Rel F σ γ a w) {t:TypeId} {x:Operand} {lo hi mx:Option Operand} (ho:o.op = .slice t x lo hi mx) (h:sliceS P σ tg t x lo hi mx k=some res):StR P σ γ a w tg o k res:=by
  simp only[sliceS,Option.bind_eq_some_iff] at h;obtain⟨pv,h1,h2⟩:=h;split at h2
  · rename_i s;simp only[chk_some,Bool.and_eq_true,Option.bind_eq_some_iff,req_some] at h2;obtain⟨⟨hm,hu⟩,l,hl,hh,hhh,hb,h3⟩:=h2;refine StR.of h3 fun hT=>⟨_,fun w' _=>?_,rfl⟩;have e1:a.eval x = .string s:=qa r hT h1;have hb':=qao hb hT;have hu':P.underlying t=some .string:=by
      split at hu
      · assumption
      · cases hu
    cases mx with
    | some _=>cases hm
    | none =>
    have hl':(lo.map a.eval=none∧l=0)∨∃ki,lo.map a.eval=some (.int ki l):=by
      rcases qbc r hT hl with ⟨rfl,rfl⟩ | ⟨y,ki,rfl,hy⟩
      · exact .inl ⟨rfl,rfl⟩
      · exact .inr ⟨ki,by simp[hy]⟩
    have hh':(hi.map a.eval=none∧hh=(s.size:Int))∨∃ki,hi.map a.eval=some (.int ki hh):=by
      rcases qbc r hT hhh with ⟨rfl,rfl⟩ | ⟨y,ki,rfl,hy⟩
      · exact .inl ⟨rfl,rfl⟩
      · exact .inr ⟨ki,by simp[hy]⟩
    have hsb:=qdA (P:=P) (isS:=false) hl' hh' hb' (Nat.le_refl s.size) w';obtain⟨dst,op,type,pos,after,guard⟩:=o;simp only at ho;subst ho;simp only[execOp,Instr.sliceAt,Sem.run_bind,run_underlying hu',Result.andThen_ok,Instr.slice,e1,Option.map_none,hsb,Sem.run_pure,Option.isSome_none,Bool.false_eq_true,if_false]
  · rename_i e xs;simp only[Option.bind_eq_some_iff,chk_some] at h2;obtain⟨i,hu,hc,h3⟩:=h2;have hu:=qs hu;obtain⟨inf,hinf,hsz⟩:=qX hc;by_cases hm:mx.isNone=true
    · simp only[hm,cond_true,Option.bind_eq_some_iff,req_some] at h3;obtain⟨l,hl,hh,hhh,hb,h4⟩:=h3
      have hmx:mx=none:=by simpa using hm
      subst hmx;refine StR.of h4 fun hT=>?_;obtain⟨_,ao,cap,us,e1,hcap,hrep,hne⟩:=qa r hT h1;simp only[List.cons.injEq,and_true] at e1;have hb':=qao hb hT;refine⟨_,fun w' _=>qdh hu hinf ho e1 (qbc r hT hl) (qbc r hT hhh) hb' hcap w',?_⟩;rw[hsz];exact qhU hcap hrep hne hb'
    · simp only[Bool.eq_false_iff.2 hm,cond_false,chk_some,Bool.and_eq_true] at h3;obtain⟨⟨hlo,hh0,hm0⟩,h4⟩:=h3
      have hlo':lo=none:=by simpa using hlo
      subst hlo';refine StR.of h4 fun hT=>?_;obtain⟨_,ao,cap,us,e1,_⟩:=qa r hT h1;simp only[List.cons.injEq,and_true] at e1;exact⟨_,fun w' _=>qg9 hu hinf ho hh0 hm0 e1 w',ao,rfl⟩
  · rename_i p;simp only[Option.bind_eq_some_iff] at h2;obtain⟨i,hu,ob,hob,h3⟩:=h2
    cases ob with
    | arr ti e xs fz =>
      simp only[chk_some,Bool.and_eq_true] at h3;obtain⟨⟨hc,hlo,hh0,hm0⟩,h4⟩:=h3
      have hlo':lo=none:=by simpa using hlo
      subst hlo';obtain⟨inf,hinf,hsz⟩:=qX hc;refine StR.of h4 fun hT=>?_;obtain⟨_,_,ao,n,c,e1⟩:=qa r hT h1;exact⟨_,fun w' _=>qg9 (qs hu) hinf ho hh0 hm0 e1 w',ao,rfl⟩
    | _=>simp at h3
  · obtain⟨i,hu,h2⟩:=Option.bind_eq_some_iff.1 h2;by_cases hmn:mx.isNone=true
    · have hmx:mx=none:=by simpa using hmn
      subst hmx;simp only[Option.isNone_none,cond_true,Option.bind_eq_some_iff,chk_some,req_some,Bool.and_eq_true] at h2;obtain⟨⟨hc,hlo⟩,hh,hhh,hb,h4⟩:=h2
      have hlo':lo=none:=by simpa using hlo
      subst hlo';obtain⟨inf,hinf,hsz⟩:=qeQ hc;refine StR.of h4 fun hT=>?_;have e1:a.eval x = .slice none 0 0:=qa r hT h1
      have hb':hh=0:=by simpa using qao hb hT
      subst hb';have:=fun w'=>qdh (qs hu) hinf ho e1 (l:=0) (h:=0) (.inl ⟨rfl,rfl⟩) (qbc r hT hhh) (by decide) (Nat.le_refl _) w';exact⟨.slice none 0 0,fun w' _=>this w',rfl⟩
    · simp only[Bool.eq_false_iff.2 hmn,cond_false,chk_some,Bool.and_eq_true] at h2;obtain⟨⟨hc,hlo,hh0,hm0⟩,h4⟩:=h2
      have hlo':lo=none:=by simpa using hlo
      subst hlo';obtain⟨inf,hinf,hsz⟩:=qeQ hc;refine StR.of h4 fun hT=>?_;have e1:a.eval x = .slice none 0 0:=qa r hT h1;exact⟨_,fun w' _=>qg9 (qs hu) hinf ho hh0 hm0 e1 w',none,rfl⟩
  · cases h2

theorem st_len (r:Rel F σ γ a w) {x:Operand} {t:TypeId} {args:Array Operand} {ats:Array TypeId} (ho:o.op = .call ⟨.builtin .len,args,ats⟩) (ha:args.toList=[x]) (hat:ats.toList=[t]) (h:lenS P σ tg o x t k=some res):StR P σ γ a w tg o k res:=by
  have ha':args = #[x]:=by rw[←Array.toList_inj,ha]
  have hat':ats = #[t]:=by rw[←Array.toList_inj,hat]
  subst ha';subst hat';have key:∀(i:TypeId) (ao:Option Addr) (n c:Nat),qaL P t=some i→a.eval x = .slice ao n c→∀w',(execOp a.eval o).run P w' = .ok (.value (.int .i64 (n:Int))) w':=by
    intro i ao n c hu e1 w';have hu:=qs hu;obtain⟨dst,op,type,pos,after,guard⟩:=o;simp only at ho;subst ho;rw[BigFrame.execOp_builtin,BigFrame.builtin_len]
    have:(#[x].map a.eval) = #[.slice ao n c]:=by simp only[List.map_toArray,List.map_cons,List.map_nil,e1]
    rw[this];simp[Builtin.len_,run_underlying hu,goInt,go_sem]
  simp only[lenS,Option.bind_eq_some_iff] at h;obtain⟨pv,h1,h2⟩:=h;split at h2
  · rename_i e xs;obtain⟨i,hu,h3⟩:=Option.bind_eq_some_iff.1 h2;refine StR.of h3 fun hT=>?_;obtain⟨_,ao,cap,us,e1,_⟩:=qa r hT h1;simp only[List.cons.injEq,and_true] at e1;exact⟨_,fun w' _=>key i _ _ _ hu e1 w',rfl⟩
  · rename_i p;simp only[Option.bind_eq_some_iff] at h2;obtain⟨i,hu,ob,hob,h3⟩:=h2
    cases ob with
    | arr ti e xs fz =>
      refine StR.of h3 fun hT=>?_;obtain⟨_,e1,_⟩:=qa r hT h1;obtain⟨us,h5,_⟩:=r.o.rep p _ hob;rcases h5 with ⟨_,⟨ao,h6⟩,h7,_⟩ | ⟨b,cap,cur,_,h6,_⟩
      · rw[h6] at e1;rw[h7];exact⟨_,fun w' _=>key i _ _ _ hu e1 w',rfl⟩
      · rw[h6] at e1;exact⟨_,fun w' _=>key i _ _ _ hu e1 w',rfl⟩
    | nilr =>
      refine StR.of h3 fun hT=>?_;obtain⟨_,e1,_⟩:=qa r hT h1;rw[show γ p=(.slice none 0 0,none) from r.o.rep p _ hob] at e1;exact⟨_,fun w' _=>key i _ _ _ hu e1 w',rfl⟩
    | _=>simp at h3
  · obtain⟨i,hu,h3⟩:=Option.bind_eq_some_iff.1 h2;refine StR.of h3 fun hT=>?_;obtain⟨ao,e1⟩:=qa r hT h1;exact⟨_,fun w' _=>key i _ _ _ hu e1 w',rfl⟩
  · obtain⟨i,hu,h3⟩:=Option.bind_eq_some_iff.1 h2;refine StR.of h3 fun hT=>?_;obtain⟨_,ao0,n0,c0,ao,cap,_,_,e1,_⟩:=qa r hT h1;exact⟨_,fun w' _=>key i _ _ _ hu e1 w',rfl⟩
  · exact qaz r (fun cs b e=>by rw[ho] at e;cases e) (fun z hz=>by rw[ho] at hz;simpa[Op.operands,Call.operands] using hz) h2
theorem qiG {e:Ty} {xs:List (D e)} {ns:List Int} (h:u8s e xs=some ns):e = .int .u8∧HEq xs ns:=by
  unfold u8s at h;split at h
  · exact⟨rfl,heq_of_eq (Option.some.inj h)⟩
  · cases h
theorem qf8 {w:World} {S:Nat→Prop}:∀ {ns:List Int} {us:List Value},RepL (fun (x:D (.int .u8)) c=>Rep w S (.int .u8) x [] c) ns us→us=ns.map (Value.int .u8)
  | [],us,h=>h
  | n::ns,us,⟨c,r,h1,h2,h3⟩=>by
    subst h1;rw[h2.2,qf8 h3];rfl
theorem qe7 {src dst:TypeId} (h:(qcE P src&&strTy P dst)=true):∃e,P.underlying src=some (.slice e)∧P.underlying e=some (.int .u8)∧P.underlying dst=some .string:=by
  simp only[Bool.and_eq_true,qcE,strTy] at h;obtain⟨h1,h2⟩:=h;split at h1
  · rename_i e he;split at h1
    · rename_i he2;split at h2
      · rename_i hd;exact⟨e,he,he2,hd⟩
      · cases h2
    · cases h1
  · cases h1
theorem conv_run {src dst e:TypeId} (hs:P.underlying src=some (.slice e)) (he:P.underlying e=some (.int .u8)) (hd:P.underlying dst=some .string) {w:World} {ao:Option Addr} {ns:List Int} {cap:Nat}
    (hc:ns≠[]→∃a,ao=some a∧CellsAt w a (ns.map (Value.int .u8))):(convert src dst (.slice ao ns.length cap)).run P w = .ok (.string (strOf ns)) w:=by
  rw[run_convert_bytes_string w src dst e ao ns.length cap hs he hd];have key:∀a:Addr,CellsAt w a (ns.map (Value.int .u8))→(Conv.bytesToString (.slice (some a) ns.length cap)).run P w = .ok (.string (strOf ns)) w:=fun a ha=>by
    have hl:=run_loadCells_list (P:=P) w a (ns.map (Value.int .u8)) ha;rw[List.length_map] at hl;exact run_bytesToString w a ns.length cap ns hl
  by_cases h0:ns=[]
  · subst h0
    cases ao with
    | none=>rfl
    | some a=>exact key a (fun j v hj=>by simp at hj)
  · obtain⟨a,rfl,ha⟩:=hc h0;exact key a ha
theorem st_conv (r:Rel F σ γ a w) {src dst:TypeId} {x:Operand} (ho:o.op = .convert src dst x) (h:convS P σ tg o src dst x k=some res):StR P σ γ a w tg o k res:=by
  have key:∀ {w':World} {e:TypeId} {ao:Option Addr} {ns:List Int} {cap:Nat},P.underlying src=some (.slice e)→P.underlying e=some (.int .u8)→P.underlying dst=some .string→a.eval x = .slice ao ns.length cap →
      (ns≠[]→∃a,ao=some a∧CellsAt w' a (ns.map (Value.int .u8)))→(execOp a.eval o).run P w' = .ok (.value (.string (strOf ns))) w':=by
    intro w' e ao ns cap hs he hd e1 hc;have:=conv_run hs he hd (cap:=cap) hc;obtain⟨dst',op,type,pos,after,guard⟩:=o;simp only at ho;subst ho;simp only[execOp,Sem.run_bind,e1];rw[this];rfl
  simp only[convS,Option.bind_eq_some_iff] at h;obtain⟨pv,h1,h2⟩:=h;split at h2
  · rename_i e xs;simp only[chk_some,Option.bind_eq_some_iff] at h2;obtain⟨hty,ns,hns,h3⟩:=h2;obtain⟨el,hs,he,hd⟩:=qe7 hty;obtain⟨rfl,hxs⟩:=qiG hns;obtain rfl:=eq_of_heq hxs;refine StR.of h3 fun hT=>?_;obtain⟨_,ao,cap,us,e1,hcap,hrep,hne⟩:=qa r hT h1;simp only[List.cons.injEq,and_true] at e1;have hus:=qf8 hrep;refine⟨_,fun w' hc=>key hs he hd e1 fun h0=>?_,rfl⟩;obtain⟨b,h4,h5,h6⟩:=hne h0;refine⟨b,h4,?_⟩;rw[←hus];exact CellsAt.mono h6 ((hc (by simp[qgm,ho])).block _ h5.lt (by simp))
  · rename_i p;simp only[chk_some,Option.bind_eq_some_iff] at h2;obtain⟨hty,ob,hob,h3⟩:=h2
    cases ob with
    | arr ti e xs fz =>
      obtain⟨ns,hns,h3⟩:=Option.bind_eq_some_iff.1 h3;obtain⟨el,hs,he,hd⟩:=qe7 hty;obtain⟨rfl,hxs⟩:=qiG hns;obtain rfl:=eq_of_heq hxs;refine StR.of h3 fun hT=>?_;obtain⟨_,e1,_⟩:=qa r hT h1;obtain⟨us,h5,hrep⟩:=r.o.rep p _ hob;have hus:=qf8 hrep;subst hus;by_cases h0:xs=[]
      · subst h0;rcases h5 with ⟨_,⟨ao,h6⟩,h7,_⟩ | ⟨b,cap,cur,_,h6,_⟩
        · rw[h6] at e1;exact⟨_,fun w' hc=>key (ns:=[]) hs he hd e1 (fun h=>absurd rfl h),rfl⟩
        · rw[h6] at e1;exact⟨_,fun w' hc=>key (ns:=[]) hs he hd e1 (fun h=>absurd rfl h),rfl⟩
      · obtain⟨b,cap,h6,h7,h8,h9⟩:=h5.cells (fun h=>h0 (List.length_eq_zero_iff.1 h));rw[h7] at e1;have hlt:=OwnR.lt h5 b (by rw[h6];simp);refine⟨_,fun w' hc=>key hs he hd e1 fun _=>⟨_,rfl,?_⟩,rfl⟩;exact CellsAt.mono h9 ((hc (by simp[qgm,ho])).block _ hlt (by simp))
    | _=>simp at h3
  · exact qaz r (fun cs b e=>by rw[ho] at e;cases e) (fun z hz=>by rw[ho] at hz;simpa[Op.operands] using hz) h2
theorem qfE:∀ {vs:List PV} {caps:List (Nat×Nat)} {us:List Value},qgN vs=some caps→vs.length=us.length→(∀(i:Nat) (v:PV) (u:Value),vs[i]?=some v→us[i]?=some u→PR σ.objs γ w v u)→capsLt σ.objs.length caps∧PtrL γ caps us
  | [],caps,us,h,hl,_=>by
    simp only[qgN,Option.some.injEq] at h;subst h;have:us=[]:=List.eq_nil_of_length_eq_zero (by simpa using hl.symm);subst this;exact⟨trivial,rfl⟩
  | v::vs,caps,[],h,hl,_=>by simp at hl
  | v::vs,caps,u::us,h,hl,hp=>by
    unfold qgN at h;split at h
    · cases ‹_::_=[]›
    · rename_i p off q heq;simp only[List.cons.injEq] at heq;obtain⟨rfl,rfl⟩:=heq;simp only[Option.bind_eq_some_iff,Option.some.injEq] at h;obtain⟨l,h1,rfl⟩:=h;obtain⟨hlt,b,hg,e1⟩:=hp 0 _ _ rfl rfl;obtain⟨h2,h3⟩:=qfE h1 (by simpa using hl) (fun i v u hv hu=>hp (i+1) v u (by simpa using hv) (by simpa using hu));exact⟨⟨hlt,h2⟩,b,us,by rw[e1],hg,h3⟩
    · cases h
theorem qfG (r:Rel F σ γ a w) {f:FuncId} {first captured:Array Operand} (ho:o.op = .makeFunc (.func f) first captured) (h:chk first.isEmpty ((evs σ tg captured.toList).bind fun vs=>(qgN vs).bind fun caps=>k (.c (.fn f caps)))=some res):StR P σ γ a w tg o k res:=by
  simp only[chk_some,Option.bind_eq_some_iff] at h;obtain⟨hf,vs,h1,caps,h2,h3⟩:=h
  have hf':first = #[]:=by simpa using hf
  subst hf';refine StR.of h3 fun hT=>?_;obtain⟨hl,hp⟩:=qix r hT h1
  obtain⟨h4,h5⟩:=qfE (us:=captured.toList.map a.eval) h2 (by simp[hl]) (fun i v u hv hu=>by
    simp only[List.getElem?_map,Option.map_eq_some_iff] at hu;obtain⟨x,hx,rfl⟩:=hu
    exact hp i x v hx hv)
  refine⟨.func (.func f) #[] (captured.toList.map a.eval).toArray,fun w' _=>?_,h4,_,rfl,h5⟩;obtain⟨dst,op,type,pos,after,guard⟩:=o;simp only at ho;subst ho;simp only[execOp,Instr.makeFunc,Sem.run_bind,Sem.run_pure,Result.andThen_ok];rw[qh8];simp

theorem qeP {a b:Option α} {r:α} (h:agree a b=some r):a=some r∧b=some r:=by
  unfold agree at h;split at h
  · rename_i e;exact⟨h,e▸h⟩
  · cases h
theorem qhx (r:ORel F σ.objs γ w) {pv:PV} {em:Bool} {v:Value} (h:qd3 σ pv=some em) (hv:PR σ.objs γ w pv v):∃ao n c,v = .slice ao n c∧(ao=none→em=true):=by
  cases pv with
  | c c =>
    cases c with
    | sl e xs =>
      simp only[qd3,Option.some.injEq] at h;obtain⟨_,ao,cap,us,e1,_,_,hne⟩:=hv;simp only[List.cons.injEq,and_true] at e1;refine⟨ao,_,_,e1,fun hao=>?_⟩;by_cases hx:xs=[]
      · rw[←h,hx];rfl
      · obtain⟨ad,h1,_⟩:=hne hx;rw[hao] at h1;cases h1
    | os p =>
      simp only[qd3,Option.bind_eq_some_iff] at h;obtain⟨ob,hob,h⟩:=h
      cases ob with
      | arr i e xs fz =>
        simp only[Option.some.injEq] at h;obtain⟨_,e1,ao,n,c,e2⟩:=hv;refine⟨ao,n,c,e2,fun hao=>?_⟩;by_cases hx:xs=[]
        · rw[←h,hx];rfl
        · obtain⟨b,cap,us,_,h3,_⟩:=qez r hob hx;rw[e2,h3,Value.slice.injEq] at e1;rw[hao] at e1;cases e1.1
      | _=>simp at h
    | e0 =>
      simp only[qd3,Option.some.injEq] at h;obtain⟨ao,e1⟩:=hv;exact⟨ao,0,0,e1,fun _=>h.symm⟩
    | _=>simp[qd3] at h
  | _=>simp[qd3] at h
theorem st_nil (r:Rel F σ γ a w) {op:BinOp} {t t':TypeId} {x y:Operand} (ho:o.op = .binOp op t x y t') {neg:Bool} (hop:op = .eql∧neg=false∨op = .neq∧neg=true) (h:nilS P σ tg o t neg x y k=some res):StR P σ γ a w tg o k res:=by
  unfold nilS at h;by_cases hq:(isNilP y&&(isPtr (ev σ tg x)&&ptrTy P t))=true
  · simp only[hq,cond_true] at h;simp only[Bool.and_eq_true] at hq;obtain⟨hy,hx,ht⟩:=hq;have hy:y = .const (.pointer none):=by
      unfold isNilP at hy;split at hy
      · rfl
      · cases hy
    subst hy;refine StR.of h fun hT=>?_
    cases hev:ev σ tg x with
    | none=>rw[hev] at hx;cases hx
    | some pv =>
      rw[hev] at hx;unfold isPtr at hx;split at hx
      · rename_i p q heq;simp only[Option.some.injEq] at heq;subst heq;obtain⟨_,b,_,e1⟩:=qa r hT hev;have hu:P.underlying t=some (.pointer (P.pointee t)):=by
          unfold ptrTy at ht;split at ht
          · rename_i e he;simp[Program.pointee,he]
          · cases ht
        refine⟨.bool neg,fun w' _=>?_,rfl⟩;have he:=run_equal_pointer_nil (P:=P) w' t (some ⟨b,q,none⟩) hu;obtain⟨dst,op',type,pos,after,guard⟩:=o;simp only at ho;subst ho;have ec:a.eval (.const (.pointer none)) = .pointer none:=rfl;generalize a.eval=ρ at e1 ec ⊢;rcases hop with ⟨rfl,rfl⟩ | ⟨rfl,rfl⟩
        · simp[execOp,eqGuard,binOp,e1,ec,he,go_sem]
        · simp[execOp,eqGuard,binOp,e1,ec,he,go_sem]
      · cases hx
  rw[Bool.not_eq_true] at hq;simp only[hq,cond_false] at h;by_cases hq2:(qdv y&&nilrOf σ (ev σ tg x))=true
  · simp only[hq2,cond_true] at h;simp only[Bool.and_eq_true] at hq2;obtain⟨hn,hx⟩:=hq2;obtain⟨i,hu,h1⟩:=Option.bind_eq_some_iff.1 h;have hu:=qs hu;have hy:y = .const (.slice none 0 0):=by
      unfold qdv at hn;split at hn
      · rfl
      · cases hn
    subst hy;refine StR.of h1 fun hT=>?_
    cases hev:ev σ tg x with
    | none=>rw[hev] at hx;cases hx
    | some pv =>
      rw[hev] at hx;unfold nilrOf at hx;split at hx
      · rename_i p heq;simp only[Option.some.injEq] at heq;subst heq;split at hx
        · rename_i hob;obtain⟨_,e1,_⟩:=qa r hT hev;rw[show γ p=(.slice none 0 0,none) from r.o.rep p _ hob] at e1;refine⟨.bool (!neg),fun w' _=>?_,rfl⟩;have he:=run_equal_slice_nil (P:=P) w' t i none 0 0 hu;obtain⟨dst,op',type,pos,after,guard⟩:=o;simp only at ho;subst ho;have ec:a.eval (.const (.slice none 0 0)) = .slice none 0 0:=rfl;generalize a.eval=ρ at e1 ec ⊢;rcases hop with ⟨rfl,rfl⟩ | ⟨rfl,rfl⟩
          · simp[execOp,eqGuard,binOp,e1,ec,he,go_sem]
          · simp[execOp,eqGuard,binOp,e1,ec,he,go_sem]
        · cases hx
      · cases hx
  rw[Bool.not_eq_true] at hq2;simp only[hq2,cond_false] at h;split at h
  · rename_i q hem;obtain⟨i,hu,h1⟩:=Option.bind_eq_some_iff.1 h;have hu:=qs hu;have hy:y = .const (.slice none 0 0):=by
      by_cases hn:qdv y=true
      · unfold qdv at hn;split at hn
        · rfl
        · cases hn
      · simp only[Bool.eq_false_iff.2 hn,cond_false] at hem;cases hem
    subst hy;simp only[qdv,cond_true] at hem;obtain⟨h1,h2⟩:=req_some.1 h1;refine StR.of h2 fun hT=>?_;have hok:=qao h1 hT
    cases hev:ev σ tg x with
    | none=>rw[hev] at hem;cases hem
    | some pv =>
      rw[hev] at hem;unfold mbrOf at hem;split at hem
      · rename_i p heq;simp only[Option.some.injEq] at heq;subst heq;split at hem
        · rename_i i' e' z hob;simp only[Option.some.injEq] at hem;subst hem;obtain⟨_,e1,_⟩:=qa r hT hev;have key:∃ao n c,a.eval x = .slice ao n c∧((ao=none∧z=none)∨(ao≠none∧∃xs,z=some xs)):=by
            rcases r.o.rep p _ hob with ⟨rfl,h3⟩ | ⟨xs,us,rfl,h3,_⟩
            · rw[h3] at e1;exact⟨_,_,_,e1,.inl ⟨rfl,rfl⟩⟩
            · have hne:xs≠[]:=fun h0=>by subst h0;cases hok
              rcases h3 with ⟨_,_,h4,_⟩ | ⟨b,cap,cur,_,h4,_⟩
              · exact absurd (List.length_eq_zero_iff.1 h4) hne
              · rw[h4] at e1;exact⟨_,_,_,e1,.inr ⟨by simp,xs,rfl⟩⟩
          obtain⟨ao,n,c,e1,hao⟩:=key;refine⟨.bool (qgt neg z),fun w' _=>?_,rfl⟩;have he:=run_equal_slice_nil (P:=P) w' t i ao n c hu;obtain⟨dst,op',type,pos,after,guard⟩:=o;simp only at ho;subst ho;have ec:a.eval (.const (.slice none 0 0)) = .slice none 0 0:=rfl;generalize a.eval=ρ at e1 ec ⊢;rcases hao with ⟨rfl,rfl⟩ | ⟨hn,xs,rfl⟩
          · rcases hop with ⟨rfl,rfl⟩ | ⟨rfl,rfl⟩
            · simp[execOp,eqGuard,binOp,e1,ec,he,go_sem,qgt]
            · simp[execOp,eqGuard,binOp,e1,ec,he,go_sem,qgt]
          · obtain⟨ad,rfl⟩:=Option.ne_none_iff_exists'.1 hn;rcases hop with ⟨rfl,rfl⟩ | ⟨rfl,rfl⟩
            · simp[execOp,eqGuard,binOp,e1,ec,he,go_sem,qgt]
            · simp[execOp,eqGuard,binOp,e1,ec,he,go_sem,qgt]
        · cases hem
      · cases hem
  split at h
  · rename_i em hem;obtain⟨i,hu,h1⟩:=Option.bind_eq_some_iff.1 h;have hu:=qs hu;have hy:y = .const (.slice none 0 0):=by
      by_cases hn:qdv y=true
      · unfold qdv at hn;split at hn
        · rfl
        · cases hn
      · simp only[Bool.eq_false_iff.2 hn,cond_false] at hem;cases hem
    subst hy;simp only[qdv,cond_true] at hem;obtain⟨pv,h2,h3⟩:=Option.bind_eq_some_iff.1 hem;refine⟨?_,fun hT=>?_⟩
    · cases em
      · exact⟨_,h1⟩
      · exact⟨_,(qeP h1).1⟩
    · obtain⟨ao,n,c,e1,hao⟩:=qhx r.o h3 (qa r hT h2);have hrun:∀w',(execOp a.eval o).run P w' = .ok (.value (.bool (ao.isNone !=neg))) w':=fun w'=>by
        have he:=run_equal_slice_nil (P:=P) w' t i ao n c hu;obtain⟨dst,op',type,pos,after,guard⟩:=o;simp only at ho;subst ho;have ec:a.eval (.const (.slice none 0 0)) = .slice none 0 0:=rfl;generalize a.eval=ρ at e1 ec ⊢;rcases hop with ⟨rfl,rfl⟩ | ⟨rfl,rfl⟩
        · simp[execOp,eqGuard,binOp,e1,ec,he,go_sem]
        · simp[execOp,eqGuard,binOp,e1,ec,he,go_sem]
      refine⟨.c (.v (.bool (ao.isNone !=neg))),⟨_,fun w' _=>hrun w',rfl⟩,?_⟩
      cases ao with
      | none =>
        rw[hao rfl] at h1;have:=(qeP h1).1
        cases neg<;>exact this
      | some ad =>
        have:k (.c (.v (.bool neg)))=some res:=by
          cases em
          · exact h1
          · exact(qeP h1).2
        cases neg<;>exact this
  · split at h
    · rename_i b hb;simp only[chk_some] at h;obtain⟨hi,h1⟩:=h;have hu:P.underlying t=some (.interface (P.methodsAt t)):=by
        unfold ifaceTy at hi;split at hi
        · rename_i ms hm;simp[Program.methodsAt,hm]
        · cases hi
      have hy:y = .const .nilIface:=by
        by_cases hn:qiF y=true
        · unfold qiF at hn;split at hn
          · rfl
          · cases hn
        · simp only[Bool.eq_false_iff.2 hn,cond_false] at hb;cases hb
      subst hy;simp only[qiF,cond_true] at hb;obtain⟨pv,h2,h3⟩:=Option.bind_eq_some_iff.1 hb;refine StR.of h1 fun hT=>?_;have e1:=qa r hT h2;obtain⟨v,e2,hv⟩:∃v,a.eval x=v∧((b=false∧v = .nilIface)∨(b=true∧∃t p,v = .iface t p)):=by
        unfold asErr at h3;split at h3
        · simp only[Option.some.injEq] at h3;subst h3;exact⟨_,rfl,e1⟩
        · cases h3
      have ec:a.eval (.const .nilIface) = .nilIface:=rfl;refine⟨_,fun w' _=>?_,rfl⟩;obtain⟨dst,op',type,pos,after,guard⟩:=o;simp only at ho;subst ho;generalize a.eval=ρ at e2 ec ⊢;rcases hv with ⟨rfl,rfl⟩ | ⟨rfl,te,pe,rfl⟩
      · have he:=run_equal_nil_nil (P:=P) w' t hu;rcases hop with ⟨rfl,rfl⟩ | ⟨rfl,rfl⟩
        · simp[execOp,eqGuard,binOp,e2,ec,he,go_sem]
        · simp[execOp,eqGuard,binOp,e2,ec,he,go_sem]
      · have he:=run_equal_held_nil (P:=P) w' t te pe hu;rcases hop with ⟨rfl,rfl⟩ | ⟨rfl,rfl⟩
        · simp[execOp,eqGuard,binOp,e2,ec,he,go_sem]
        · simp[execOp,eqGuard,binOp,e2,ec,he,go_sem]
    · exact qaz r (fun cs b e=>by rw[ho] at e;cases e) (fun z hz=>by rw[ho] at hz;simpa[Op.operands] using hz) h
end
end Go.Den
namespace Go.Den
open Go.Eng
set_option linter.unusedVariables false
set_option linter.unusedSectionVars false
set_option linter.unusedSimpArgs false
variable [CT : Ctx]

def oneV (agg:Bool) (cs:List Value):Value:=bif agg then .agg cs.toArray else cs.headD undef
def tupV:List Ty→List Value→List Value
  | [],_=>[]
  | τ::r,cs=>oneV τ.isAgg (cs.take τ.size)::tupV r (cs.drop τ.size)
def resV (one:Bool) (res:List Ty) (ρ:Ty) (cs:List Value):Value:=bif one then oneV ρ.isAgg cs else .tuple (tupV res cs).toArray
def qfO:(τ:Ty)→D τ→List Value
  | .int k,n=>[.int k n]
  | .bool,b=>[.bool b]
  | .str,s=>[.string s]
  | .st f r,x=>qfO f x.1++qfO r x.2
  | _,_=>[]
def ArgR (w:World) (S:Nat→Prop) (τ:Ty) (x:D τ) (v:Value):Prop:=∃cs,Rep w S τ x [] cs∧v=oneV τ.isAgg cs
def ArgsR (w:World) (S:Nat→Prop):(ps:List Ty)→DL ps→List Value→Prop
  | [],_,vs=>vs=[]
  | τ::r,x,vs=>∃v q,vs=v::q∧ArgR w S τ x.1 v∧ArgsR w S r x.2 q
def ResR (w w':World) (S:Nat→Prop) (c:Con) (r:D c.ρ) (v:Value):Prop:=∃M cs,M.Nodup∧(∀b∈M,w.heap.size≤b)∧Rep w' (fun k=>k<w'.heap.size∧(S k∨w.heap.size≤k)∧k∉M) c.ρ r M cs∧v=resV c.one c.res c.ρ cs
structure ConOK (P:Program) (f:FuncId) (c:Con):Prop where
  pure:c.ps.all Ty.pure=true
  wf:c.one=false→c.ρ=stOf c.res
  tt:∀g,c.tot=some g→∀x,c.φ x=some (g x)
  calls:∀(w:World) (S:Nat→Prop) (args:Array Value) (x:DL c.ps) (r:D c.ρ),(∀k,S k→k<w.heap.size)→TabR S w→ArgsR w S c.ps x args.toList→c.φ x=some r→Calls P f args w (fun e w'=>∃v,e = .returned v∧Chg [] w w'∧ResR w w' S c r v)
def ArgsB (w:World) (S:Nat→Prop):Bool→(ps:List Ty)→DL ps→List Value→Prop
  | false,ps,x,vs=>ArgsR w S ps x vs
  | true,[],_,_=>False
  | true,τ::r,x,vs=>∃a us q,vs = .pointer (some a)::q∧a.block<w.heap.size∧(us≠[]→S a.block)∧CellsAt w a us∧Rep w S τ x.1 [] us∧ArgsR w S r x.2 q
structure ConB (P:Program) (f:FuncId) (b:Bool) (c:Con):Prop where
  pure:c.ps.all Ty.pure=true
  wf:c.one=false→c.ρ=stOf c.res
  tt:∀g,c.tot=some g→∀x,c.φ x=some (g x)
  calls:∀(w:World) (S:Nat→Prop) (args:Array Value) (x:DL c.ps) (r:D c.ρ),(∀k,S k→k<w.heap.size)→TabR S w→ArgsB w S b c.ps x args.toList→c.φ x=some r→Calls P f args w (fun e w'=>∃v,e = .returned v∧Chg [] w w'∧ResR w w' S c r v)
theorem ConOK.b {P:Program} {f:FuncId} {c:Con} (h:ConOK P f c):ConB P f false c:=⟨h.pure,h.wf,h.tt,h.calls⟩
theorem ConB.ok {P:Program} {f:FuncId} {c:Con} (h:ConB P f false c):ConOK P f c:=⟨h.pure,h.wf,h.tt,h.calls⟩
structure SrtOK (P:Program) (f:FuncId) (s:Srt):Prop where
  flat:s.e.flat=true
  len:∀xs,(s.f xs).length=xs.length
  calls:∀(w:World) (S:Nat→Prop) (v:Value) (M:List Nat) (xs:List (D s.e)) (us:List Value),xs.length<4611686018427387904→OwnR w s.i s.e.size v M xs.length us→RepL (fun x c=>Rep w S s.e x [] c) xs us →
    Calls P f (v::(s.g.elim [] fun g=>[.func (.func g) #[] #[]])).toArray w (fun e w'=>e = .returned (.tuple #[])∧Chg M w w'∧∃us',OwnR w' s.i s.e.size v M xs.length us'∧RepL (fun x c=>Rep w' (fun _=>False) s.e x [] c) (s.f xs) us')
def IoR (w w':World) (S:Nat→Prop) (b:Nat) (M:List Nat) (c:Ioc) (r:D (.st c.bx c.ρ)) (v:Value):Prop:=∃T cs M1 M2 cells,w'.heap[b]?=some (.cells cs T (0,0))∧(M1++M2).Nodup∧(∀k∈M1++M2,(k∈M∨w.heap.size≤k)∧k≠b) ∧
  Rep w' (fun k=>k<w'.heap.size∧(S k∨w.heap.size≤k∨k∈M)∧k∉M1++M2∧k≠b) c.bx r.1 M1 cs.toList∧Rep w' (fun k=>k<w'.heap.size∧(S k∨w.heap.size≤k∨k∈M)∧k∉M1++M2∧k≠b) c.ρ r.2 M2 cells∧v=resV c.one c.res c.ρ cells
structure IocOK (P:Program) (f:FuncId) (c:Ioc):Prop where
  pure:c.ps.all Ty.pure=true
  wf:c.one=false→c.ρ=stOf c.res
  calls:∀(w:World) (S:Nat→Prop) (b:Nat) (T:TypeId) (cs:Array Value) (M:List Nat) (args:List Value) (x:DL (c.bx::c.ps)) (r:D (.st c.bx c.ρ)),(∀k,S k→k<w.heap.size∧k≠b∧k∉M)→TabR S w→w.heap[b]?=some (.cells cs T (0,0))→M.Nodup→b∉M →
    Rep w S c.bx x.1 M cs.toList→ArgsR w S c.ps x.2 args→c.φ x=some r→Calls P f (.pointer (some ⟨b,0,none⟩)::args).toArray w (fun e w'=>∃v,e = .returned v∧Chg (b::M) w w'∧IoR w w' S b M c r v)
structure RocOK (P:Program) (f:FuncId) (c:Roc):Prop where
  pure:c.ps.all Ty.pure=true
  flat:c.e.flat=true
  flatR:c.ρ.flat=true
  wf:c.one=false→c.ρ=stOf c.res
  calls:∀(w:World) (S:Nat→Prop) (v:Value) (M:List Nat) (us args all:List Value) (x:DL (.osl c.i c.e::c.ps)) (r:D (.st (.osl c.i c.e) c.ρ)),(∀k,S k→k<w.heap.size∧k∉M)→TabR S w→OwnR w c.i c.e.size v M (List.length (α:=D c.e) x.1) us→RepL (fun x c'=>Rep w S c.e x [] c') x.1 us →
    ArgsR w S c.ps x.2 args→qeq c.j all=some (v,args)→c.φ x=some r→Calls P f all.toArray w (fun e w'=>e = .returned (resV c.one c.res c.ρ (qfO c.ρ r.2))∧Chg M w w'∧∃us',OwnR w' c.i c.e.size v M (List.length (α:=D c.e) r.1) us'∧RepL (fun x c'=>Rep w' (fun _=>False) c.e x [] c') r.1 us')
def GoR (w w':World) (S:Nat→Prop) (Mt M:List Nat) (va:List Value) (c:Goc) (r:D (.st c.tp c.ρ)) (v:Value):Prop:=∃M1 M2 cells,(M1++M2).Nodup∧(∀k∈M1++M2,k∈M∨w.heap.size≤k)∧(∀i e,c.tp = .osl i e→M1=Mt) ∧
  Rep w' (fun k=>k<w'.heap.size∧(S k∨w.heap.size≤k∨k∈M)∧k∉M1++M2) c.tp r.1 M1 va∧Rep w' (fun k=>k<w'.heap.size∧(S k∨w.heap.size≤k∨k∈M)∧k∉M1++M2) c.ρ r.2 M2 cells∧v=resV c.one c.res c.ρ cells
structure GocOK (P:Program) (f:FuncId) (c:Goc):Prop where
  pure:c.ps.all Ty.pure=true
  top:topTy c.tp=true
  wf:c.one=false→c.ρ=stOf c.res
  calls:∀(w:World) (S:Nat→Prop) (Mt Mm:List Nat) (va vb args all:List Value) (x:DL (c.tp::c.mv::c.ps)) (r:D (.st c.tp c.ρ)),(∀k,S k→k<w.heap.size∧k∉Mt++Mm)→TabR S w→(Mt++Mm).Nodup→Rep w S c.tp x.1 Mt va→Rep w S c.mv x.2.1 Mm vb→ArgsR w S c.ps x.2.2 args →
    weave (fun g=>Value.func (.func g) #[] #[]) c.sg va vb args=some all→c.φ x=some r→Calls P f all.toArray w (fun e w'=>∃v,e = .returned v∧Chg (Mt++Mm) w w'∧GoR w w' S Mt (Mt++Mm) va c r v)
def CkOK (P:Program) (f:FuncId) (t:TypeId):Prop:=∀(w:World) (b:Nat) (p v:Value),w.heap[b]?=some (.cells #[p,v] t (0,0))→(p = .pointer none∨p = .pointer (some ⟨b,0,none⟩)) →
  Calls P f #[.pointer (some ⟨b,0,none⟩)] w (fun e w'=>e = .returned (.tuple #[])∧Chg [b] w w'∧w'.heap[b]?=some (.cells #[.pointer (some ⟨b,0,none⟩),v] t (0,0)))
def BsOK (P:Program) (f:FuncId) (t i:TypeId):Prop:=∀(w:World) (b:Nat) (p v:Value) (M:List Nat) (xs:List Int),w.heap[b]?=some (.cells #[p,v] t (0,0))→NE v→OwnR w i 1 v M xs.length (xs.map (Value.int .u8))→b∉M →
  Calls P f #[.pointer (some ⟨b,0,none⟩)] w (fun e w'=>e = .returned (.string (strOf xs))∧Chg M w w')
structure InsOK (P:Program) (f:FuncId) (s:Ins):Prop where
  calls:∀(w:World) (S:Nat→Prop) (v vv:Value) (M Mv:List Nat) (xs ys:List (D s.e)) (us vs:List Value) (j:Nat),OwnR w s.i s.e.size v M xs.length us→RepL (fun x c=>Rep w S s.e x [] c) xs us→OwnR w s.i s.e.size vv Mv ys.length vs →
    RepL (fun x c=>Rep w S s.e x [] c) ys vs→(∀b∈M,b∉Mv)→(∀b∈M,b<w.heap.size)→0<ys.length→j≤xs.length→(xs.length+ys.length)*s.bytes≤140737488355328 →
    Calls P f #[v,.int .i64 j,vv] w (fun e w'=>∃v' M',e = .returned v'∧Chg M w w'∧(M'=M∨M'=[w.heap.size]∧w.heap.size<w'.heap.size)∧OwnR w' s.i s.e.size v' M' (xs.length+ys.length) (us.take (j*s.e.size)++(vs++us.drop (j*s.e.size))))
def EntOK (P:Program) (f:FuncId):Ent→Prop
  | .con c=>ConB P f false c
  | .body fn=>P.funcs[f]?=some fn
  | .srt s=>SrtOK P f s
  | .io c=>IocOK P f c
  | .ro c=>RocOK P f c
  | .rd c=>ConB P f true c
  | .ck t=>CkOK P f t
  | .bs t i=>BsOK P f t i
  | .ins s=>InsOK P f s
  | .go c=>GocOK P f c
structure EnvOK (P:Program) (env:Env):Prop where
  all:∀f e,env.find f=some e→EntOK P f e
section
variable {P : Program} {env : Env}
theorem EnvOK.con (h:EnvOK P env) (f:FuncId) (b:Bool) (c:Con) (hc:env.cb f=some (b,c)):ConB P f b c:=by
  obtain⟨e,he,h1⟩:=Option.bind_eq_some_iff.1 hc;have:=h.all f e he
  cases e<;>simp only[Option.some.injEq,Prod.mk.injEq,reduceCtorEq] at h1
  · obtain⟨rfl,rfl⟩:=h1;exact this
  · obtain⟨rfl,rfl⟩:=h1;exact this
theorem EnvOK.fn (h:EnvOK P env) (f:FuncId) (fn:Func) (hc:env.fn f=some fn):P.funcs[f]?=some fn:=by
  obtain⟨e,he,h1⟩:=Option.bind_eq_some_iff.1 hc;have:=h.all f e he
  cases e<;>simp only[Option.some.injEq,reduceCtorEq] at h1
  subst h1;exact this
theorem EnvOK.srt (h:EnvOK P env) (f:FuncId) (s:Srt) (hc:env.srt f=some s):SrtOK P f s:=by
  obtain⟨e,he,h1⟩:=Option.bind_eq_some_iff.1 hc;have:=h.all f e he
  cases e<;>simp only[Option.some.injEq,reduceCtorEq] at h1
  subst h1;exact this
theorem EnvOK.io (h:EnvOK P env) (f:FuncId) (c:Ioc) (hc:env.io f=some c):IocOK P f c:=by
  obtain⟨e,he,h1⟩:=Option.bind_eq_some_iff.1 hc;have:=h.all f e he
  cases e<;>simp only[Option.some.injEq,reduceCtorEq] at h1
  subst h1;exact this
theorem EnvOK.ro (h:EnvOK P env) (f:FuncId) (c:Roc) (hc:env.ro f=some c):RocOK P f c:=by
  obtain⟨e,he,h1⟩:=Option.bind_eq_some_iff.1 hc;have:=h.all f e he
  cases e<;>simp only[Option.some.injEq,reduceCtorEq] at h1
  subst h1;exact this
theorem EnvOK.ck (h:EnvOK P env) (f:FuncId) (t:TypeId) (hc:env.ck f=some t):CkOK P f t:=by
  obtain⟨e,he,h1⟩:=Option.bind_eq_some_iff.1 hc;have:=h.all f e he
  cases e<;>simp only[Option.some.injEq,reduceCtorEq] at h1
  subst h1;exact this
theorem EnvOK.bs (h:EnvOK P env) (f:FuncId) (t i:TypeId) (hc:env.bs f=some (t,i)):BsOK P f t i:=by
  obtain⟨e,he,h1⟩:=Option.bind_eq_some_iff.1 hc;have:=h.all f e he
  cases e<;>simp only[Option.some.injEq,Prod.mk.injEq,reduceCtorEq] at h1
  obtain⟨rfl,rfl⟩:=h1;exact this
theorem EnvOK.ins (h:EnvOK P env) (f:FuncId) (s:Ins) (hc:env.ins f=some s):InsOK P f s:=by
  obtain⟨e,he,h1⟩:=Option.bind_eq_some_iff.1 hc;have:=h.all f e he
  cases e<;>simp only[Option.some.injEq,reduceCtorEq] at h1
  subst h1;exact this
theorem EnvOK.go (h:EnvOK P env) (f:FuncId) (c:Goc) (hc:env.go f=some c):GocOK P f c:=by
  obtain⟨e,he,h1⟩:=Option.bind_eq_some_iff.1 hc;have:=h.all f e he
  cases e<;>simp only[Option.some.injEq,reduceCtorEq] at h1
  subst h1;exact this
theorem EnvOK.nil (P:Program):EnvOK P []:=⟨fun f e h=>(by cases h)⟩
theorem EnvOK.push {f:FuncId} {e:Ent} (hE:EnvOK P env) (h:EntOK P f e):EnvOK P ((f,e)::env):=by
  refine⟨fun g e' hg=>?_⟩;simp only[Env.find] at hg;by_cases he:Nat.beq f g=true
  · simp only[he,cond_true,Option.some.injEq] at hg;subst hg;rw[←Nat.eq_of_beq_eq_true he];exact h
  · simp only[Bool.eq_false_iff.2 he,cond_false] at hg;exact hE.all g e' hg
theorem EnvOK.cons {f:FuncId} {c:Con} (hE:EnvOK P env) (h:ConOK P f c):EnvOK P ((f,.con c)::env):=hE.push h.b
theorem EnvOK.body {f:FuncId} {fn:Func} (hE:EnvOK P env) (h:P.funcs[f]?=some fn):EnvOK P ((f,.body fn)::env):=hE.push h
theorem EnvOK.general {f:FuncId} {c:Goc} (hE:EnvOK P env) (h:GocOK P f c):EnvOK P ((f,.go c)::env):=hE.push h
end
theorem qiN {τ:Ty} (h:τ.isAgg=false):τ.size=1:=by cases τ<;>first | rfl | cases h
theorem Ty.pure_ids {objs:List OB}:∀(τ:Ty),τ.pure=true→∀l,idsO objs τ l=[]
  | .int _,_,_=>rfl
  | .bool,_,_=>rfl
  | .str,_,_=>rfl
  | .nil,_,_=>rfl
  | .sl _,_,_=>rfl
  | .err,_,_=>rfl
  | .osl _ _,h,_=>by cases h
  | .onl _ _,h,_=>by cases h
  | .obx _,h,_=>by cases h
  | .st f r,h,l=>by
    simp only[Ty.pure,Bool.and_eq_true] at h;simp[idsO,Ty.pure_ids f h.1,Ty.pure_ids r h.2]
theorem qdg {objs objs':List OB}:∀(τ:Ty),τ.pure=true→∀l,idsD objs τ l=idsD objs' τ l
  | .int _,_,_=>rfl
  | .bool,_,_=>rfl
  | .str,_,_=>rfl
  | .nil,_,_=>rfl
  | .sl _,_,_=>rfl
  | .osl _ _,_,_=>rfl
  | .onl _ _,_,_=>rfl
  | .err,_,_=>rfl
  | .obx _,h,_=>by cases h
  | .st f r,h,l=>by
    simp only[Ty.pure,Bool.and_eq_true] at h;simp only[idsD,qdg (objs:=objs) (objs':=objs') f h.1,qdg (objs:=objs) (objs':=objs') r h.2]
theorem qeS {F:Fr} {objs:List OB} {γ:Gh} {w:World} (r:ORel F objs γ w) {o:Nat}:∀(τ:Ty) {l:List Cv} {vs:List Value},VRL objs γ w l vs→o∈idsD objs τ l→o<objs.length
  | .int _,l,_,_,h=>by simp[idsD] at h
  | .bool,l,_,_,h=>by simp[idsD] at h
  | .str,l,_,_,h=>by simp[idsD] at h
  | .nil,l,_,_,h=>by simp[idsD] at h
  | .osl _ _,l,_,_,h=>by simp[idsD] at h
  | .onl _ _,l,_,_,h=>by simp[idsD] at h
  | .err,l,_,_,h=>by simp[idsD] at h
  | .bld _ _,l,_,_,h=>by simp[idsD] at h
  | .sl e,l,vs,hv,h=>by
    simp only[idsD] at h
    cases hc:cv1 l with
    | none=>rw[hc] at h;cases h
    | some c =>
      rw[hc] at h;rw[qcw hc] at hv;obtain⟨v,rfl,h3⟩:=hv.one'
      cases c<;>simp[osId] at h
      rw[h];exact h3.1
  | .obx e,l,vs,hv,h=>by
    simp only[idsD] at h
    cases hb:ownB objs l with
    | none =>
      rw[hb] at h;exact qeS r e (l:=[]) (vs:=[]) rfl (by simpa using h)
    | some bl =>
      rw[hb] at h;obtain⟨p,off,rfl,rfl,hob⟩:=qdz hb;obtain⟨b,T,cells,_,_,hvl⟩:=r.rep p _ hob;exact qeS r e hvl (by simpa using h)
  | .st f q,l,vs,hv,h=>by
    simp only[idsD,List.mem_append] at h;rcases h with h | h
    · exact qeS r f (hv.take f.size) h
    · exact qeS r q (hv.drop f.size) h
theorem onl_lt {w:World} {S:Nat→Prop} {i:TypeId} {e:Ty} {x:D (.onl i e)} {M:List Nat} {cs:List Value} (h:Rep w S (.onl i e) x M cs):∀b∈M,b<w.heap.size:=by
  rcases h with ⟨_,h,_⟩ | ⟨_,_,_,_,_,h,_⟩
  · intro b hb;rw[h] at hb;cases hb
  · exact h.lt
section
variable {P : Program} {env : Env} {F : Fr} {σ : AState} {γ : Gh} {a : Act} {w : World} {tg : Tag} {o : Oper} {α : Type}

def PRL (objs:List OB) (γ:Gh) (w:World):List PV→List Value→Prop
  | [],us=>us=[]
  | p::l,us=>∃u q,us=u::q∧PR objs γ w p u∧PRL objs γ w l q
theorem qdj (r:Rel F σ γ a w) (hT:tagT σ tg):∀ {l:List Operand} {vs:List PV},evs σ tg l=some vs→PRL σ.objs γ w vs (l.map a.eval)
  | [],vs,h=>by simp only[evs,Option.some.injEq] at h;subst h;rfl
  | x::l,vs,h=>by
    simp only[evs,Option.bind_eq_some_iff,Option.some.injEq] at h;obtain⟨v,h1,us,h2,rfl⟩:=h;exact⟨a.eval x,l.map a.eval,rfl,qa r hT h1,qdj r hT h2⟩
theorem qfF {τ:Ty} {pv:PV} {l:List Cv} {u:Value} (h:qaJ pv=some l) (ha:beqB τ.isAgg (qeJ pv)=true) (hv:PR σ.objs γ w pv u):u=oneV τ.isAgg u.cells.toList:=by
  cases pv with
  | c c =>
    have hb:τ.isAgg=false:=by cases hh:τ.isAgg<;>simp_all [beqB,qeJ]
    simp only[qaJ,chk_some] at h;have:=qd1 h.1 hv;rw[hb]
    cases u<;>first | rfl | (simp[Value.oneCell'] at this)
  | agg l' =>
    have hb:τ.isAgg=true:=by cases hh:τ.isAgg<;>simp_all [beqB,qeJ]
    obtain⟨cs,rfl,_⟩:=hv;rw[hb];simp[oneV,Value.cells]
  | _=>simp[qaJ] at h
theorem qby {S:Nat→Prop} (r:ORel F σ.objs γ w) (hS:∀k,Imm σ.objs γ w k→S k):∀ {ps:List Ty} {vs:List PV} {x:DL ps} {us:List Value},argsD σ.objs ps vs=some x→ps.all Ty.pure=true→PRL σ.objs γ w vs us→(∀o∈qe1 ps vs,∀b,o<σ.objs.length→(γ o).2=some b→S b)→ArgsR w S ps x us
  | [],[],x,us,h,_,hv,_=>hv
  | τ::ps,v::vs,x,us,h,hp,⟨u,q,e,h1,h2⟩,hi=>by
    simp only[argsD,Option.bind_eq_some_iff,chk_some] at h;obtain⟨cs,h3,h4,y,h5,z,h6,hx⟩:=h;have hx:(y,z)=x:=Option.some.inj hx;subst hx;simp only[List.all_cons,Bool.and_eq_true] at hp;have hvl:=qbn h3 h1
    obtain⟨h7,_⟩:=qV (S:=S) r hS τ h5 hvl (fun o ho b hb=>by
      have ho2:=ho;rw[qdg (objs':=[]) τ hp.1] at ho2
      exact hi o (by simp[qe1,h3,ho2]) b (qeS r τ hvl ho) hb)
    rw[Ty.pure_ids τ hp.1] at h7;exact⟨u,q,e,⟨_,h7,qfF h3 h4 h1⟩,qby r hS h6 hp.2 h2 (fun o ho=>hi o (by simp[qe1,ho]))⟩
  | [],_::_,x,us,h,_,_,_=>by simp[argsD] at h
  | _::_,[],x,us,h,_,_,_=>by simp[argsD] at h

theorem qhl {l:List Cv} {pv:PV} {v:Value} (r:ORel F σ.objs γ w) (h:qgS σ.objs pv=some l) (hv:PR σ.objs γ w pv v):∃a us,v = .pointer (some a)∧a.block<w.heap.size∧CellsAt w a us∧VRL σ.objs γ w l us:=by
  unfold qgS at h;split at h
  · cases h;obtain⟨a,us,h1,h2,_,h3,h4⟩:=hv;exact⟨a,us,h1,h2,h3,h4⟩
  · rename_i p off;simp only[chk_some,Option.bind_eq_some_iff] at h;obtain⟨h0,ob,hob,h2⟩:=h
    cases ob with
    | box cs =>
      simp only[Option.some.injEq] at h2;subst h2;have h0:=Nat.eq_of_beq_eq_true h0;subst h0;obtain⟨hp1,b,hg,rfl⟩:=hv;obtain⟨b',T,cells,hgg,hheap,hvl⟩:=r.rep p _ hob
      have hbb:b'=b:=by rw[hgg] at hg;simpa using hg
      subst hbb;have:=qbA hheap 0;rw[List.drop_zero] at this;exact⟨_,cells.toList,rfl,(Array.getElem?_eq_some_iff.1 hheap).1,this,hvl⟩
    | _=>simp at h2
  · cases h
theorem qgl (r:ORel F σ.objs γ w) {b:Bool} {ps:List Ty} {vs:List PV} {x:DL ps} {us:List Value} (h:argsB σ.objs b ps vs=some x) (hp:ps.all Ty.pure=true) (hv:PRL σ.objs γ w vs us):ArgsB w (fun k=>k<w.heap.size) b ps x us:=by
  cases b with
  | false=>exact qby r (fun k hk=>hk.lt) h hp hv (fun o _ b ho hb=>r.lt o b ho hb)
  | true =>
    match ps,vs,x,us,h,hp,hv with
    | τ::ps,v::vs,x,us,h,hp,⟨u,q,e,h1,h2⟩ =>
      simp only[argsB,Option.bind_eq_some_iff] at h;obtain⟨cs,h3,y,h5,z,h6,hx⟩:=h;have hx:(y,z)=x:=Option.some.inj hx;subst hx;simp only[List.all_cons,Bool.and_eq_true] at hp;obtain⟨a,cells,rfl,h7,h8,h9⟩:=qhl r h3 h1;obtain⟨h10,_⟩:=qV (S:=fun k=>k<w.heap.size) r (fun k hk=>hk.lt) τ h5 h9 (fun o ho b hb=>r.lt o b (qeS r τ h9 ho) hb);rw[Ty.pure_ids τ hp.1] at h10;exact⟨a,cells,q,e,h7,fun _=>h7,h8,h10,qby r (fun k hk=>hk.lt) h6 hp.2 h2 (fun o _ b ho hb=>r.lt o b ho hb)⟩
    | [],_,_,_,h,_,_=>simp[argsB] at h
    | _::_,[],_,_,h,_,_=>simp[argsB] at h

theorem qaQ {objs:List OB} {τ:Ty} {l:List Cv} {cs:List Value} (hl:l.length=τ.size) (hv:VRL objs γ w l cs):PR objs γ w (qcF τ.isAgg l) (oneV τ.isAgg cs):=by
  cases hb:τ.isAgg with
  | true=>exact⟨cs.toArray,rfl,hv⟩
  | false =>
    rw[qiN hb] at hl;obtain⟨c,rfl⟩:=List.length_eq_one_iff.1 hl;obtain⟨v,rfl,h1⟩:=hv.one';exact h1
theorem qhG {objs:List OB} {τ:Ty} {l:List Cv} {cs:List Value} (hl:l.length=τ.size) (hv:VRL objs γ w l cs):PWR objs γ w (pwCells τ.isAgg l) (oneV τ.isAgg cs):=by
  cases hb:τ.isAgg with
  | true=>exact⟨cs.toArray,rfl,hv⟩
  | false =>
    rw[qiN hb] at hl;obtain⟨c,rfl⟩:=List.length_eq_one_iff.1 hl;obtain⟨v,rfl,h1⟩:=hv.one';exact h1
theorem qcS {objs:List OB}:∀ {res:List Ty} {l:List Cv} {cs:List Value},l.length=(stOf res).size→VRL objs γ w l cs→PWL objs γ w (tupOf res l) (tupV res cs)
  | [],l,cs,_,_=>rfl
  | τ::r,l,cs,hl,hv=>by
    simp only[stOf,Ty.size] at hl;exact⟨_,_,rfl,qhG (by simp;omega) (hv.take τ.size),qcS (by simp;omega) (hv.drop τ.size)⟩
theorem qgz {objs:List OB} {c:Con} (wf:c.one=false→c.ρ=stOf c.res) {x:D c.ρ} {n:Nat} {cs:List Value} (hv:VRL objs γ w (cc c.ρ x n).1 cs):PR objs γ w (resPV c x n).1 (resV c.one c.res c.ρ cs):=by
  unfold resPV resV
  cases hb:c.one with
  | true=>exact qaQ (qcf _ _ _) hv
  | false =>
    refine⟨_,rfl,?_⟩;exact qcS (by rw[qcf,wf hb]) hv

theorem qgX {S:Nat→Prop}:∀(τ:Ty) {x:D τ} {M:List Nat} {cs:List Value},τ.flat=true→Rep w S τ x M cs→cs=qfO τ x
  | .int _,_,_,_,_,h=>h.2
  | .bool,_,_,_,_,h=>h.2
  | .str,_,_,_,_,h=>h.2
  | .nil,_,_,_,_,h=>h.2
  | .sl _,_,_,_,hf,_=>by cases hf
  | .osl _ _,_,_,_,hf,_=>by cases hf
  | .onl _ _,_,_,_,hf,_=>by cases hf
  | .obx _,_,_,_,hf,_=>by cases hf
  | .st f r,x,M,cs,hf,⟨c1,c2,M1,M2,h1,_,h3,h4⟩=>by
    simp only[Ty.flat,Bool.and_eq_true] at hf;rw[h1,qgX f hf.1 h3,qgX r hf.2 h4];rfl
theorem qgV {objs:List OB}:∀(τ:Ty) (x:D τ) (n:Nat),τ.flat=true→VRL objs γ w (cc τ x n).1 (qfO τ x)∧(cc τ x n).2=[]
  | .int _,_,_,_=>⟨⟨_,_,rfl,rfl,rfl⟩,rfl⟩
  | .bool,_,_,_=>⟨⟨_,_,rfl,rfl,rfl⟩,rfl⟩
  | .str,_,_,_=>⟨⟨_,_,rfl,rfl,rfl⟩,rfl⟩
  | .nil,_,_,_=>⟨rfl,rfl⟩
  | .sl _,_,_,hf=>by cases hf
  | .osl _ _,_,_,hf=>by cases hf
  | .onl _ _,_,_,hf=>by cases hf
  | .obx _,_,_,hf=>by cases hf
  | .st f r,x,n,hf=>by
    simp only[Ty.flat,Bool.and_eq_true] at hf;obtain⟨h1,h2⟩:=qgV (objs:=objs) f x.1 n hf.1;obtain⟨h3,h4⟩:=qgV (objs:=objs) r x.2 (n+(cc f x.1 n).2.length) hf.2;refine⟨h1.append h3,?_⟩;show(cc f x.1 n).2++(cc r x.2 (n+(cc f x.1 n).2.length)).2=[];rw[h4,h2];rfl

def StQ (P:Program) (σ:AState) (γ:Gh) (a:Act) (w:World) (tg:Tag) (o:Oper) (k:PV→Option α) (res:α):Prop :=
  (∃pv,k pv=some res)∧(tagT σ tg→∃pv v,(∀w',Chg [] w w'→o.quietAt P a (Chg [] w') w' v)∧PR σ.objs γ w pv v∧k pv=some res)
theorem StR.quiet {k:PV→Option α} {res:α} (h:StR P σ γ a w tg o k res):StQ P σ γ a w tg o k res :=
  ⟨h.1,fun hT=>by
    obtain⟨pv,⟨v,h1,h2⟩,h3⟩:=h.2 hT;refine⟨pv,v,fun w' hc=>?_,h2,h3⟩;unfold Oper.quietAt;rw[h1 w' (fun _=>hc)]
    exact⟨rfl,rfl⟩⟩
theorem qa8 {ρ:Operand→Value} {f:Operand} {args:Array Operand} {ats:Array TypeId} {g:FuncId} {l:List Value} (ho:o.op = .call ⟨.value f,args,ats⟩) (hf:ρ f = .func (.func g) #[] l.toArray):execOp ρ o=callFunc g ((args.toList.map ρ)++l).toArray:=by
  obtain⟨dst,op,type,pos,after,guard⟩:=o;simp only at ho;subst ho;simp only[execOp,resolve,hf,Deferred.ofValue];show(Sem.bind (Sem.pure _) _)=_;simp only[Sem.bind,invoke];congr 1;simp
theorem st_call (hE:EnvOK P env) (r:Rel F σ γ a w) {k:PV→Option α} {res:α} {f:Operand} {args:Array Operand} {ats:Array TypeId} (ho:o.op = .call ⟨.value f,args,ats⟩)
    (h:((ev σ tg f).bind fun q=>(asFn q).bind fun g=>chk g.2.isEmpty ((env.cb g.1).bind fun q=>chk (q.2.ρ.flat&&bodied P g.1) ((evs σ tg args.toList).bind fun vs =>
      (argsB σ.objs q.1 q.2.ps vs).bind fun x=>match q.2.tot with
      | some g=>k (resPV q.2 (g x) 0).1
      | none=>Option.bind (gopt (tagB σ tg) (dflt q.2.ρ) (q.2.φ x)) fun r=>k (resPV q.2 r 0).1)))=some res):StQ P σ γ a w tg o k res:=by
  simp only[Option.bind_eq_some_iff,chk_some,Bool.and_eq_true] at h;obtain⟨q,h1,⟨g,caps⟩,h2,h3,⟨bb,c⟩,h4,⟨hfl,hbo⟩,vs,h5,x,h6,h7⟩:=h;simp only at hfl hbo h6 h7 h4;have hc:=hE.con g bb c h4;have hy:∃y,(tagT σ tg→c.φ x=some y)∧k (resPV c y 0).1=some res:=by
    split at h7
    · rename_i gt hgt;exact⟨gt x,fun _=>hc.tt gt hgt x,h7⟩
    · obtain⟨y,h8,h9⟩:=Option.bind_eq_some_iff.1 h7;refine⟨y,fun hT=>?_,h9⟩;rw[tagB_spec.2 hT] at h8;exact h8
  obtain⟨y,h7,h8⟩:=hy;refine⟨⟨_,h8⟩,fun hT=>?_⟩
  have hcaps:caps=[]:=by simpa using h3
  subst hcaps;have h7':c.φ x=some y:=h7 hT;obtain⟨_,l,hfv,hpl⟩:VR σ.objs γ w (.fn g []) (a.eval f):=by
    have:=qa r hT h1;rw[qaE h2] at this;exact this
  simp only[PtrL] at hpl;subst hpl;have hx:=qa8 (ρ:=a.eval) ho hfv;rw[List.append_nil] at hx;have hcc:=qgV (γ:=γ) (w:=w) (objs:=σ.objs) c.ρ y 0 hfl;refine⟨_,resV c.one c.res c.ρ (qfO c.ρ y),fun w' hw=>?_,qgz hc.wf hcc.1,h8⟩;unfold Oper.quietAt;rw[hx,qY hbo];refine⟨rfl,?_⟩;have ha:=qgl (r.ext hw).o h6 hc.pure (qdj (r.ext hw) hT h5);refine(hc.calls w' _ _ x y (fun k hk=>hk) ((r.ext hw).o.tab.mono (fun k hk=>hk.lt) (fun _ _=>rfl)) (by simpa using ha) h7').mono fun e w'' hh=>?_;obtain⟨v,rfl,hch,M,cs,_,_,hrep,hv⟩:=hh;refine⟨?_,hch⟩;rw[hv,qgX c.ρ hfl hrep]

theorem qc4 (hE:EnvOK P env) (r:Rel F σ γ a w) {k:PV→Option α} {res:α} (h:stepS P env σ tg o k=some res):StQ P σ γ a w tg o k res:=by
  unfold stepS at h;split at h
  · exact(qg7 r (.inl ‹_›) h).quiet
  · exact(qg7 r (.inr ‹_›) h).quiet
  · exact(qfo r ‹_› h).quiet
  · exact(st_pick r ‹_› h).quiet
  · exact(qgx r ‹_› h).quiet
  · rename_i ho;exact(st_bin r ho (fun neg hop hn=>st_nil r ho hop hn) h).quiet
  · rename_i ho;exact(qaz r (fun cs b e=>by rw[ho] at e;cases e) (fun z hz=>by rw[ho] at hz;simpa[Op.operands] using hz) h).quiet
  · rename_i ho;exact(st_conv r ho h).quiet
  · exact(qiK r ‹_› h).quiet
  · exact(qiu r ‹_› h).quiet
  · exact(qiw r ‹_› h).quiet
  · exact(qe4 r ‹_› h).quiet
  · exact(qe5 r ‹_› h).quiet
  · exact(st_load r ‹_› h).quiet
  · exact(qiC r ‹_› h).quiet
  · exact(qfG r ‹_› h).quiet
  · split at h
    · rename_i ho _ _ _ _ ha hat;exact(st_len r ho ha hat h).quiet
    · cases h
  · rename_i ho;exact(qaz r (fun cs b e=>by rw[ho] at e;cases e) (fun z hz=>by rw[ho] at hz;simpa[Op.operands,Call.operands] using hz) h).quiet
  · rename_i ho;exact(qaz r (fun cs b e=>by rw[ho] at e;cases e) (fun z hz=>by rw[ho] at hz;simpa[Op.operands,Call.operands] using hz) h).quiet
  · rename_i ho;exact(qaz r (fun cs b e=>by rw[ho] at e;cases e) (fun z hz=>by rw[ho] at hz;simpa[Op.operands,Call.operands] using hz) h).quiet
  · exact st_call hE r ‹_› h
  · cases h
theorem stepS_val (hcall:qhn o=false) (r:Rel F σ γ a w) {k:PV→Option α} {res:α} (h:stepS P env σ tg o k=some res):StR P σ γ a w tg o k res:=by
  unfold stepS at h;split at h
  · exact(qg7 r (.inl ‹_›) h)
  · exact(qg7 r (.inr ‹_›) h)
  · exact(qfo r ‹_› h)
  · exact(st_pick r ‹_› h)
  · exact(qgx r ‹_› h)
  · rename_i ho;exact(st_bin r ho (fun neg hop hn=>st_nil r ho hop hn) h)
  · rename_i ho;exact(qaz r (fun cs b e=>by rw[ho] at e;cases e) (fun z hz=>by rw[ho] at hz;simpa[Op.operands] using hz) h)
  · rename_i ho;exact(st_conv r ho h)
  · exact(qiK r ‹_› h)
  · exact(qiu r ‹_› h)
  · exact(qiw r ‹_› h)
  · exact(qe4 r ‹_› h)
  · exact(qe5 r ‹_› h)
  · exact(st_load r ‹_› h)
  · exact(qiC r ‹_› h)
  · exact(qfG r ‹_› h)
  · split at h
    · rename_i ho _ _ _ _ ha hat;exact(st_len r ho ha hat h)
    · cases h
  · rename_i ho;exact(qaz r (fun cs b e=>by rw[ho] at e;cases e) (fun z hz=>by rw[ho] at hz;simpa[Op.operands,Call.operands] using hz) h)
  · rename_i ho;exact(qaz r (fun cs b e=>by rw[ho] at e;cases e) (fun z hz=>by rw[ho] at hz;simpa[Op.operands,Call.operands] using hz) h)
  · rename_i ho;exact(qaz r (fun cs b e=>by rw[ho] at e;cases e) (fun z hz=>by rw[ho] at hz;simpa[Op.operands,Call.operands] using hz) h)
  · rename_i ho;simp[qhn,ho] at hcall
  · cases h
end

section
variable {F : Fr} {σ : AState} {γ γ' : Gh} {a : Act} {w w' : World} {objs' : List OB}
theorem Rel.setObjs (r:Rel F σ γ a w) (K:Keep σ.objs γ w objs' γ' w' σ.objs.length) (hs:SameLen σ.objs objs') (ho:ORel F objs' γ' w'):Rel F { σ with objs:=objs' } γ' a w' :=
  ⟨r.size,r.defers,fun t tg pv ht hT=>by
    obtain⟨v,h1,h2⟩:=r.slots t tg pv ht hT
    exact⟨v,h1,PR.keep K h2.below (.inr hs) h2⟩,r.off,r.gs,r.known,ho⟩
end
section
variable {F : Fr} {σ : AState} {γ γ' : Gh} {a : Act} {w w' : World} {objs' : List OB}
theorem Rel.setObjsN (r:Rel F σ γ a w) (K:Keep σ.objs γ w objs' γ' w' σ.objs.length) (ho:ORel F objs' γ' w'):Rel F { σ with objs:=objs' } γ' a w' :=
  ⟨r.size,r.defers,fun t tg pv ht hT=>by
    obtain⟨v,h1,h2⟩:=r.slots t tg pv ht hT
    exact⟨v,h1,PR.keep K h2.below (.inl rfl) h2⟩,r.off,r.gs,r.known,ho⟩
end
section
variable {F : Fr} {objs objs' : List OB} {γ : Gh} {w w' : World}
theorem qu {A:Type} {l:List A} {i:Nat} {x:A} (h:l[i]?=some x):i<l.length:=(List.getElem?_eq_some_iff.1 h).1
theorem Mut.lt {o:Nat} (h:Mut objs o):o<objs.length:=let ⟨_,h1,_⟩:=h;qu h1
theorem SameLen.trans {a b c:List OB} (h:SameLen a b) (g:SameLen b c) (hl:a.length≤b.length):SameLen a c:=fun o ti e xs fz hx hlt=>by
  obtain⟨t1,e1,x1,f1,h1,h2⟩:=g o ti e xs fz hx (by omega);obtain⟨t2,e2,x2,f2,h3,h4⟩:=h o t1 e1 x1 f1 h1 hlt;exact⟨t2,e2,x2,f2,h3,h4.trans h2⟩

structure Frz (F:Fr) (prO:Nat) (objs:List OB) (γ:Gh) (w:World) (objs':List OB):Prop where
  o:ORel F objs' γ w
  keep:Keep objs γ w objs' γ w objs.length
  len:objs'.length=objs.length
  same:SameLen objs objs'
  prot:∀o,bitB prO o=true→objs'[o]?=objs[o]?
  mt:∀o,Mut objs' o→objs'[o]?=objs[o]?
theorem Frz.refl (r:ORel F objs γ w) (prO:Nat):Frz F prO objs γ w objs:=⟨r,⟨fun _ h=>h,fun _ _=>rfl,Nat.le_refl _,fun _ _=>rfl,Nat.le_refl _,rfl⟩,rfl,SameLen.refl _,fun _ _=>rfl,fun _ _=>rfl⟩
theorem Frz.trans {prO:Nat} {a b c:List OB} (h:Frz F prO a γ w b) (g:Frz F prO b γ w c):Frz F prO a γ w c :=
  ⟨g.o,h.keep.trans ⟨g.keep.imm,g.keep.heap,by rw[g.len,h.len];exact Nat.le_refl _,fun _ _=>rfl,Nat.le_refl _,rfl⟩,g.len.trans h.len,h.same.trans g.same (by rw[h.len];exact Nat.le_refl _),fun o ho=>(g.prot o ho).trans (h.prot o ho),
   fun o ho=>(g.mt o ho).trans (h.mt o (by obtain⟨ob,h1,h2⟩:=ho;exact⟨ob,(g.mt o ⟨ob,h1,h2⟩)▸h1,h2⟩))⟩
theorem qhJ (r:ORel F objs γ w) {prO o:Nat} (h:qfN prO objs o=some objs'):Frz F prO objs γ w objs'∧∀b,(γ o).2=some b→Imm objs' γ w b:=by
  simp only[qfN,Option.bind_eq_some_iff] at h;obtain⟨ob,ho,h⟩:=h
  cases ob with
  | arr i e xs fz =>
    cases fz with
    | true =>
      simp only[Option.some.injEq] at h;subst h;exact⟨Frz.refl r prO,fun b hb=>r.frz o i e xs b ho hb⟩
    | false =>
      simp only[chk_some,Bool.not_eq_true',Option.some.injEq] at h;obtain⟨hp,rfl⟩:=h;have hlt:=qu ho;have hget:∀o',(objs.set o (.arr i e xs true))[o']?=if o=o' then some (.arr i e xs true) else objs[o']?:=fun o'=>by
        rw[List.getElem?_set];by_cases e1:o=o'
        · subst e1;simp[hlt]
        · simp[e1]
      have hmut:∀o',Mut (objs.set o (.arr i e xs true)) o'→Mut objs o'∧o'≠o:=by
        rintro o' ⟨ob,h1,h2⟩
        rw[hget] at h1;split at h1
        · cases h1;cases h2
        · rename_i hne;exact⟨⟨ob,h1,h2⟩,fun e=>hne e.symm⟩
      have K:Keep objs γ w (objs.set o (.arr i e xs true)) γ w objs.length:=⟨fun k hk=>⟨hk.1,hk.2,fun o' hm=>hk.3 o' (hmut o' hm).1⟩,fun _ _=>rfl,by simp,fun _ _=>rfl,Nat.le_refl _,rfl⟩
      have himm:∀b,(γ o).2=some b→Imm (objs.set o (.arr i e xs true)) γ w b:=fun b hb =>
        ⟨r.lt o b hlt hb,r.up b (r.own o b ⟨_,ho,rfl⟩ hb),fun o' hm hb'=>(hmut o' hm).2 (r.inj o' o b (hmut o' hm).1 ⟨_,ho,rfl⟩ hb' hb)⟩
      refine⟨⟨⟨fun o' ob' h1=>?_,fun o1 o2 b h1 h2=>r.inj o1 o2 b (hmut o1 h1).1 (hmut o2 h2).1,fun o1 b h1=>r.own o1 b (hmut o1 h1).1,fun o1 b h1=>r.lt o1 b (by simpa using h1),r.chg,fun o1 i1 e1 x1 b h1 h2=>?_,r.up,r.tab.mono K.imm K.heap⟩,K,by simp,?_,?_,?_⟩,himm⟩
      · rw[hget] at h1;split at h1
        · rename_i e1;cases h1;subst e1;exact ObR.keep K (fun _ _=>rfl) (ob := .arr i e xs true) (r.rep o (.arr i e xs false) ho)
        · exact ObR.keep K (fun _ _=>rfl) (r.rep o' _ h1)
      · rw[hget] at h1;split at h1
        · rename_i e2;subst e2;exact himm b h2
        · exact K.imm _ (r.frz o1 i1 e1 x1 b h1 h2)
      · intro o1 ti e1 x1 f1 h1 _;rw[hget] at h1;split at h1
        · rename_i e2;cases h1;subst e2;exact⟨_,_,_,_,ho,rfl⟩
        · exact⟨_,_,_,_,h1,rfl⟩
      · intro o' hp';rw[hget,if_neg];intro e1;subst e1;rw[hp] at hp';cases hp'
      · intro o' hm;rw[hget,if_neg];exact fun e1=>(hmut o' hm).2 e1.symm
  | _=>simp at h
theorem qak {prO:Nat}:∀ {l:List Nat} {objs objs':List OB},ORel F objs γ w→qat prO objs l=some objs'→Frz F prO objs γ w objs'∧∀o∈l,∀b,(γ o).2=some b→Imm objs' γ w b
  | [],objs,objs',r,h=>by simp only[qat,Option.some.injEq] at h;subst h;exact⟨Frz.refl r prO,fun o ho=>by cases ho⟩
  | o::l,objs,objs',r,h=>by
    simp only[qat,Option.bind_eq_some_iff] at h;obtain⟨mid,h1,h2⟩:=h;obtain⟨f1,i1⟩:=qhJ r h1;obtain⟨f2,i2⟩:=qak f1.o h2;refine⟨f1.trans f2,fun o' ho b hb=>?_⟩;rcases List.mem_cons.1 ho with rfl | ho
    · exact f2.keep.imm _ (i1 b hb)
    · exact i2 o' ho b hb

def upd (γ:Gh) (n:Nat) (gs:List (Value×Option Nat)):Gh:=⟨fun o=>if o<n then γ o else(gs[o-n]?).getD (undef,none),γ.S⟩
theorem qek {γ:Gh} {n o:Nat} {gs:List (Value×Option Nat)} (h:o<n):upd γ n gs o=γ o:=by simp[upd,h]
theorem qbo {γ:Gh} {n j:Nat} {gs:List (Value×Option Nat)} {g:Value×Option Nat} (h:gs[j]?=some g):upd γ n gs (n+j)=g:=by
  show(if n+j<n then γ (n+j) else(gs[n+j-n]?).getD (undef,none))=g;rw[if_neg (by omega),Nat.add_sub_cancel_left,h];rfl
theorem qdG {news:List OB} {o:Nat} (h:Mut (objs++news) o):(o<objs.length∧Mut objs o)∨∃j ob,o=objs.length+j∧news[j]?=some ob:=by
  obtain⟨ob,h1,h2⟩:=h;by_cases hlt:o<objs.length
  · rw[List.getElem?_append_left hlt] at h1;exact .inl ⟨hlt,ob,h1,h2⟩
  · rw[List.getElem?_append_right (by omega)] at h1;exact .inr ⟨o-objs.length,ob,by omega,h1⟩
theorem qeR {objs objs0:List OB} {news:List OB} {gs:List (Value×Option Nat)} {M:List Nat} (r:ORel F objs γ w) (K0:Keep objs γ w objs0 γ w' objs.length) (hlen0:objs0.length=objs.length) (hchg:Chg F.M F.w0 w')
    (hgs:gs.length=news.length) (hM:M=gs.flatMap fun g=>g.2.toList) (hnd:M.Nodup)
    (hold:∀o ob,objs0[o]?=some ob→ObR objs γ w ob (γ o)∧(∀b,(γ o).2=some b→w'.heap[b]?=w.heap[b]?)∨ob = .dead∨(Keep objs γ w (objs0++news) (upd γ objs.length gs) w' objs.length→ObR (objs0++news) (upd γ objs.length gs) w' ob (γ o)))
    (hmut:∀o,Mut objs0 o→Mut objs o)
    (hfrz:∀(o:Nat) (i:TypeId) (e:Ty) (xs:List (D e)),objs0[o]?=some (.arr i e xs true)→objs[o]?=some (.arr i e xs true))
    (hfresh:∀b∈M,b<w'.heap.size∧(F.w0.heap.size≤b∨b∈F.M)∧(∀o,Mut objs0 o→(γ o).2≠some b)∧¬Imm objs γ w b)
    (hnew:Keep objs γ w (objs0++news) (upd γ objs.length gs) w' objs.length→∀(j:Nat) ob g,news[j]?=some ob→gs[j]?=some g→ObR (objs0++news) (upd γ objs.length gs) w' ob g∧mutOb ob=true) :
    ORel F (objs0++news) (upd γ objs.length gs) w'∧Keep objs γ w (objs0++news) (upd γ objs.length gs) w' objs.length:=by
  have hmem:∀(j:Nat) g b,gs[j]?=some g→g.2=some b→b∈M:=fun j g b hj hb=>by
    rw[hM];exact List.mem_flatMap.2 ⟨g,List.mem_of_getElem? hj,by simp[hb]⟩
  have hgj:∀(j:Nat) ob,news[j]?=some ob→∃g,gs[j]?=some g:=fun j ob hj=>⟨_,List.getElem?_eq_getElem (by rw[hgs];exact qu hj)⟩;have hmut':∀o,Mut (objs0++news) o→(o<objs.length∧Mut objs0 o∧upd γ objs.length gs o=γ o)∨∃j g,o=objs.length+j∧gs[j]?=some g∧upd γ objs.length gs o=g:=fun o hm=>by
    rcases qdG hm with ⟨h1,h2⟩ | ⟨j,ob,rfl,h1⟩
    · rw[hlen0] at h1;exact .inl ⟨h1,h2,qek h1⟩
    · obtain⟨g,hg⟩:=hgj j ob h1;rw[hlen0];exact .inr ⟨j,g,rfl,hg,qbo hg⟩
  have K:Keep objs γ w (objs0++news) (upd γ objs.length gs) w' objs.length:=by
    refine⟨fun k hk=>⟨(K0.imm k hk).1,hk.2,fun o hm hb=>?_⟩,K0.heap,by simp[hlen0],fun o ho=>qek ho,K0.size,rfl⟩;rcases hmut' o hm with ⟨h1,h2,h3⟩ | ⟨j,g,rfl,hg,h3⟩
    · rw[h3] at hb;exact(K0.imm k hk).3 o h2 hb
    · rw[h3] at hb;exact(hfresh k (hmem j g k hg hb)).2.2.2 hk
  refine⟨⟨fun o ob ho=>?_,fun o o' b h1 h2 hb hb'=>?_,fun o b hm hb=>?_,fun o b ho hb=>?_,hchg,fun o i e xs b ho hb=>?_,r.up,r.tab.mono K.imm K.heap⟩,K⟩
  · by_cases hlt:o<objs.length
    · rw[List.getElem?_append_left (by omega)] at ho;rw[qek hlt];rcases hold o ob ho with ⟨h1,h2⟩ | h1 | h1
      · exact ObR.keep K h2 h1
      · subst h1;trivial
      · exact h1 K
    · rw[List.getElem?_append_right (by omega)] at ho;obtain⟨g,hg⟩:=hgj _ ob ho;have:=(hnew K _ ob g ho hg).1;have e1:upd γ objs.length gs o=g:=by
        have:=qbo (γ:=γ) (n:=objs.length) hg
        rwa [show objs.length+(o-objs0.length)=o by omega] at this
      rw[e1];exact this
  · rcases hmut' o h1 with ⟨l1,m1,e1⟩ | ⟨j1,g1,rfl,hg1,e1⟩<;>rcases hmut' o' h2 with ⟨l2,m2,e2⟩ | ⟨j2,g2,rfl,hg2,e2⟩
    · rw[e1] at hb;rw[e2] at hb';exact r.inj o o' b (hmut o m1) (hmut o' m2) hb hb'
    · rw[e1] at hb;rw[e2] at hb';exact absurd hb ((hfresh b (hmem j2 g2 b hg2 hb')).2.2.1 o m1)
    · rw[e1] at hb;rw[e2] at hb';exact absurd hb' ((hfresh b (hmem j1 g1 b hg1 hb)).2.2.1 o' m2)
    · rw[e1] at hb;rw[e2] at hb';have:∀(l:List (Value×Option Nat)) (j1 j2:Nat),(l.flatMap fun g=>g.2.toList).Nodup→l[j1]?=some g1→l[j2]?=some g2→j1=j2:=by
        intro l
        induction l with
        | nil=>intro j1 j2 _ h;simp at h
        | cons g l ih =>
          intro j1 j2 hn h1 h2;simp only[List.flatMap_cons,List.nodup_append] at hn
          cases j1 with
          | zero =>
            cases j2 with
            | zero=>rfl
            | succ j2 =>
              simp at h1 h2;exact absurd rfl (hn.2.2 b (by rw[h1,hb];simp) b (List.mem_flatMap.2 ⟨g2,List.mem_of_getElem? h2,by simp[hb']⟩))
          | succ j1 =>
            cases j2 with
            | zero =>
              simp at h1 h2;exact absurd rfl (hn.2.2 b (by rw[h2,hb'];simp) b (List.mem_flatMap.2 ⟨g1,List.mem_of_getElem? h1,by simp[hb]⟩))
            | succ j2=>exact congrArg _ (ih j1 j2 hn.2.1 (by simpa using h1) (by simpa using h2))
      rw[this gs j1 j2 (hM▸hnd) hg1 hg2]
  · rcases hmut' o hm with ⟨l1,m1,e1⟩ | ⟨j1,g1,rfl,hg1,e1⟩
    · rw[e1] at hb;exact r.own o b (hmut o m1) hb
    · rw[e1] at hb;exact(hfresh b (hmem j1 g1 b hg1 hb)).2.1
  · by_cases hlt:o<objs.length
    · rw[qek hlt] at hb;exact Nat.lt_of_lt_of_le (r.lt o b hlt hb) K0.size
    · have hj:o-objs.length<gs.length:=by rw[List.length_append] at ho;omega
      have e1:=qbo (γ:=γ) (n:=objs.length) (List.getElem?_eq_getElem hj);rw[show objs.length+(o-objs.length)=o by omega] at e1;rw[e1] at hb;exact(hfresh b (hmem _ _ b (List.getElem?_eq_getElem hj) hb)).1
  · by_cases hlt:o<objs.length
    · rw[List.getElem?_append_left (by omega)] at ho;rw[qek hlt] at hb;exact K.imm _ (r.frz o i e xs b (hfrz o i e xs ho) hb)
    · rw[List.getElem?_append_right (by omega)] at ho;obtain⟨g,hg⟩:=hgj _ _ ho;cases (hnew K _ _ g ho hg).2
theorem qhX {objs objs0:List OB} {news:List OB} {gs:List (Value×Option Nat)} {M:List Nat} (r:ORel F objs γ w) (K0:Keep objs γ w objs0 γ w' objs.length) (hlen0:objs0.length=objs.length) (hchg:Chg F.M F.w0 w')
    (hgs:gs.length=news.length) (hM:M=gs.flatMap fun g=>g.2.toList) (hnd:M.Nodup)
    (hold:∀o ob,objs0[o]?=some ob→ObR objs γ w ob (γ o)∧(∀b,(γ o).2=some b→w'.heap[b]?=w.heap[b]?)∨ob = .dead)
    (hmut:∀o,Mut objs0 o→Mut objs o)
    (hfrz:∀(o:Nat) (i:TypeId) (e:Ty) (xs:List (D e)),objs0[o]?=some (.arr i e xs true)→objs[o]?=some (.arr i e xs true))
    (hfresh:∀b∈M,b<w'.heap.size∧(F.w0.heap.size≤b∨b∈F.M)∧(∀o,Mut objs0 o→(γ o).2≠some b)∧¬Imm objs γ w b)
    (hnew:Keep objs γ w (objs0++news) (upd γ objs.length gs) w' objs.length→∀(j:Nat) ob g,news[j]?=some ob→gs[j]?=some g→ObR (objs0++news) (upd γ objs.length gs) w' ob g∧mutOb ob=true) :
    ORel F (objs0++news) (upd γ objs.length gs) w'∧Keep objs γ w (objs0++news) (upd γ objs.length gs) w' objs.length :=
  qeR r K0 hlen0 hchg hgs hM hnd (fun o ob ho=>(hold o ob ho).imp_right .inl) hmut hfrz hfresh hnew
end
end Go.Den
namespace Go.Den
open Go.Eng
set_option linter.unusedVariables false
set_option linter.unusedSectionVars false
set_option linter.unusedSimpArgs false
variable [CT : Ctx]

theorem qi2 {A:Type} (cu vs:List A) (m j z off:Nat) (hn:j+z≤m) (hcl:m≤cu.length) (hfit:off+vs.length≤z) :
   (cu.take (j+off)++vs++cu.drop (j+off+vs.length)).take m=(cu.take m).take j++((((cu.take m).drop j).take z).take off++vs++(((cu.take m).drop j).take z).drop (off+vs.length))++(cu.take m).drop (j+z):=by
  apply List.ext_getElem?;intro q;simp only[List.getElem?_take,List.getElem?_append,List.getElem?_drop,List.length_append,List.length_take,List.length_drop]
  grind

section
variable {P : Program} {env : Env} {F : Fr} {σ : AState} {γ : Gh} {a : Act} {w : World} {o : Oper} {α : Type} {k : AState → Option α} {res : α} {Q : Exit → Act → World → Prop}

def EfR (P:Program) (F:Fr) (σ:AState) (γ:Gh) (a:Act) (w:World) (o:Oper) (k:AState→Option α) (res:α) (Q:Exit→Act→World→Prop):Prop :=
  o.wp P a w (fun a' w'=>∃σ' γ',k σ'=some res∧Rel F σ' γ' a' w'∧Step σ γ w σ' γ' w') Q
theorem EfR.val {v:Value} {w':World} {σ':AState} {γ':Gh} (h:(execOp a.eval o).run P w = .ok (.value v) w') (hk:k σ'=some res) (hr:Rel F σ' γ' (a.put o.dst v) w') (hs:Step σ γ w σ' γ' w'):EfR P F σ γ a w o k res Q:=by
  unfold EfR Oper.wp;rw[h];exact⟨σ',γ',hk,hr,hs⟩
theorem qb (σ:AState):tagT σ []:=fun x hx=>by cases hx
def EfA (P:Program) (F:Fr) (σ:AState) (γ:Gh) (a:Act) (w:World) (o:Oper) (k:AState→Option α) (res:α) (Q:Exit→Act→World→Prop):Prop :=
  o.wp P a w (fun a' w'=>Chg [] w w'∧∃σ' γ',k σ'=some res∧Rel F σ' γ' a' w'∧Step σ γ w σ' γ' w') Q
theorem EfA.val {v:Value} {w':World} {σ':AState} {γ':Gh} (h:(execOp a.eval o).run P w = .ok (.value v) w') (hc:Chg [] w w') (hk:k σ'=some res) (hr:Rel F σ' γ' (a.put o.dst v) w') (hs:Step σ γ w σ' γ' w'):EfA P F σ γ a w o k res Q:=by
  unfold EfA Oper.wp;rw[h];exact⟨hc,σ',γ',hk,hr,hs⟩
theorem EfA.toR (h:EfA P F σ γ a w o k res Q):EfR P F σ γ a w o k res Q:=Oper.wp_mono (fun _ _ h=>h.2) h

theorem qa7 (r:Rel F σ γ a w) {objs':List OB} {γ':Gh} {w':World} {pv:PV} {v:Value} {σ':AState} (K:Keep σ.objs γ w objs' γ' w' σ.objs.length) (ho:ORel F objs' γ' w') (hs:SameLen σ.objs objs')
    (hp:∀o,o<σ.objs.length→bitB σ.prO o=true→objs'[o]?=σ.objs[o]?) (hput:AState.putO { σ with objs:=objs' } o.dst [] pv=some σ') (hv:PR objs' γ' w' pv v) :
    Rel F σ' γ' (a.put o.dst v) w'∧Step σ γ w σ' γ' w':=by
  have r1:Rel F { σ with objs:=objs' } γ' a w':=r.setObjs K hs ho;refine⟨r1.putO hput (fun x hx=>by cases hx) (fun _=>hv) (fun hn=>absurd (qb _) hn),?_⟩;have s1:Step σ γ w { σ with objs:=objs' } γ' w':=⟨rfl,rfl,rfl,fun _ _ _ h=>h,hp,K⟩;exact s1.trans (Step.putO hput)
theorem ef_putN (r:Rel F σ γ a w) {objs':List OB} {γ':Gh} {w':World} {pv:PV} {v:Value} {σ':AState} (K:Keep σ.objs γ w objs' γ' w' σ.objs.length) (ho:ORel F objs' γ' w')
    (hp:∀o,o<σ.objs.length→bitB σ.prO o=true→objs'[o]?=σ.objs[o]?) (hput:AState.putO { σ with objs:=objs' } o.dst [] pv=some σ') (hv:PR objs' γ' w' pv v) :
    Rel F σ' γ' (a.put o.dst v) w'∧Step σ γ w σ' γ' w':=by
  have r1:Rel F { σ with objs:=objs' } γ' a w':=r.setObjsN K ho;refine⟨r1.putO hput (fun x hx=>by cases hx) (fun _=>hv) (fun hn=>absurd (qb _) hn),?_⟩;have s1:Step σ γ w { σ with objs:=objs' } γ' w':=⟨rfl,rfl,rfl,fun _ _ _ h=>h,hp,K⟩;exact s1.trans (Step.putO hput)
theorem qdF {objs:List OB} {w':World} {news:List OB} {gs:List (Value×Option Nat)} {M:List Nat} (r:ORel F objs γ w) (hc:Chg [] w w') (hgs:gs.length=news.length) (hM:M=gs.flatMap fun g=>g.2.toList) (hnd:M.Nodup)
    (hfresh:∀b∈M,w.heap.size≤b∧b<w'.heap.size)
    (hnew:Keep objs γ w (objs++news) (upd γ objs.length gs) w' objs.length→∀(j:Nat) ob g,news[j]?=some ob→gs[j]?=some g→ObR (objs++news) (upd γ objs.length gs) w' ob g∧mutOb ob=true) :
    ORel F (objs++news) (upd γ objs.length gs) w'∧Keep objs γ w (objs++news) (upd γ objs.length gs) w' objs.length :=
  qhX r (Keep.ext hc) rfl (Chg.trans' r.chg hc) hgs hM hnd (fun o ob ho => .inl ⟨r.rep o ob ho,fun b hb=>hc.block b (r.lt o b (qu ho) hb) (by simp)⟩) (fun _ h=>h) (fun _ _ _ _ h=>h)
    (fun b hb=>⟨(hfresh b hb).2,.inl (Nat.le_trans r.chg.size (hfresh b hb).1),fun o hm hb'=>Nat.not_le_of_lt (r.lt o b hm.lt hb') (hfresh b hb).1,fun hi=>Nat.not_le_of_lt hi.lt (hfresh b hb).1⟩) hnew
theorem qba {objs news:List OB}:SameLen objs (objs++news):=fun o ti e xs fz hx hlt=>by
  rw[List.getElem?_append_left hlt] at hx;exact⟨_,_,_,_,hx,rfl⟩
theorem qe6 {A:Type} {x y:A} {j:Nat} (h:[x][j]?=some y):j=0∧y=x:=by
  cases j with
  | zero=>simp at h;exact⟨rfl,h.symm⟩
  | succ j=>simp at h
theorem ef_bld (r:Rel F σ γ a w) {t:TypeId} {σ':AState} (hrun:(execOp a.eval o).run P w = .ok (.value (.pointer (some ⟨w.heap.size,0,none⟩))) (w.alloc (.cells #[.pointer none,.slice none 0 0] t)))
    (hput:σ.new o.dst (.bld t (.v (.slice none 0 0))) (.c (.ptr σ.objs.length 0))=some σ') (hk:k σ'=some res):EfA P F σ γ a w o k res Q:=by
  have hc:=qch w (.cells #[.pointer none,.slice none 0 0] t)
  obtain⟨ho,K⟩:=qdF (news:=[.bld t (.v (.slice none 0 0))]) (gs:=[(.pointer (some ⟨w.heap.size,0,none⟩),some w.heap.size)]) (M:=[w.heap.size]) r.o hc rfl (by simp) (by simp) (fun b hb=>by
      simp at hb;subst hb;exact⟨Nat.le_refl _,by rw[qbm];omega⟩) (fun K j ob g hj hg=>by
      obtain⟨rfl,rfl⟩:=qe6 hj;obtain⟨_,rfl⟩:=qe6 hg
      exact⟨⟨_,.pointer none,.slice none 0 0,rfl,by have:=qfH w #[.pointer none,.slice none 0 0] t;unfold Blk at this;simpa using this,⟨.inl rfl,.inl rfl⟩,rfl⟩,rfl⟩)
  obtain⟨h1,h2⟩:=qa7 r K ho qba (fun o ho _=>by rw[List.getElem?_append_left ho]) hput (v := .pointer (some ⟨w.heap.size,0,none⟩))
    ⟨by simp,w.heap.size,by have:=qbo (γ:=γ) (n:=σ.objs.length) (j:=0) (gs:=[(.pointer (some ⟨w.heap.size,0,none⟩),some w.heap.size)]) rfl;rw[Nat.add_zero] at this;rw[this],rfl⟩
  exact EfA.val hrun hc hk h1 h2
theorem ef_box (r:Rel F σ γ a w) {l:List Cv} {v:Value} {t:TypeId} {σ':AState} (hl:VRL σ.objs γ w l v.cells.toList) (hrun:(execOp a.eval o).run P w = .ok (.value (.pointer (some ⟨w.heap.size,0,none⟩))) (w.alloc (.cells v.cells t)))
    (hput:σ.new o.dst (.box l) (.c (.ptr σ.objs.length 0))=some σ') (hk:k σ'=some res):EfA P F σ γ a w o k res Q:=by
  have hc:=qch w (.cells v.cells t)
  obtain⟨ho,K⟩:=qdF (news:=[.box l]) (gs:=[(.pointer (some ⟨w.heap.size,0,none⟩),some w.heap.size)]) (M:=[w.heap.size]) r.o hc rfl (by simp) (by simp) (fun b hb=>by
      simp at hb;subst hb;exact⟨Nat.le_refl _,by rw[qbm];omega⟩) (fun K j ob g hj hg=>by
      obtain⟨rfl,rfl⟩:=qe6 hj;obtain⟨_,rfl⟩:=qe6 hg
      exact⟨⟨_,t,v.cells,rfl,by have:=qfH w v.cells t;unfold Blk at this;simpa using this,VRL.keep K hl.below hl⟩,rfl⟩)
  obtain⟨h1,h2⟩:=qa7 r K ho qba (fun o ho _=>by rw[List.getElem?_append_left ho]) hput (v := .pointer (some ⟨w.heap.size,0,none⟩))
    ⟨by simp,w.heap.size,by have:=qbo (γ:=γ) (n:=σ.objs.length) (j:=0) (gs:=[(.pointer (some ⟨w.heap.size,0,none⟩),some w.heap.size)]) rfl;rw[Nat.add_zero] at this;rw[this],rfl⟩
  exact EfA.val hrun hc hk h1 h2
theorem qiT (r:Rel F σ γ a w) {t:TypeId} {x:Operand} (ho:o.op = .box t x) (h:((ev σ [] x).bind fun v=>(qaJ v).bind fun l=>(σ.new o.dst (.box l) (.c (.ptr σ.objs.length 0))).bind k)=some res):EfA P F σ γ a w o k res Q:=by
  simp only[Option.bind_eq_some_iff] at h;obtain⟨pv,h1,l,h2,σ',h3,h4⟩:=h;refine ef_box r (v:=a.eval x) (t:=t) (qbn h2 (qa r (qb σ) h1)) ?_ h3 h4;obtain⟨dst,op,type,pos,after,guard⟩:=o;simp only at ho;subst ho;simp only[execOp,Instr.box,newVar,newRow,newObj];rfl
theorem qiW (r:Rel F σ γ a w) {t:TypeId} (ho:o.op = .alloc t) (h:allocE P env σ o t k=some res):EfA P F σ γ a w o k res Q:=by
  obtain⟨l,h2,h⟩:=Option.bind_eq_some_iff.1 h;obtain⟨i,z,hi,hz,hzv⟩:=qf9 (P:=P) (σ:=σ) (γ:=γ) (w:=w) h2
  have hzr:(zeroValue t).run P w = .ok z w:=by simp[zeroValue,typeInfo,hi,hz,go_sem]
  have hrun:(execOp a.eval o).run P w = .ok (.value (.pointer (some ⟨w.heap.size,0,none⟩))) (w.alloc (.cells z.cells t)):=by
    obtain⟨dst,op,type,pos,after,guard⟩:=o;simp only at ho;subst ho;simp only[execOp,Instr.alloc,Sem.run_bind,hzr,Result.andThen_ok,newVar,newRow,newObj];rfl
  cases hb:env.bldT t with
  | false =>
    rw[hb,cond_false] at h;obtain⟨σ',h3,h4⟩:=Option.bind_eq_some_iff.1 h;exact ef_box r (v:=z) (t:=t) hzv hrun h3 h4
  | true =>
    rw[hb,cond_true] at h;split at h
    · obtain⟨σ',h3,h4⟩:=Option.bind_eq_some_iff.1 h;have hc:z.cells = #[.pointer none,.slice none 0 0]:=by
        obtain⟨v1,q1,e1,e2,v2,q2,e3,e4,e5⟩:=hzv;simp only[VR] at e2 e4;simp only[VRL] at e5;subst e2 e4 e5 e3;rw[←Array.toList_inj,e1]
      rw[hc] at hrun;exact ef_bld r hrun h3 h4
    · cases h

theorem qey {t:TypeId} {inf:TypeInfo} {b off:Nat} {cur:Array Value} {T:TypeId} {v:Value} (hi:P.info? t=some inf) (hb:Row w b cur T) (hs:v.cells.size=inf.size) (hfit:off+v.cells.toList.length≤cur.size) (h1:∀u∈v.cells.toList,u.oneCell'=true)
    {ad x:Operand} (ho:o.op = .store t ad x) (e1:a.eval ad = .pointer (some ⟨b,off,none⟩)) (e2:a.eval x=v) :
    (execOp a.eval o).run P w = .ok .skip (w.setRow b (cur.toList.take off++v.cells.toList++cur.toList.drop (off+v.cells.toList.length)).toArray):=by
  have hst:=qcX (P:=P) hb off v.cells.toList hfit h1
  have hsr:(sizeOf t).run P w = .ok inf.size w:=by simp[sizeOf,typeInfo,hi,go_sem]
  have hv1:(storeVar t ⟨b,off,none⟩ v).run P w = .ok () (w.setRow b (cur.toList.take off++v.cells.toList++cur.toList.drop (off+v.cells.toList.length)).toArray):=by
    unfold storeVar;rw[Sem.run_bind,hsr,Result.andThen_ok];rw[if_neg (fun hn=>hn hs)];exact hst
  obtain⟨dst,op,type,pos,after,guard⟩:=o;simp only at ho;subst ho;simp only[execOp,Sem.run_bind,e1,e2,Instr.storeAt,Instr.sureAddr,Sem.run_pure,Result.andThen_ok,hv1]
theorem qeU {b:Nat} {cs:Array Value}:Chg [b] w (w.setRow b cs) :=
  ⟨rfl,rfl,rfl,by simp[World.setRow],fun j hj hn=>setRow_other w b j cs (fun e=>hn (by simp[e])),fun _=>Nat.le_refl _⟩
theorem qgT {objs:List OB} {p b:Nat} {ob:OB} {w':World} (hch:Chg [b] w w') (r:ORel F objs γ w) (hm:Mut objs p) (hg:(γ p).2=some b)
    (hmut:∀(i:TypeId) (e:Ty) (xs:List (D e)),ob ≠ .arr i e xs true) (hob:Keep objs γ w (objs.set p ob) γ w' objs.length→ObR (objs.set p ob) γ w' ob (γ p)) :
    ORel F (objs.set p ob) γ w'∧Keep objs γ w (objs.set p ob) γ w' objs.length:=by
  have hlt:=hm.lt;have hget:∀o',(objs.set p ob)[o']?=if p=o' then some ob else objs[o']?:=fun o'=>by
    rw[List.getElem?_set];by_cases e1:p=o'
    · subst e1;simp[hlt]
    · simp[e1]
  have hmu:∀o',Mut (objs.set p ob) o'→Mut objs o':=by
    rintro o' ⟨ob',h1,h2⟩
    rw[hget] at h1;split at h1
    · rename_i e;subst e;exact hm
    · exact⟨ob',h1,h2⟩
  have K:Keep objs γ w (objs.set p ob) γ w' objs.length :=
    ⟨fun k hk=>⟨Nat.lt_of_lt_of_le hk.lt hch.size,hk.s,fun o' hm'=>hk.own o' (hmu o' hm')⟩,fun k hk=>hch.block k hk.lt (by simp;intro e;subst e;exact hk.own p hm hg),by simp,fun _ _=>rfl,hch.size,rfl⟩
  have hne:∀o' b',p≠o'→o'<objs.length→(γ o').2=some b'→(∃ob',objs[o']?=some ob'∧(mutOb ob'=true∨(∃i,∃e:Ty,∃xs:List (D e),ob' = .arr i e xs true)))→b'≠b:=by
    rintro o' b' h1 h2 h3 ⟨ob',h4,h5⟩ rfl
    rcases h5 with h5 | ⟨i,e,xs,rfl⟩
    · exact h1 (r.inj p o' b' hm ⟨ob',h4,h5⟩ hg h3)
    · exact(r.frz o' i e xs b' h4 h3).own p hm hg
  refine⟨⟨fun o' ob' h1=>?_,fun o1 o2 b' h1 h2=>r.inj o1 o2 b' (hmu o1 h1) (hmu o2 h2),fun o1 b' h1=>r.own o1 b' (hmu o1 h1),fun o1 b' h1 h2=>Nat.lt_of_lt_of_le (r.lt o1 b' (by simpa using h1) h2) hch.size,?_,fun o1 i e xs b' h1 h2=>?_,r.up,r.tab.mono K.imm K.heap⟩,K⟩
  · rw[hget] at h1;split at h1
    · rename_i e;subst e;cases h1;exact hob K
    · rename_i e
      cases hd:ob' with
      | dead=>trivial
      | bld t c =>
        rw[hd] at h1;exact ObR.keep K (fun b' hb'=>hch.block b' (r.lt o' b' (qu h1) hb') (by simpa using hne o' b' e (qu h1) hb' ⟨_,h1,.inl rfl⟩)) (r.rep o' _ h1)
      | mbr i e' x =>
        rw[hd] at h1;exact ObR.keep K (fun b' hb'=>hch.block b' (r.lt o' b' (qu h1) hb') (by simpa using hne o' b' e (qu h1) hb' ⟨_,h1,.inl rfl⟩)) (r.rep o' _ h1)
      | nilr =>
        rw[hd] at h1;exact ObR.keep K (fun b' hb'=>hch.block b' (r.lt o' b' (qu h1) hb') (by simpa using hne o' b' e (qu h1) hb' ⟨_,h1,.inl rfl⟩)) (r.rep o' _ h1)
      | box l =>
        rw[hd] at h1;exact ObR.keep K (fun b' hb'=>hch.block b' (r.lt o' b' (qu h1) hb') (by simpa using hne o' b' e (qu h1) hb' ⟨_,h1,.inl rfl⟩)) (r.rep o' _ h1)
      | fbx l =>
        rw[hd] at h1;refine ObR.keep K (fun b' hb'=>hch.block b' (r.lt o' b' (qu h1) hb') ?_) (r.rep o' _ h1);obtain⟨b1,_,_,e1,_,_,hi⟩:=r.rep o' _ h1;rw[e1] at hb'
        obtain rfl:b1=b':=by simpa using hb'
        intro hm'
        obtain rfl:b1=b:=by simpa using hm'
        exact hi.own p hm hg
      | arr i e' xs fz =>
        rw[hd] at h1;have hcase:mutOb (.arr i e' xs fz)=true∨(∃i2,∃e2:Ty,∃xs2:List (D e2),OB.arr i e' xs fz = .arr i2 e2 xs2 true):=by
          cases fz
          · exact .inl rfl
          · exact .inr ⟨i,e',xs,rfl⟩
        exact ObR.keep K (fun b' hb'=>hch.block b' (r.lt o' b' (qu h1) hb') (by simpa using hne o' b' e (qu h1) hb' ⟨_,h1,hcase⟩)) (r.rep o' _ h1)
  · have:=r.chg;refine⟨hch.os.trans this.os,hch.tape.trans this.tape,hch.output.trans this.output,Nat.le_trans this.size hch.size,fun k hk hn=>(hch.block k (Nat.lt_of_lt_of_le hk this.size) ?_).trans (this.block k hk hn),fun e=>Nat.le_trans (this.drawn e) (hch.drawn e)⟩;simp;intro e;subst e;rcases r.own p k hm hg with h1 | h1
    · omega
    · exact hn h1
  · rw[hget] at h1;split at h1
    · cases h1;exact absurd rfl (hmut _ _ _)
    · exact K.imm _ (r.frz o1 i e xs b' h1 h2)
theorem qeF {objs:List OB} {p b:Nat} {ob:OB} {w':World} (hch:Chg [b] w w') (r:ORel F objs γ w) (hm:Mut objs p) (hg:(γ p).2=some b)
    (hmut:mutOb ob=true) (hob:Keep objs γ w (objs.set p ob) γ w' objs.length→ObR (objs.set p ob) γ w' ob (γ p)) :
    ORel F (objs.set p ob) γ w'∧Keep objs γ w (objs.set p ob) γ w' objs.length:=qgT hch r hm hg (fun i e xs h=>by rw[h] at hmut;cases hmut) hob
theorem qeN {objs:List OB} {p b:Nat} {ob:OB} {cs:Array Value} (r:ORel F objs γ w) (hm:Mut objs p) (hg:(γ p).2=some b)
    (hmut:mutOb ob=true) (hob:Keep objs γ w (objs.set p ob) γ (w.setRow b cs) objs.length→ObR (objs.set p ob) γ (w.setRow b cs) ob (γ p)) :
    ORel F (objs.set p ob) γ (w.setRow b cs)∧Keep objs γ w (objs.set p ob) γ (w.setRow b cs) objs.length:=qeF qeU r hm hg hmut hob
theorem VRL.setv {objs:List OB}:∀ {l:List Cv} {vs:List Value} {c:Cv} {v:Value} (j:Nat),VRL objs γ w l vs→VR objs γ w c v→VRL objs γ w (l.set j c) (vs.set j v)
  | [],_,_,_,_,h,_=>by simp[VRL] at h;simp[h,VRL]
  | _::_,_,_,_,0,⟨u,q,e,h1,h2⟩,h=>by subst e;exact⟨_,q,rfl,h,h2⟩
  | _::_,_,_,_,j+1,⟨u,q,e,h1,h2⟩,h=>by subst e;exact⟨u,_,rfl,h1,VRL.setv j h2 h⟩
theorem qd6 {objs:List OB} {i:Int} {x:Cv} {off sz inner:Nat} {v:Value} (hx:VR objs γ w x v):∀ {n j:Nat} {cs cs':List Cv} {vs:List Value},qhL i x off sz inner n j cs=some cs'→VRL objs γ w cs vs →
    (((j:Int)≤i∧i<((j+n:Nat):Int))→VRL objs γ w cs' (vs.set (off+i.toNat*sz+inner) v)∧off+i.toNat*sz+inner<vs.length)∧((i<(j:Int)∨((j+n:Nat):Int)≤i)→VRL objs γ w cs' vs)
  | 0,j,cs,cs',vs,h,hv=>by
    simp only[qhL,Option.some.injEq] at h;subst h;exact⟨fun hh=>by omega,fun _=>hv⟩
  | n+1,j,cs,cs',vs,h,hv=>by
    simp only[qhL] at h;split at h
    · rename_i c q hc;obtain⟨c',h1,h2⟩:=Option.bind_eq_some_iff.1 h;have h0:cs[off+j*sz+inner]?=some c:=by
        have:=congrArg (fun l:List Cv=>l[0]?) hc;simpa using this
      obtain⟨u,hu,hcu⟩:=hv.get h0;by_cases hij:i=(j:Int)
      · subst hij;have hc':VR objs γ w c' v:=(qbv h1).1 (by simp) hx;have hv':=VRL.setv (off+j*sz+inner) hv hc';have ih:=(qd6 hx (n:=n) (j:=j+1) h2 hv').2 (.inl (by omega));refine⟨fun _=>⟨?_,?_⟩,fun hh=>by omega⟩
        · simpa using ih
        · simpa using qu hu
      · have hc':VR objs γ w c' u:=(qbv h1).2 (by simpa using hij) hcu;have hv':=VRL.setv (off+j*sz+inner) hv hc';have hset:vs.set (off+j*sz+inner) u=vs:=by
          apply List.ext_getElem?;intro m;rw[List.getElem?_set];split
          · rename_i e;subst e;rw[if_pos (qu hu)];exact hu.symm
          · rfl
        rw[hset] at hv';have ih:=qd6 hx (n:=n) (j:=j+1) h2 hv';refine⟨fun hh=>ih.1 (by omega),fun hh=>ih.2 (by omega)⟩
    · cases h
theorem all_one {l:List Cv} {vs:List Value} (h:l.all qiM=true) (hv:VRL σ.objs γ w l vs):∀u∈vs,u.oneCell'=true:=by
  induction l generalizing vs with
  | nil=>simp only[VRL] at hv;subst hv;intro u hu;cases hu
  | cons c l ih =>
    obtain⟨v,q,rfl,h1,h2⟩:=hv;simp only[List.all_cons,Bool.and_eq_true] at h;intro u hu;rcases List.mem_cons.1 hu with rfl | hu
    · exact qd1 h.1 h1
    · exact ih h.2 h2 u hu
theorem EfR.skip {w':World} {σ':AState} {γ':Gh} (hd:o.dst=none) (h:(execOp a.eval o).run P w = .ok .skip w') (hk:k σ'=some res) (hr:Rel F σ' γ' a w') (hs:Step σ γ w σ' γ' w'):EfR P F σ γ a w o k res Q:=by
  unfold EfR Oper.wp;rw[h];refine⟨σ',γ',hk,?_,hs⟩;rw[hd];exact hr
theorem qex {objs':List OB} {γ':Gh} {w':World} (K:Keep σ.objs γ w objs' γ' w' σ.objs.length) (hp:∀o,o<σ.objs.length→bitB σ.prO o=true→objs'[o]?=σ.objs[o]?):Step σ γ w { σ with objs:=objs' } γ' w':=⟨rfl,rfl,rfl,fun _ _ _ h=>h,hp,K⟩
theorem qx {A:Type} {l:List A} {i j:Nat} {x:A} (h:i≠j):(l.set i x)[j]?=l[j]?:=by rw[List.getElem?_set,if_neg h]
theorem qf5 {objs:List OB} {p:Nat} {l:List Cv}:SameLen objs (objs.set p (.box l)):=fun o ti e xs fz hx hlt=>by
  rw[List.getElem?_set] at hx;split at hx
  · split at hx
    · cases hx
    · cases hx
  · exact⟨_,_,_,_,hx,rfl⟩
theorem qh5 {objs:List OB} {p:Nat} {t:TypeId} {c:Cv}:SameLen objs (objs.set p (.bld t c)):=fun o ti e xs fz hx hlt=>by
  rw[List.getElem?_set] at hx;split at hx
  · split at hx
    · cases hx
    · cases hx
  · exact⟨_,_,_,_,hx,rfl⟩
theorem ef_store (r:Rel F σ γ a w) {t:TypeId} {ad x:Operand} (ho:o.op = .store t ad x) (h:storeE P σ o t ad x k=some res):EfR P F σ γ a w o k res Q:=by
  simp only[storeE,Option.bind_eq_some_iff,chk_some,req_some,Bool.and_eq_true] at h;obtain⟨p,h1,pv,h2,l,h3,⟨hc,hd,hok⟩,hsb,objs',h4,h5⟩:=h
  have hd:o.dst=none:=by simpa using hd
  obtain⟨inf,hi,hsz⟩:=qX hc;have hp:=qa r (qb σ) h1;have hvl:=qbn h3 (qa r (qb σ) h2);have hone:=all_one hok hvl;have hlen:=hvl.length
  have hcs:(a.eval x).cells.size=inf.size:=by rw[hsz];simpa using hlen
  cases p with
  | c c =>
    cases c<;>simp only[storeAt] at h4<;>try (cases h4;done)
    rename_i q off;obtain⟨ob,hob,h6⟩:=Option.bind_eq_some_iff.1 h4
    cases ob with
    | box cs =>
      simp only[chk_some,Bool.and_eq_true,Bool.not_eq_true',Option.some.injEq] at h6;obtain⟨⟨hpr,hfit⟩,rfl⟩:=h6;have hfit:=Nat.le_of_ble_eq_true hfit;obtain⟨hq,b,hg,e1⟩:=hp;obtain⟨b',T,cells,hgg,hheap,hbv⟩:=r.o.rep q _ hob
      have hbb:b'=b:=by rw[hgg] at hg;simpa using hg
      subst hbb;have hcl:=hbv.length;have hrun:=qey (a:=a) hi (Row.of hheap) hcs (by rw[hlen];simp only[Array.length_toList] at hcl;omega) hone ho e1 rfl
      have hd3:VRL σ.objs γ w (cs.drop (off+l.length)) (cells.toList.drop (off+(a.eval x).cells.toList.length)):=by rw[hlen];exact hbv.drop _
      obtain⟨hor,K⟩:=qeN (ob := .box (cs.take off++l++cs.drop (off+l.length))) (cs:=(cells.toList.take off++(a.eval x).cells.toList++cells.toList.drop (off+(a.eval x).cells.toList.length)).toArray) r.o ⟨_,hob,rfl⟩ hg rfl (fun K =>
        ⟨b',T,_,hgg,setRow_heap w b' cells _ T (0,0) hheap,VRL.keep K (((hbv.take off).append hvl).append hd3).below (((hbv.take off).append hvl).append hd3)⟩)
      refine EfR.skip hd hrun h5 (r.setObjs K qf5 hor) (qex K fun o' _ hp'=>qx (fun e=>by subst e;rw[hpr] at hp';cases hp'))
    | bld tb c =>
      simp only at h6;split at h6
      · rename_i ro;obtain⟨ob2,hob2,h6⟩:=Option.bind_eq_some_iff.1 h6
        cases ob2 with
        | arr ri re rxs rfz =>
        simp only[chk_some,req_some,Bool.and_eq_true,Bool.not_eq_true',Option.some.injEq] at h6;obtain⟨⟨hpr,ho1⟩,rfl⟩:=h6;have hrn:Nat.blt 0 rxs.length=true:=by
          simp only[storeB,hob,hob2] at hsb;exact hsb
        obtain rfl:=Nat.eq_of_beq_eq_true ho1;obtain⟨hq,b,hg,e1⟩:=hp;obtain⟨b',pp,vv,hgg,hheap,hpp,hvc⟩:=r.o.rep q _ hob
        have hbb:b'=b:=by rw[hgg] at hg;simpa using hg
        subst hbb;obtain⟨v,hv1,hv2⟩:=hvl.one';have hrun:=qey (a:=a) hi (Row.of hheap) hcs (by rw[hv1];simp) hone ho e1 rfl;rw[hv1] at hrun;have hset:((#[pp,vv]:Array Value).toList.take 1++[v]++(#[pp,vv]:Array Value).toList.drop (1+[v].length)).toArray = #[pp,v]:=rfl;rw[hset] at hrun;have hne:NE v:=by
          obtain⟨_,e2,_⟩:=hv2;obtain⟨us,hown,_⟩:=r.o.rep ro _ hob2;rw[←e2] at hown
          have hrn:0<rxs.length:=by simpa[Nat.blt_eq] using hrn
          rcases hown with ⟨_,_,h0,_⟩ | ⟨b2,cap2,cur2,_,e3,_,h4,_⟩
          · omega
          · exact .inr ⟨_,_,_,e3,by omega⟩
        obtain⟨hor,K⟩:=qeN (ob := .bld tb (.os ro)) (cs:=#[pp,v]) r.o ⟨_,hob,rfl⟩ hg rfl (fun K =>
          ⟨b',pp,v,hgg,setRow_heap w b' _ _ tb (0,0) hheap,⟨hpp.1,hne⟩,VR.keep K hv2.below hv2⟩)
        refine EfR.skip hd hrun h5 (r.setObjs K qh5 hor) (qex K fun o' _ hp'=>qx (fun e=>by subst e;rw[hpr] at hp';cases hp'))
        | _=>simp at h6
      · cases h6
    | _=>simp at h6
  | pa q off sz cnt inner i =>
    simp only[storeAt] at h4;obtain⟨ob,hob,h6⟩:=Option.bind_eq_some_iff.1 h4
    cases ob with
    | box cs =>
      simp only at h6;split at h6
      · rename_i y;simp only[chk_some,Bool.not_eq_true',Option.bind_eq_some_iff,Option.some.injEq] at h6;obtain⟨hpr,cs',hset,rfl⟩:=h6;obtain⟨hq,b,hg,hi0,hi1,e1⟩:=hp;obtain⟨b',T,cells,hgg,hheap,hbv⟩:=r.o.rep q _ hob
        have hbb:b'=b:=by rw[hgg] at hg;simpa using hg
        subst hbb;obtain⟨v,hv1,hv2⟩:=hvl.one';obtain⟨hs1,hs2⟩:=(qd6 hv2 hset hbv).1 ⟨by simpa using hi0,by simpa using hi1⟩;have hrun:=qey (a:=a) hi (Row.of hheap) hcs (by rw[hv1];simp at hs2 ⊢;omega) hone ho e1 rfl;rw[hv1] at hrun;have hset':cells.toList.take (off+i.toNat*sz+inner)++[v]++cells.toList.drop (off+i.toNat*sz+inner+[v].length)=cells.toList.set (off+i.toNat*sz+inner) v:=by
          rw[List.set_eq_take_append_cons_drop,if_pos hs2];simp
        rw[hset'] at hrun
        obtain⟨hor,K⟩:=qeN (ob := .box cs') (cs:=(cells.toList.set (off+i.toNat*sz+inner) v).toArray) r.o ⟨_,hob,rfl⟩ hg rfl (fun K =>
          ⟨b',T,_,hgg,setRow_heap w b' cells _ T (0,0) hheap,VRL.keep K hs1.below hs1⟩)
        refine EfR.skip hd hrun h5 (r.setObjs K qf5 hor) (qex K fun o' _ hp'=>qx (fun e=>by subst e;rw[hpr] at hp';cases hp'))
      · cases h6
    | _=>simp at h6
  | ep q sz i off =>
    simp only[storeAt] at h4;obtain⟨ob,hob,h6⟩:=Option.bind_eq_some_iff.1 h4
    cases ob with
    | arr ti e xs fz =>
      cases fz with
      | true=>simp at h6
      | false =>
      simp only[chk_some,Bool.and_eq_true,Bool.not_eq_true',Option.bind_eq_some_iff] at h6;obtain⟨⟨hpr,hsz2,hfit,hpure⟩,d,hd2,objs1,hfr,ob1,hob1,h7⟩:=h6;have hsz2:=Nat.eq_of_beq_eq_true hsz2;subst hsz2;have hfit:=Nat.le_of_ble_eq_true hfit
      cases ob1 with
      | arr ti1 e1 xs1 fz1 =>
        cases fz1 with
        | true=>simp at h7
        | false =>
        simp only[Option.some.injEq] at h7;subst h7;obtain⟨hq,b,hg,ep1,ao0,n0,c0,hg0,hil⟩:=hp
        have hil:i<xs.length:=by rw[←ObR.len (r.o.rep q _ hob) hg0];exact hil
        obtain⟨f1,f2⟩:=qak r.o hfr
        have hob1':objs1[q]?=some (.arr ti e xs false):=by rw[f1.mt q ⟨_,hob1,rfl⟩,hob]
        have r1:Rel F { σ with objs:=objs1 } γ a w:=r.setObjs f1.keep f1.same f1.o;obtain⟨us,hown,hrep⟩:=f1.o.rep q _ hob1';have hrep0:RepL (fun x c=>Rep w (Imm σ.objs γ w) e x [] c) xs us:=by
          obtain⟨us0,hown0,hrep0⟩:=r.o.rep q _ hob;rcases hown with ⟨_,_,h8,_⟩ | ⟨b1,cap1,cur1,h8,h9,h10,h11,h12,h13,h14⟩
          · exact absurd hil (by omega)
          · rcases hown0 with ⟨_,_,h8',_⟩ | ⟨b2,cap2,cur2,h8',h9',h10',h11',h12',h13',h14'⟩
            · exact absurd hil (by omega)
            · have:b1=b2:=by rw[h8] at h8';simpa using h8'
              subst this;rw[←h14,h10.eq h10',h14'];exact hrep0
        have hx0:=hrep0.get (Rep.slen e) (j:=i) (x:=getD' xs i (dflt e)) (by simp[getD',hil]);have hcell0:=qav e hx0;have hdl:((us.drop (i*e.size)).take e.size).length=e.size:=Rep.length e hx0
        have hnew:VRL σ.objs γ w ((cellsOf e (getD' xs i (dflt e))).take off++l++(cellsOf e (getD' xs i (dflt e))).drop (off+l.length)) (((us.drop (i*e.size)).take e.size).take off++(a.eval x).cells.toList++((us.drop (i*e.size)).take e.size).drop (off+l.length)) :=
          ((hcell0.take off).append hvl).append (hcell0.drop _)
        obtain⟨hdr,_⟩:=qV (S:=Imm objs1 γ w) r.o f1.keep.imm e hd2 hnew (fun o' ho' b' hb'=>f2 o' (by rw[qdg (objs':=[]) e hpure] at ho';exact ho') b' hb');rw[Ty.pure_ids e hpure] at hdr;have hdr:Rep w (Imm objs1 γ w) e d [] _:=hdr;rcases hown with ⟨_,_,h8,_⟩ | ⟨b1,cap1,cur1,h8,h9,h10,h11,h12,h13,h14⟩
        · exact absurd hil (by omega)
        · have hb1:b1=b:=by
            have:=toList_some h8;rw[this] at hg;simpa using hg
          subst hb1;have hcurlen:i*e.size+e.size≤cur1.size:=by
            rw[h13,←Nat.succ_mul];exact Nat.mul_le_mul_right _ (by omega)
          have hrun:=qey (a:=a) hi h10 hcs (off:=i*e.size+off) (by rw[hlen];omega) hone ho ep1 rfl;have hset:=hrep.set (Rep.slen e) hdr i hil
          obtain⟨hor,K⟩:=qeN (ob := .arr ti e (xs.set i d) false) (cs:=(cur1.toList.take (i*e.size+off)++(a.eval x).cells.toList++cur1.toList.drop (i*e.size+off+(a.eval x).cells.toList.length)).toArray) f1.o ⟨_,hob1',rfl⟩ hg rfl (fun K=>by
            refine⟨_,.inr ⟨b1,cap1,_,h8,?_,h10.set _ (by simp only[List.size_toArray,List.length_append,List.length_take,List.length_drop,Array.length_toList,hlen];omega),?_,h12,?_,?_⟩,RepL.keep K hset⟩
            · rw[h9];simp
            · simpa using h11
            · simp only[List.size_toArray,List.length_append,List.length_take,List.length_drop,Array.length_toList,hlen];omega
            · rw[hlen];simp only[List.length_set];rw[←h14]
              have hn:i*e.size+e.size≤xs.length*e.size:=by rw[←Nat.succ_mul];exact Nat.mul_le_mul_right _ hil
              have hcl:xs.length*e.size≤cur1.toList.length:=by simp only[Array.length_toList];rw[h13];exact Nat.mul_le_mul_right _ h11
              have hlv:(a.eval x).cells.toList.length=l.length:=hlen;generalize (a.eval x).cells.toList=vs at hlv ⊢;rw[←hlv] at hfit ⊢
              exact qi2 cur1.toList vs (xs.length*e.size) (i*e.size) e.size off hn hcl hfit)
          have hK:Keep σ.objs γ w (objs1.set q (.arr ti e (xs.set i d) false)) γ (w.setRow b1 _) σ.objs.length:=f1.keep.trans (by rw[←f1.len];exact K);refine EfR.skip hd hrun h5 (r.setObjs hK (f1.same.trans (fun o' ti' e' xs' fz' hx' hlt'=>?_) (by rw[f1.len];exact Nat.le_refl _)) hor) (qex hK fun o' ho' hp'=>?_)
          · rw[List.getElem?_set] at hx';by_cases e2:q=o'
            · subst e2;rw[if_pos rfl,if_pos (qu hob1')] at hx';cases hx';exact⟨_,_,_,_,hob1',by simp⟩
            · rw[if_neg e2] at hx';exact⟨_,_,_,_,hx',rfl⟩
          · rw[qx (fun e2=>by subst e2;rw[hpr] at hp';cases hp')];exact f1.prot o' hp'
      | _=>simp at h7
    | _=>simp at h6
  | _=>simp[storeAt] at h4
end
end Go.Den
namespace Go.Den
open Go.Eng
set_option linter.unusedVariables false
set_option linter.unusedSectionVars false
set_option linter.unusedSimpArgs false
variable [CT : Ctx]

theorem qd7 {vs:List Value} {c:Cv} (h:cv1 (cvs vs)=some c):∃v,vs=[v]∧c = .v v:=by
  cases vs with
  | nil=>cases h
  | cons v r=>cases r with
    | nil=>simp only[cvs,cv1,Option.some.injEq] at h;exact⟨v,rfl,h.symm⟩
    | cons _ _=>cases h
theorem qiB:∀(vs:List Value) (n:Nat),(cvs vs).take n=cvs (vs.take n)
  | [],n=>by simp[cvs]
  | v::r,0=>by simp[cvs]
  | v::r,n+1=>by simp[cvs,qiB r n]
theorem qiD:∀(vs:List Value) (n:Nat),(cvs vs).drop n=cvs (vs.drop n)
  | [],n=>by simp[cvs]
  | v::r,0=>by simp[cvs]
  | v::r,n+1=>by simp[cvs,qiD r n]
theorem zero_rep {w:World} {S:Nat→Prop} (τ:Ty):∀ {x:D τ} {vs:List Value},toD [] τ (cvs vs)=some x→Rep w S τ x [] vs:=by
  induction τ with
  | int k =>
    intro x vs h;obtain⟨c,h1,h2⟩:=Option.bind_eq_some_iff.1 h;obtain⟨v,rfl,rfl⟩:=qd7 h1;have:=qgP h2;simp only[Cv.v.injEq] at this;exact⟨rfl,by rw[this]⟩
  | bool =>
    intro x vs h;obtain⟨c,h1,h2⟩:=Option.bind_eq_some_iff.1 h;obtain⟨v,rfl,rfl⟩:=qd7 h1;have:=qf0 h2;simp only[Cv.v.injEq] at this;exact⟨rfl,by rw[this]⟩
  | str =>
    intro x vs h;obtain⟨c,h1,h2⟩:=Option.bind_eq_some_iff.1 h;obtain⟨v,rfl,rfl⟩:=qd7 h1;have:=qgL h2;simp only[Cv.v.injEq] at this;exact⟨rfl,by rw[this]⟩
  | nil =>
    intro x vs h
    cases vs with
    | nil=>exact⟨rfl,rfl⟩
    | cons _ _=>cases h
  | sl e _ =>
    intro x vs h;obtain⟨c,h1,h2⟩:=Option.bind_eq_some_iff.1 h;obtain⟨v,rfl,rfl⟩:=qd7 h1;obtain⟨rfl,rfl⟩:=ofSl_v h2;exact⟨rfl,none,0,[],rfl,Nat.le_refl _,rfl,fun hn=>absurd rfl hn⟩
  | osl i e _ =>
    intro x vs h;obtain⟨c,h1,h2⟩:=Option.bind_eq_some_iff.1 h;obtain⟨v,rfl,rfl⟩:=qd7 h1;obtain⟨rfl,rfl⟩:=ofOsl_v h2;exact⟨_,[],rfl,.inl ⟨rfl,⟨_,rfl⟩,rfl,rfl⟩,rfl⟩
  | onl i e _ =>
    intro x vs h;obtain⟨c,h1,h2⟩:=Option.bind_eq_some_iff.1 h;obtain⟨v,rfl,rfl⟩:=qd7 h1;obtain⟨rfl,rfl⟩:=ofOnl_v h2;exact .inl ⟨rfl,rfl,rfl⟩
  | obx e _ =>
    intro x vs h;obtain⟨bl,h1,_⟩:=Option.bind_eq_some_iff.1 h;obtain⟨o,off,_,_,hob⟩:=qdz h1;simp at hob
  | err =>
    intro x vs h;obtain⟨c,h1,h2⟩:=Option.bind_eq_some_iff.1 h;obtain⟨v,rfl,rfl⟩:=qd7 h1;exact⟨rfl,v,rfl,qgH (objs:=[]) (γ:=⟨fun _=>(undef,none),fun _=>False⟩) (w:=w) h2 rfl⟩
  | bld t i =>
    intro x vs h;obtain⟨c,h1,_⟩:=Option.bind_eq_some_iff.1 h;obtain⟨o,off,_,_,hob⟩:=qhA h1;simp at hob
  | st f q ihf ihq =>
    intro x vs h;simp only[toD,Option.bind_eq_some_iff] at h;obtain⟨x1,h1,x2,h2,hx⟩:=h;have hx:(x1,x2)=x:=Option.some.inj hx;subst hx;rw[qiB] at h1;rw[qiD] at h2;exact⟨_,_,[],[],(List.take_append_drop f.size vs).symm,rfl,ihf h1,ihq h2⟩
theorem qbM (z:Array Value) (hz:0<z.size):∀n:Nat,(madeCells z (n*z.size)).toList=(List.replicate n z.toList).flatten
  | 0=>by simp[madeCells]
  | n+1=>by
    have ih:=qbM z hz n;simp only[madeCells,Array.toList_map,Array.toList_range] at ih ⊢;rw[List.replicate_succ,List.flatten_cons,←ih,show(n+1)*z.size=z.size+n*z.size by rw[Nat.add_mul];omega,List.range_add,List.map_append,List.map_map];congr 1
    · apply List.ext_getElem
      · simp
      · intro i h1 h2;simp at h2;simp[Nat.mod_eq_of_lt h2,h2]
    · apply List.map_congr_left;intro i _;simp
section
variable {P : Program} {env : Env} {F : Fr} {σ : AState} {γ : Gh} {a : Act} {w : World} {o : Oper} {α : Type} {k : AState → Option α} {res : α} {Q : Exit → Act → World → Prop}

theorem qbk {i:TypeId} {τ:Ty} {x:D τ} (h:qeB P i τ=some x):∃inf z,P.info? i=some inf∧inf.zero=some z∧inf.size=τ.size∧z.cells.size=τ.size∧0<τ.size∧∀(w:World) (S:Nat→Prop),Rep w S τ x [] z.cells.toList:=by
  simp only[qeB,Option.bind_eq_some_iff,chk_some,Bool.and_eq_true,Bool.not_eq_true'] at h;obtain⟨inf,h1,z,h2,⟨h3,h4,h5⟩,h6⟩:=h;have h3:=Nat.eq_of_beq_eq_true h3;refine⟨inf,z,h1,h2,h3,Nat.eq_of_beq_eq_true h4,?_,fun w S=>zero_rep τ h6⟩;rcases Nat.eq_zero_or_pos τ.size with h | h
  · rw[h3,h] at h5;cases h5
  · exact h
theorem ef_row {objs1:List OB} {i:TypeId} {τ:Ty} {xs:List (D τ)} {cells:Array Value} {σ':AState} (r:Rel F σ γ a w) (f1:Frz F σ.prO σ.objs γ w objs1) {cap:Nat} (hcap:xs.length≤cap) (hcm:cap≤maxLen) (hsz:cells.size=cap*τ.size)
    (hrep:RepL (fun x c=>Rep w (Imm objs1 γ w) τ x [] c) xs (cells.toList.take (xs.length*τ.size)))
    (hrun:(execOp a.eval o).run P w = .ok (.value (.slice (some ⟨w.heap.size,0,none⟩) xs.length cap)) (w.alloc (.cells cells i)))
    (hput:AState.new { σ with objs:=objs1 } o.dst (.arr i τ xs false) (.c (.os objs1.length))=some σ') (hk:k σ'=some res):EfA P F σ γ a w o k res Q:=by
  have hc:=qch w (.cells cells i)
  obtain⟨ho,K⟩:=qdF (news:=[.arr i τ xs false]) (gs:=[(.slice (some ⟨w.heap.size,0,none⟩) xs.length cap,some w.heap.size)]) (M:=[w.heap.size]) f1.o hc rfl (by simp) (by simp) (fun b hb=>by
      simp at hb;subst hb;exact⟨Nat.le_refl _,by rw[qbm];omega⟩) (fun K j ob g hj hg=>by
      obtain⟨rfl,rfl⟩:=qe6 hj;obtain⟨_,rfl⟩:=qe6 hg
      exact⟨⟨_,.inr ⟨w.heap.size,cap,cells,rfl,rfl,Row.of (by have:=qfH w cells i;unfold Blk at this;simpa using this),hcap,hcm,hsz,rfl⟩,RepL.keep K hrep⟩,rfl⟩)
  have hK:Keep σ.objs γ w (objs1++[.arr i τ xs false]) _ _ σ.objs.length:=f1.keep.trans (by rw[←f1.len];exact K);obtain⟨h1,h2⟩:=qa7 r hK ho (f1.same.trans qba (by rw[f1.len];exact Nat.le_refl _)) (fun o' ho' hp=>by rw[List.getElem?_append_left (by rw[f1.len];exact ho')];exact f1.prot o' hp) hput (v := .slice (some ⟨w.heap.size,0,none⟩) xs.length cap)
    ⟨by simp,by have:=qbo (γ:=γ) (n:=objs1.length) (j:=0) (gs:=[(Value.slice (some ⟨w.heap.size,0,none⟩) xs.length cap,some w.heap.size)]) rfl;rw[Nat.add_zero] at this;rw[this],_,_,_,rfl⟩
  exact EfA.val hrun hc hk h1 h2
theorem qee {n b:Nat} (h:room n b=true) (hb:Nat.beq b 0=false):n*b≤140737488355328∧n≤140737488355328:=by
  have h1:=Nat.le_of_ble_eq_true h;have h2:0<b:=by
    rcases Nat.eq_zero_or_pos b with h | h
    · subst h;cases hb
    · exact h
  exact⟨h1,Nat.le_trans (Nat.le_mul_of_pos_right n h2) h1⟩
theorem ef_make (r:Rel F σ γ a w) {t:TypeId} {l c:Operand} (ho:o.op = .makeSlice t l c) (h:makeE P σ o t l c k=some res):EfA P F σ γ a w o k res Q:=by
  simp only[makeE,Option.bind_eq_some_iff,chk_some,req_some,Bool.and_eq_true,Bool.not_eq_true'] at h;obtain⟨i,hu,τ,hτ,z,hz,u,h1,⟨kn,n⟩,h2,v,h3,⟨km,m⟩,h4,inf,hinf,⟨hby,hpure⟩,⟨hn0,hnm,hroom⟩,σ',h5,h6⟩:=h;have hu:=qs hu;obtain⟨inf',zv,hi,hzv,hsz,hzs,hpos,hzr⟩:=qbk hz;rw[hinf] at hi;cases hi
  have hnm:n=m:=by simpa using hnm
  subst hnm
  have hn0:0≤n:=by simpa using hn0
  obtain⟨hr1,hr2⟩:=qee hroom hby;have e1:=qaO r (qb σ) h1 h2;have e2:=qaO r (qb σ) h3 h4;have hb2:(inf.bytes:Int)*n≤281474976710656:=by
    have:((n.toNat*inf.bytes:Nat):Int)≤(140737488355328:Nat):=Int.ofNat_le.2 hr1;rw[Int.natCast_mul,Int.toNat_of_nonneg hn0,Int.mul_comm] at this;omega
  have hrun0:=run_make (P:=P) w t i inf zv hu hinf hzv kn km n n hn0 (Int.le_refl _) hb2 (by omega);refine ef_row (xs:=List.replicate n.toNat z) (cells:=madeCells zv.cells (n.toNat*inf.size)) (cap:=n.toNat) r (Frz.refl r.o σ.prO) (by simp) (by unfold maxLen;omega) (by simp[madeCells,hsz]) ?_ ?_ h5 h6
  · rw[hsz,←hzs,qbM _ (by omega)];rw[List.take_of_length_le]
    · exact RepL.replicate (R:=fun x c=>Rep w (Imm σ.objs γ w) τ x [] c) (hzr w _) _
    · simp[hzs]
  · obtain⟨dst,op,type,pos,after,guard⟩:=o;simp only at ho;subst ho;simp only[execOp,Sem.run_bind,e1,e2,hrun0,Result.andThen_ok,Sem.run_pure,List.length_replicate]
theorem qhO {S:Nat→Prop} {τ:Ty} (r:ORel F σ.objs γ w) (hS:∀k,Imm σ.objs γ w k→S k) (hpure:τ.pure=true):∀ {ps:List (Nat×List Cv)} {vals:List (Nat×Value)} {xs ys:List (D τ)} {cells:Array Value},litE σ.objs τ xs ps=some ys→RepL (fun x c=>Rep w S τ x [] c) xs cells.toList→ps.length=vals.length →
    (∀(j:Nat) (p:Nat×Value) (q:Nat×List Cv),vals[j]?=some p→ps[j]?=some q→q.1=p.1∧VRL σ.objs γ w q.2 p.2.cells.toList)→(∀o∈qhD τ ps,∀b,(γ o).2=some b→S b) →
    ∃out,Instr.fill (fun i=>some (i*τ.size,τ.size)) cells vals=some out∧RepL (fun x c=>Rep w S τ x [] c) ys out.toList∧ys.length=xs.length∧out.size=cells.size
  | [],[],xs,ys,cells,h,hv,_,_,_=>by simp only[litE,Option.some.injEq] at h;subst h;exact⟨cells,rfl,hv,rfl,rfl⟩
  | (i,c)::ps,(i',v)::vals,xs,ys,cells,h,hv,hl,hp,hids=>by
    simp only[litE,Option.bind_eq_some_iff,chk_some] at h;obtain⟨d,h1,h2,h4⟩:=h
    have h2:i<xs.length:=by simpa[Nat.blt_eq] using h2
    obtain⟨rfl,hc⟩:=hp 0 _ _ rfl rfl;obtain⟨hd,_⟩:=qV (S:=S) r hS τ h1 hc (fun o ho=>hids o (by rw[qdg (objs':=[]) τ hpure] at ho;simp[qhD,ho]));rw[Ty.pure_ids τ hpure] at hd;have hd:Rep w S τ d [] v.cells.toList:=hd;have lc:=Rep.length τ hd;have lx:=hv.length (Rep.slen τ)
    have hz:v.cells.size=τ.size:=by simpa using lc
    have hfit:i*τ.size+τ.size≤cells.size:=by
      have:i*τ.size+τ.size≤xs.length*τ.size:=by rw[←Nat.succ_mul];exact Nat.mul_le_mul_right _ h2
      simp only[Array.length_toList] at lx;omega
    have hf:(v.cells.zipIdx.foldl (fun cs (p:Value×Nat)=>cs.setIfInBounds (i*τ.size+p.2) p.1) cells).toList=cells.toList.take (i*τ.size)++v.cells.toList++cells.toList.drop (i*τ.size+v.cells.toList.length):=by
      have:=qip (i*τ.size) v.cells.toList cells 0 (by simp;omega);simp only[Nat.add_zero] at this;rw[←this];rw[←Array.foldl_toList];congr 2;simp
    have hset:=hv.set (Rep.slen τ) hd i h2;rw[←lc,lc] at hf;obtain⟨out,h5,h6,h7,h8⟩:=qhO (cells:=v.cells.zipIdx.foldl (fun cs (p:Value×Nat)=>cs.setIfInBounds (i*τ.size+p.2) p.1) cells) r hS hpure h4 (by rw[hf];exact hset) (by simpa using hl) (fun j p q hj hq=>hp (j+1) p q (by simpa using hj) (by simpa using hq)) (fun o ho=>hids o (by simp[qhD,ho]));refine⟨out,?_,h6,by simpa using h7,?_⟩
    · simp only[Instr.fill];rw[if_neg (by simp[hz];omega)];exact h5
    · rw[h8];have:=congrArg List.length hf;simp only[Array.length_toList,List.length_append,List.length_take,List.length_drop] at this;omega
  | [],_::_,_,_,_,_,_,hl,_,_=>by simp at hl
  | _::_,[],_,_,_,_,_,hl,_,_=>by simp at hl
theorem qiA (r:Rel F σ γ a w) {t:TypeId} {len:Nat} {parts:Array (Nat×Operand)} (ho:o.op = .buildSlice t len parts) (h:buildE P σ o t len parts k=some res):EfA P F σ γ a w o k res Q:=by
  simp only[buildE,Option.bind_eq_some_iff,chk_some,Bool.and_eq_true] at h;obtain⟨i,hu,τ,hτ,z,hz,ps,h1,⟨hle,hpure⟩,xs,h2,objs1,h3,σ',h4,h5⟩:=h;have hu:=qs hu;obtain⟨inf,zv,hi,hzv,hsz,hzs,hpos,hzr⟩:=qbk hz;obtain⟨e1,h6⟩:=qdr r (qb σ) h1;obtain⟨f1,f2⟩:=qak r.o h3;have hle:=Nat.le_of_ble_eq_true hle;have hmade:(madeCells zv.cells (len*inf.size)).toList=(List.replicate len zv.cells.toList).flatten:=by
    rw[hsz,←hzs];exact qbM _ (by omega) len
  obtain⟨out,h7,h8,h9,h10⟩:=qhO (S:=Imm objs1 γ w) (cells:=madeCells zv.cells (len*inf.size)) (vals:=(parts.map fun (p:Nat×Operand)=>(p.1,a.eval p.2)).toList) r.o f1.keep.imm hpure h2 (by
      rw[hmade];exact RepL.replicate (R:=fun x c=>Rep w (Imm objs1 γ w) τ x [] c) (hzr w _) len) (by simp[e1]) (fun j p q hp hq=>by
    simp only[Array.toList_map,List.getElem?_map,Option.map_eq_some_iff] at hp;obtain⟨p',hp',rfl⟩:=hp
    exact h6 j p' q hp' hq) f2
  have hlen:xs.length=len:=by simpa using h9
  have hosz:out.size=len*τ.size:=by rw[h10];simp[madeCells,hsz]
  refine ef_row (xs:=xs) (cells:=out) (cap:=len) r f1 (by omega) ?_ hosz ?_ ?_ h4 h5
  · unfold maxLen;have:len≤len*τ.size:=Nat.le_mul_of_pos_right len hpos;omega
  · rw[List.take_of_length_le]
    · exact h8
    · simp only[Array.length_toList,hosz,hlen];exact Nat.le_refl _
  · obtain⟨dst,op,type,pos,after,guard⟩:=o;simp only at ho;subst ho;rw[hlen]
    have hsr:(sizeOf i).run P w = .ok inf.size w:=by simp[sizeOf,typeInfo,hi,go_sem]
    have hzr':(zeroValue i).run P w = .ok zv w:=by simp[zeroValue,typeInfo,hi,hzv,go_sem]
    rw[←hsz] at h7 hle hpos;have hb:(Instr.buildSlice t len (parts.map fun (p:Nat×Operand)=>(p.1,a.eval p.2))).run P w = .ok (.slice (some ⟨w.heap.size,0,none⟩) len len) (w.alloc (.cells out i)):=by
      generalize (parts.map fun (p:Nat×Operand)=>(p.1,a.eval p.2))=vals at h7
      have hng:¬(len*inf.size>2 ^ 24):=by omega
      unfold Instr.buildSlice;simp only[Sem.run_bind,run_underlying hu,Result.andThen_ok,hsr];rw[if_neg hng];by_cases h0:len*inf.size=0
      · have hl0:len=0:=by
          rcases Nat.mul_eq_zero.1 h0 with h | h
          · exact h
          · omega
        subst hl0;simp only[Nat.zero_mul,if_true,Sem.run_pure,Result.andThen_ok,Sem.run_bind]
        have hm0:madeCells zv.cells 0 = #[]:=by simp[madeCells]
        rw[Nat.zero_mul,hm0] at h7;simp[h7,newRow,go_sem]
      · simp only[h0,if_false,Sem.run_bind,hzr',Result.andThen_ok,Sem.run_pure];have hm1:((Array.range (len*inf.size)).map (zv.cells[· % zv.cells.size]!))=madeCells zv.cells (len*inf.size):=rfl;rw[hm1,h7];simp[newRow,go_sem]
    simp only[execOp,Sem.run_bind];rw[hb];rfl
end
end Go.Den
