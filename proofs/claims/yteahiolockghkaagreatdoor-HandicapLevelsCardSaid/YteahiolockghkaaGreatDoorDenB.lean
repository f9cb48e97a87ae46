/- Regions: what the interpreter says of them holds. No condition of its own. -/
import Derived.Test.YteahiolockghkaaGreatDoorMAC
namespace Go.Den
open Go.Eng
set_option linter.unusedVariables false
set_option linter.unusedSectionVars false
set_option linter.unusedSimpArgs false
variable [CT : Ctx]

section
variable {P : Program} {ops : Array Oper} {md : Region.Mode} {C : World → Prop}
def anyC (P:Program) (md:Region.Mode) (ops:Array Oper) (C:World→Prop) (n:Nat) (L:Array Bool→Act→Prop):Nat→Array Bool→Act→Prop
 | 0,listed,a=>L listed a
 | f+1,listed,a=>Region.ready md ops listed≠[]∧∀i∈Region.ready md ops listed,i<n∧qOp P ops C i (anyC P md ops C n L f (listed.setIfInBounds i true)) a
theorem qsp {n g:Nat} {L:Array Bool→Act→Prop} {Q:Exit→Act→World→Prop} (hL:∀listed a w,C w→L listed a→wpAny P md ops Q g listed a w) :
  ∀(f:Nat) (listed:Array Bool) (a:Act) (w:World),C w→anyC P md ops C n L f listed a→wpAny P md ops Q (f+g) listed a w
 | 0,listed,a,w,hw,h=>by rw[Nat.zero_add];exact hL _ _ _ hw h
 | f+1,listed,a,w,hw,h=>by
  rw[show f+1+g=(f+g)+1 by omega];exact⟨fun h0=>absurd h0 h.1,fun i hi=>wpOp_of_qOp hw (fun a' w' hw' h'=>qsp hL f _ a' w' hw' h') (h.2 i hi).2⟩
theorem qvV {n i:Nat} {oi:Oper} {v:Value} {L:Array Bool→Act→Prop} (hi:ops[i]?=some oi) (hsel:∀(j:Nat) (o:Oper) cs b,ops[j]?=some o→o.op ≠ .select cs b)
  (hs:Region.sinkB md ops n=true) (hc:Region.chainB md ops n=true) (hn:n<ops.size) (hin:i<n) (hdone:∀listed a,L listed a→∀j∈Region.ready md ops listed,n≤j) :
  ∀(f:Nat) (listed:Array Bool) (a:Act),HeadInv md ops n listed →
   (∀j oj,ops[j]?=some oj→j≠i→listed.getD j true=false→(∀e∈oj.after,Region.binds md e=true→e.on≠i)→oi.apart ops oj=true) →
   i∈Region.ready md ops listed→YieldsIn P ops C oi v a →
   anyC P md ops C n L f (listed.setIfInBounds i true) (a.put oi.dst v)→anyC P md ops C n L (f+1) listed a:=by
 intro f
 induction f with
 | zero =>
  intro listed a inv _ hr hy H;have hun:=(mem_ready.1 hr).1;refine⟨fun h=>(by rw[h] at hr;cases hr),fun j hj=>?_⟩;have hjn:j<n:=by
   rcases Nat.lt_or_ge j n with h | h
   ·exact h
   ·exact absurd hj (tail_waits hs hc hn inv _ i rfl hin hun j h)
  refine⟨hjn,?_⟩;by_cases hji:j=i
  ·subst hji;exact hy.qOp hi H
  ·have:=hdone _ _ H j (ready_mono hj hji);omega
 | succ f ih =>
  intro listed a inv hfree hr hy H;have hun:=(mem_ready.1 hr).1;refine⟨fun h=>(by rw[h] at hr;cases hr),fun j hj=>?_⟩;have hjn:j<n:=by
   rcases Nat.lt_or_ge j n with h | h
   ·exact h
   ·exact absurd hj (tail_waits hs hc hn inv _ i rfl hin hun j h)
  refine⟨hjn,?_⟩;by_cases hji:j=i
  ·subst hji;exact hy.qOp hi H
  ·have h1:=(H.2 j (ready_mono hj hji)).2;obtain⟨hjun,oj,hoj,hall⟩:=mem_ready.1 hj;have hnot:∀e∈oj.after,Region.binds md e=true→e.on≠i:=fun e he hb heq=>by
    have h1:=hall e he hb;rw[heq,getD_both hun] at h1;cases h1
   have h2:=qOp_put hoj (hfree j oj hoj hji hjun hnot) (fun cs b=>hsel i oi cs b hi) (fun cs b=>hsel j oj cs b hoj) hy h1
   have hfree':∀k ok,ops[k]?=some ok→k≠i→(listed.setIfInBounds j true).getD k true=false →
     (∀e∈ok.after,Region.binds md e=true→e.on≠i)→oi.apart ops ok=true:=fun k ok hk hki hun hno=>by
    refine hfree k ok hk hki ?_ hno;by_cases hjk:j=k
    ·subst hjk;exact hjun
    ·rw[getD_set_ne true hjk] at hun;exact hun
   refine qOp_mono (fun a' h3=>ih (listed.setIfInBounds j true) a' (inv.set hj hjn) hfree' (ready_mono hr (Ne.symm hji)) h3.1 ?_) h2;rw[Array.setIfInBounds_comm _ _ hji];exact h3.2
theorem quH {n g:Nat} {Lq:Act→Prop} (hsel:Region.noSelect ops=true) (hs:Region.sinkB md ops n=true) (hc:Region.chainB md ops n=true) (hn:n<ops.size) :
  ∀(l:List Oper) (k:Nat) (listed:Array Bool) (a:Act),(∀j,j<l.length→l[j]?=ops[k+j]?)→k+l.length=n→HeadInv md ops n listed →
  Region.lexHead md ops g l.length k listed=true→wpQuiet P ops C Lq l a→anyC P md ops C n (fun listed' a'=>Region.seqB md ops g n listed'=true∧Lq a') l.length listed a
 | [],k,listed,a,_,hk,_,hB,h=>by
  have:k=n:=by simpa using hk
  subst this;exact⟨by simpa[Region.lexHead] using hB,h⟩
 | o::l,k,listed,a,hl,hk,inv,hB,h=>by
  have h0:ops[k]?=some o:=by simpa using (hl 0 (by simp)).symm
  simp only[List.length_cons,Region.lexHead,Bool.and_eq_true] at hB;obtain⟨⟨hr,hf⟩,hB'⟩:=hB
  have hkn:k<n:=by simp only[List.length_cons] at hk;omega
  have hr':k∈Region.ready md ops listed:=by simpa using hr
  have hst:qOp P ops C k (wpQuiet P ops C Lq l) a:=by unfold qOp;simp only[h0];exact h
  obtain⟨v,hy,hK⟩:=yieldsIn_of_qOp h0 hst;exact qvV h0 (Region.noSelect_spec hsel) hs hc hn hkn (fun listed' a' hL=>seqB_ready hL.1) l.length listed a inv (Region.free_spec h0 hf) hr' hy
   (quH hsel hs hc hn l (k+1) _ _ (fun j hj=>by have:=hl (j+1) (by simp;omega);simpa[Nat.add_assoc,Nat.add_comm 1 j] using this) (by simp only[List.length_cons] at hk;omega) (inv.set hr' hkn) hB' hK)
theorem qhs {id:Nat} {Q:Exit→Act→World→Prop} {a:Act} {w:World} (n:Nat) (hm:P.follows .mixedOrders=true) (hB:Region.lexTailB .any ops n=true) (hC:C { w with drawn:=w.drawn+1 })
  (h:wpQuiet P ops C (fun a'=>∀w',C w'→wpList P ops Q (ops.toList.drop n) a' w') (ops.toList.take n) a):(Code.region id ops true).wp P Q a w:=by
 simp only[Region.lexTailB,Bool.and_eq_true,decide_eq_true_eq] at hB;obtain⟨⟨⟨⟨hsel,hn⟩,hs⟩,hc⟩,hlex⟩:=hB
 have htl:(ops.toList.take n).length=n:=by simp;omega
 have hdl:(ops.toList.drop n).length=ops.size-n:=by simp
 have inv0:HeadInv .any ops n (Array.replicate ops.size false) :=
  ⟨by simp,fun j oj _ hl=>(by rw[getD_replicate_false] at hl;cases hl),fun t _ ht=>getD_in (by simpa using ht) (getD_replicate_false _ _)⟩
 have H:=quH (md := .any) (g:=ops.size-n) hsel hs hc hn (ops.toList.take n) 0 _ a (fun j hj=>by
  have hj':j<n:=by rw[htl] at hj;exact hj
  simp[hj']) (by simpa using htl) inv0 (by rw[htl];exact hlex) h
 refine wp_region_any hm ?_
 have:=qsp (Q:=Q) (g:=ops.size-n) (fun listed a' w' hw' hL=>by
  have:=wpAny_of_seq (md := .any) (Q':=Q) (ops.toList.drop n) n listed a' w' (fun j=>by simp[List.getElem?_drop]) (by rw[hdl];exact hL.1) (hL.2 w' hw')
  rwa [hdl] at this) _ _ _ _ hC H
 rw[htl,show n+(ops.size-n)=ops.size by omega] at this;exact this
end

section
variable {P : Program} {ops : Array Oper} {s g : Nat} {Q : Exit → Act → World → Prop}
def only (Q:Exit→Act→World→Prop):Exit→Act→World→Prop:=fun e a w=>e = .normal∧Q .normal a w
theorem qhc {o:Oper} {a:Act} {C C':World→Prop} {w:World} {v:Value} (h:o.quietAt P a C w v) (hC:∀w',C w'→C' w'):o.quietAt P a C' w v:=by
 unfold Oper.quietAt at *;generalize (execOp a.eval o).run P w=r at *
 cases r with
 | ok n w' =>
  cases n<;>simp only[Oper.quietUpon] at h ⊢ <;> try exact h
  exact⟨h.1,Calls.mono h.2 fun e w'' hh=>⟨hh.1,hC _ hh.2⟩⟩
 | halt x w'=>exact h
def QV (P:Program) (o:Oper) (a:Act) (w:World) (v:Value):Prop:=∀w',Chg [] w w'→o.quietAt P a (Chg [] w') w' v
theorem QV.wp {o:Oper} {a:Act} {w:World} {v:Value} {Q':Exit→Act→World→Prop} (h:QV P o a w v):o.wp P a w (fun a' w'=>a'=a.put o.dst v∧Chg [] w w') Q' :=
 Oper.wp_of_quiet (C:=Chg [] w) (K:=fun a'=>a'=a.put o.dst v) (Chg.refl _ _) (fun _ _ hc ha=>⟨ha,hc⟩) ⟨v,fun w' hc=>qhc (h w' hc) fun _ h=>Chg.trans' hc h,rfl⟩
theorem QV.congr {o:Oper} {a a':Act} {w:World} {v:Value} (h:QV P o a w v) (he:execOp a'.eval o=execOp a.eval o):QV P o a' w v:=fun w' hc=>by
 have:=h w' hc;unfold Oper.quietAt at *;rw[he];exact this
theorem QV.of_run {o:Oper} {a:Act} {w:World} {v:Value} (h:∀w',Chg [] w w'→(execOp a.eval o).run P w' = .ok (.value v) w'):QV P o a w v:=fun w' hc=>by
 unfold Oper.quietAt;rw[h w' hc];exact⟨rfl,rfl⟩
def vStep (P:Program) (ops:Array Oper) (s g:Nat) (Q:Exit→Act→World→Prop) (i:Nat) (K:Act→World→Prop) (a:Act) (w:World):Prop:=match ops[i]? with
 | none=>K a w
 | some o=>if Region.wanted o (yielded ops a.tmps)=true then
   (if bitB s i=true then ∃v,QV P o a w v∧∀w',Chg [] w w'→K (a.put o.dst v) w'
    else if bitB g i=true then o.wp P a w (fun a' w'=>Chg [] w w'∧∀w'',Chg [] w' w''→K a' w'') (only Q)
    else o.wp P a w (fun a' w'=>∀w'',Chg [] w' w''→K a' w'') (only Q))
  else ∀w',Chg [] w w'→K (a.put o.dst undef) w'
def vAny (P:Program) (ops:Array Oper) (s g:Nat) (Q:Exit→Act→World→Prop):Nat→Array Bool→Act→World→Prop
 | 0,listed,a,w=>Region.ready .any ops listed=[]∧Q .normal a w
 | f+1,listed,a,w=>(Region.ready .any ops listed=[]→Q .normal a w)∧∀i∈Region.ready .any ops listed,vStep P ops s g Q i (vAny P ops s g Q f (listed.setIfInBounds i true)) a w
theorem qos {i:Nat} {K K':Act→World→Prop} {a:Act} {w:World} (h:∀a w,K a w→K' a w) (hh:vStep P ops s g Q i K a w):vStep P ops s g Q i K' a w:=by
 unfold vStep at *;split
 ·rename_i he;simp only[he] at hh;exact h _ _ hh
 ·rename_i o he;simp only[he] at hh;split
  ·rename_i hw;rw[if_pos hw] at hh;split
   ·rename_i hs;rw[if_pos hs] at hh;obtain⟨v,h1,h2⟩:=hh;exact⟨v,h1,fun w' hc=>h _ _ (h2 w' hc)⟩
   ·rename_i hs;rw[if_neg hs] at hh;split
    ·rename_i hg;rw[if_pos hg] at hh;exact Oper.wp_mono (fun a w h1=>⟨h1.1,fun w'' hc=>h _ _ (h1.2 w'' hc)⟩) hh
    ·rename_i hg;rw[if_neg hg] at hh;exact Oper.wp_mono (fun a w h1 w'' hc=>h _ _ (h1 w'' hc)) hh
  ·rename_i hw;rw[if_neg hw] at hh;exact fun w' hc=>h _ _ (hh w' hc)
theorem qpX {i:Nat} {K:Act→World→Prop} {a:Act} {w:World} (hh:vStep P ops s g Q i K a w):wpOp P ops (only Q) i K a w:=by
 unfold vStep at hh;unfold wpOp;split
 ·rename_i he;simp only[he] at hh;exact hh
 ·rename_i o he;simp only[he] at hh;split
  ·rename_i hw;rw[if_pos hw] at hh;refine .inl ?_;split at hh
   ·obtain⟨v,h1,h2⟩:=hh;exact Oper.wp_mono (fun a' w' hx=>by obtain⟨rfl,hc⟩:=hx;exact h2 w' hc) (QV.wp h1)
   ·split at hh
    ·exact Oper.wp_mono (fun a w h1=>h1.2 w (Chg.refl _ _)) hh
    ·exact Oper.wp_mono (fun a w h1=>h1 w (Chg.refl _ _)) hh
  ·rename_i hw;rw[if_neg hw] at hh;exact hh w (Chg.refl _ _)
theorem qo7:∀(f:Nat) (listed:Array Bool) (a:Act) (w:World),vAny P ops s g Q f listed a w→wpAny P .any ops (only Q) f listed a w
 | 0,_,_,_,h=>⟨h.1,rfl,h.2⟩
 | f+1,_,_,_,h=>⟨fun h0=>⟨rfl,h.1 h0⟩,fun i hi=>wpOp_mono (fun a w h1=>qo7 f _ a w h1) (qpX (h.2 i hi))⟩
def YieldsG (P:Program) (ops:Array Oper) (w:World) (o:Oper) (v:Value) (a:Act):Prop :=
 (Region.wanted o (yielded ops a.tmps)=true∧QV P o a w v)∨(Region.wanted o (yielded ops a.tmps)=false∧v=undef)
theorem YieldsG.of_same {w w':World} {o:Oper} {v:Value} {a a':Act} (hy:YieldsG P ops w o v a) (hc:Chg [] w w') (he:execOp a'.eval o=execOp a.eval o)
  (hw:Region.wanted o (yielded ops a'.tmps)=Region.wanted o (yielded ops a.tmps)):YieldsG P ops w' o v a':=by
 unfold YieldsG at *;rw[hw];exact hy.imp (fun h=>⟨h.1,fun w'' hc'=>(h.2.congr he) w'' (Chg.trans' hc hc')⟩) id
theorem YieldsG.vStep {i:Nat} {w:World} {o:Oper} {v:Value} {a:Act} (hi:ops[i]?=some o) (hy:YieldsG P ops w o v a) {K:Act→World→Prop} (h:∀w',Chg [] w w'→K (a.put o.dst v) w'):vStep P ops s g Q i K a w:=by
 unfold Go.Den.vStep;simp only[hi];rcases hy with ⟨hw,hv⟩ | ⟨hw,rfl⟩
 ·rw[if_pos hw];split
  ·exact⟨v,hv,h⟩
  ·split
   ·exact Oper.wp_mono (fun a' w' hx=>by obtain⟨rfl,hc⟩:=hx;exact⟨hc,fun w'' hc'=>h w'' (Chg.trans' hc hc')⟩) hv.wp
   ·exact Oper.wp_mono (fun a' w' hx=>by obtain⟨rfl,hc⟩:=hx;exact fun w'' hc'=>h w'' (Chg.trans' hc hc')) hv.wp
 ·rw[if_neg (by rw[hw];simp)];exact h
theorem wp_put {oi oj:Oper} {v:Value} (hap:oi.apart ops oj=true) (hsi:∀cs b,oi.op ≠ .select cs b) (hsj:∀cs b,oj.op ≠ .select cs b) {K:Act→World→Prop} {a:Act} {w:World}
  (h:oj.wp P (a.put oi.dst v) w K (only Q)) :
  oj.wp P a w (fun a' w'=>(execOp a'.eval oi=execOp a.eval oi∧Region.wanted oi (yielded ops a'.tmps)=Region.wanted oi (yielded ops a.tmps))∧K (a'.put oi.dst v) w') (only Q):=by
 obtain⟨h1,h2,h3⟩:=Oper.apart_spec hap
 have keep:∀(b:Act) (u:Value),(execOp b.eval oi=execOp a.eval oi∧Region.wanted oi (yielded ops b.tmps)=Region.wanted oi (yielded ops a.tmps)) →
   execOp (b.put oj.dst u).eval oi=execOp a.eval oi∧Region.wanted oi (yielded ops (b.put oj.dst u).tmps)=Region.wanted oi (yielded ops a.tmps):=fun b u hb =>
  ⟨(execOp_put oi hsi b oj.dst u h3).trans hb.1,(wanted_put oi b oj.dst u h3).trans hb.2⟩
 unfold Oper.wp at *;rw[execOp_put oj hsj a oi.dst v h1] at h;generalize (execOp a.eval oj).run P w=r at *
 cases r with
 | ok n w' =>
  cases n<;>simp only[Oper.upon] at h ⊢
  case value u=>exact⟨keep a u ⟨rfl,rfl⟩,by rw[←Act.put_comm a v u h2];exact h⟩
  case skip=>exact⟨keep a _ ⟨rfl,rfl⟩,by rw[←Act.put_comm a v undef h2];exact h⟩
  case defer d =>
   refine⟨keep _ _ ⟨rfl,rfl⟩,?_⟩;rw[←Act.put_comm _ v undef h2,←Act.put_defers];exact h
  case enter f args =>
   refine Calls.mono h fun e w'' he=>?_
   cases e with
   | returned u=>exact⟨keep a u ⟨rfl,rfl⟩,by rw[←Act.put_comm a v u h2];exact he⟩
   | panicked c=>exact absurd he.1 (by simp)
   | outgrown=>exact he
  case row row args=>exact Rows.mono h fun u w'' he=>⟨keep a u ⟨rfl,rfl⟩,by rw[←Act.put_comm a v u h2];exact he⟩
 | halt x w' =>
  cases x<;>simp only[Oper.upon] at h ⊢
  case panic u=>exact absurd h.1 (by simp)
structure UpOk (ops:Array Oper) (s g:Nat) (listed:Array Bool) (i:Nat) (U:Array Bool):Prop where
 size:U.size=ops.size
 le:∀j,listed.getD j false=true→U.getD j false=true
 me:U.getD i false=false
 r:∀j∈Region.ready .any ops U,j=i
 k:∀j,U.getD j false=true→listed.getD j false=true∨bitB s j=true∨bitB g j=true
theorem qtS {listed:Array Bool} {j:Nat} (h:listed.getD j true=false):listed.getD j false=false:=by
 simp only[Array.getD_eq_getD_getElem?] at *
 cases hj:listed[j]? with
 | none=>rfl
 | some b=>rw[hj] at h;exact h
theorem UpOk.mem {listed L:Array Bool} {i j:Nat} {U:Array Bool} (h:UpOk ops s g listed i U) (hL:∀j,L.getD j false=true→U.getD j false=true) (hj:j∈Region.ready .any ops L) (hji:j≠i):U.getD j false=true:=by
 obtain⟨h0,o,ho,hall⟩:=mem_ready.1 hj
 cases hu:U.getD j false with
 | true=>rfl
 | false =>
  have hlt:j<U.size:=by rw[h.size];exact(Array.getElem?_eq_some_iff.1 ho).1
  refine absurd (h.r j (mem_ready.2 ⟨?_,o,ho,fun e he hb=>hL _ (hall e he hb)⟩)) hji;simp only[Array.getD_eq_getD_getElem?,Array.getElem?_eq_getElem hlt,Option.getD_some] at hu ⊢;exact hu
theorem vAny_take {i:Nat} {oi:Oper} {v:Value} {l0 U:Array Bool} (hi:ops[i]?=some oi) (hsel:∀(j:Nat) (o:Oper) cs b,ops[j]?=some o→o.op ≠ .select cs b) (hU:UpOk ops s g l0 i U) :
  ∀(fuel:Nat) (listed:Array Bool) (a:Act) (w:World),(∀j,l0.getD j false=true→listed.getD j false=true)→(∀j,listed.getD j false=true→U.getD j false=true) →
   (∀j oj,ops[j]?=some oj→j≠i→listed.getD j true=false→(∀e∈oj.after,Region.binds .any e=true→e.on≠i)→oi.apart ops oj=true) →
   i∈Region.ready .any ops listed→YieldsG P ops w oi v a →
   (∀w2,Chg [] w w2→vAny P ops s g Q fuel (listed.setIfInBounds i true) (a.put oi.dst v) w2)→vAny P ops s g Q (fuel+1) listed a w:=by
 intro fuel
 induction fuel with
 | zero =>
  intro listed a w _ _ _ hr hy H;refine⟨fun h=>(by rw[h] at hr;cases hr),fun j hj=>?_⟩;by_cases hji:j=i
  ·subst hji;exact hy.vStep hi H
  ·have:=ready_mono hj hji;rw[(H w (Chg.refl _ _)).1] at this;cases this
 | succ fuel ih =>
  intro listed a w hl0 hlU hfree hr hy H;refine⟨fun h=>(by rw[h] at hr;cases hr),fun j hj=>?_⟩;by_cases hji:j=i
  ·subst hji;exact hy.vStep hi H
  ·have h1:=(H w (Chg.refl _ _)).2 j (ready_mono hj hji);obtain⟨hjun,oj,hoj,hall⟩:=mem_ready.1 hj;have hjU:=hU.mem hlU hj hji;have hnl0:¬l0.getD j false=true:=fun h=>by
    have:=hl0 j h;rw[qtS hjun] at this;cases this
   have hkind:=(hU.k j hjU).resolve_left hnl0;have hnot:∀e∈oj.after,Region.binds .any e=true→e.on≠i:=fun e he hb heq=>by
    have h1:=hall e he hb;have h0:=qtS (mem_ready.1 hr).1;rw[heq,h0] at h1;cases h1
   have hap:=hfree j oj hoj hji hjun hnot;obtain⟨p1,p2,p3⟩:=Oper.apart_spec hap;have hsi:=fun cs b=>hsel i oi cs b hi;have hsj:=fun cs b=>hsel j oj cs b hoj
   have hfree':∀k ok,ops[k]?=some ok→k≠i→(listed.setIfInBounds j true).getD k true=false →
     (∀e∈ok.after,Region.binds .any e=true→e.on≠i)→oi.apart ops ok=true:=fun k ok hk hki hun hno=>by
    refine hfree k ok hk hki ?_ hno;by_cases hjk:j=k
    ·subst hjk;exact hjun
    ·rw[getD_set_ne true hjk] at hun;exact hun
   have hl0':∀k,l0.getD k false=true→(listed.setIfInBounds j true).getD k false=true:=fun k hk=>getD_set_true (hl0 k hk);have hlU':∀k,(listed.setIfInBounds j true).getD k false=true→U.getD k false=true:=fun k hk=>by
    by_cases hjk:j=k
    ·subst hjk;exact hjU
    ·rw[getD_set_ne false hjk] at hk;exact hlU k hk
   have go:∀(a':Act) (w':World),Chg [] w w'→execOp a'.eval oi=execOp a.eval oi→Region.wanted oi (yielded ops a'.tmps)=Region.wanted oi (yielded ops a.tmps) →
     (∀w'',Chg [] w' w''→vAny P ops s g Q fuel ((listed.setIfInBounds i true).setIfInBounds j true) (a'.put oi.dst v) w'')→vAny P ops s g Q (fuel+1) (listed.setIfInBounds j true) a' w':=fun a' w' hc he hw h3=>by
    refine ih (listed.setIfInBounds j true) a' w' hl0' hlU' hfree' (ready_mono hr (Ne.symm hji)) (hy.of_same hc he hw) ?_;rw[Array.setIfInBounds_comm _ _ hji];exact fun w'' hc''=>h3 w'' hc''
   unfold Go.Den.vStep at h1 ⊢;simp only[hoj] at h1 ⊢;rw[wanted_put oj a oi.dst v p1] at h1;split
   ·rename_i hw;rw[if_pos hw] at h1;split
    ·rename_i hs;rw[if_pos hs] at h1;obtain⟨u,h2,h3⟩:=h1;exact⟨u,h2.congr (execOp_put oj hsj a oi.dst v p1).symm,fun w' hc=>go _ w' hc (execOp_put oi hsi a oj.dst u p3) (wanted_put oi a oj.dst u p3) (fun w'' hc''=>by rw[←Act.put_comm a v u p2];exact h3 w'' (Chg.trans' hc hc''))⟩
    ·rename_i hs;rw[if_neg hs] at h1;have hg:=hkind.resolve_left hs;rw[if_pos hg] at h1 ⊢;exact Oper.wp_mono (fun a' w' h2=>⟨h2.2.1,fun w'' hc''=>go a' w'' (Chg.trans' h2.2.1 hc'') h2.1.1 h2.1.2 (fun w3 hc3=>h2.2.2 w3 (Chg.trans' hc'' hc3))⟩) (wp_put hap hsi hsj h1)
   ·rename_i hw;rw[if_neg hw] at h1;exact fun w' hc=>go _ w' hc (execOp_put oi hsi a oj.dst undef p3) (wanted_put oi a oj.dst undef p3) (fun w'' hc''=>by rw[←Act.put_comm a v undef p2];exact h1 w'' (Chg.trans' hc hc''))
theorem vAny_free {i:Nat} {oi:Oper} {v:Value} (hi:ops[i]?=some oi) (hsel:∀(j:Nat) (o:Oper) cs b,ops[j]?=some o→o.op ≠ .select cs b) :
  ∀(fuel:Nat) (listed:Array Bool) (a:Act) (w:World),
   (∀j oj,ops[j]?=some oj→j≠i→listed.getD j true=false→(∀e∈oj.after,Region.binds .any e=true→e.on≠i)→oi.apart ops oj=true) →
   i∈Region.ready .any ops listed→Yields P ops oi v a →
   (∀w2,Chg [] w w2→vAny P ops s g Q fuel (listed.setIfInBounds i true) (a.put oi.dst v) w2)→vAny P ops s g Q (fuel+1) listed a w:=by
 have hG:∀(a:Act) (w:World),Yields P ops oi v a→YieldsG P ops w oi v a:=fun a w hy=>hy.imp (fun h=>⟨h.1,QV.of_run fun w' _=>h.2 w'⟩) id;intro fuel
 induction fuel with
 | zero =>
  intro listed a w _ hr hy H;refine⟨fun h=>(by rw[h] at hr;cases hr),fun j hj=>?_⟩;by_cases hji:j=i
  ·subst hji;exact(hG a w hy).vStep hi H
  ·have:=ready_mono hj hji;rw[(H w (Chg.refl _ _)).1] at this;cases this
 | succ fuel ih =>
  intro listed a w hfree hr hy H;refine⟨fun h=>(by rw[h] at hr;cases hr),fun j hj=>?_⟩;by_cases hji:j=i
  ·subst hji;exact(hG a w hy).vStep hi H
  ·have h1:=(H w (Chg.refl _ _)).2 j (ready_mono hj hji);obtain⟨hjun,oj,hoj,hall⟩:=mem_ready.1 hj;have hnot:∀e∈oj.after,Region.binds .any e=true→e.on≠i:=fun e he hb heq=>by
    have h1:=hall e he hb;have h0:=qtS (mem_ready.1 hr).1;rw[heq,h0] at h1;cases h1
   have hap:=hfree j oj hoj hji hjun hnot;obtain⟨p1,p2,p3⟩:=Oper.apart_spec hap;have hsi:=fun cs b=>hsel i oi cs b hi;have hsj:=fun cs b=>hsel j oj cs b hoj
   have hfree':∀k ok,ops[k]?=some ok→k≠i→(listed.setIfInBounds j true).getD k true=false →
     (∀e∈ok.after,Region.binds .any e=true→e.on≠i)→oi.apart ops ok=true:=fun k ok hk hki hun hno=>by
    refine hfree k ok hk hki ?_ hno;by_cases hjk:j=k
    ·subst hjk;exact hjun
    ·rw[getD_set_ne true hjk] at hun;exact hun
   have go:∀(a':Act) (w':World),execOp a'.eval oi=execOp a.eval oi→Region.wanted oi (yielded ops a'.tmps)=Region.wanted oi (yielded ops a.tmps) →
     (∀w'',Chg [] w' w''→vAny P ops s g Q fuel ((listed.setIfInBounds i true).setIfInBounds j true) (a'.put oi.dst v) w'')→vAny P ops s g Q (fuel+1) (listed.setIfInBounds j true) a' w':=fun a' w' he hw h3=>by
    refine ih (listed.setIfInBounds j true) a' w' hfree' (ready_mono hr (Ne.symm hji)) (hy.of_same he hw) ?_;rw[Array.setIfInBounds_comm _ _ hji];exact fun w'' hc''=>h3 w'' hc''
   unfold Go.Den.vStep at h1 ⊢;simp only[hoj] at h1 ⊢;rw[wanted_put oj a oi.dst v p1] at h1;split
   ·rename_i hw;rw[if_pos hw] at h1;split
    ·rename_i hs;rw[if_pos hs] at h1;obtain⟨u,h2,h3⟩:=h1;exact⟨u,h2.congr (execOp_put oj hsj a oi.dst v p1).symm,fun w' hc=>go _ w' (execOp_put oi hsi a oj.dst u p3) (wanted_put oi a oj.dst u p3) (fun w'' hc''=>by rw[←Act.put_comm a v u p2];exact h3 w'' (Chg.trans' hc hc''))⟩
    ·rename_i hs;rw[if_neg hs] at h1;split
     ·rename_i hg;rw[if_pos hg] at h1;exact Oper.wp_mono (fun a' w' h2=>⟨h2.2.1,fun w'' hc''=>go a' w'' h2.1.1 h2.1.2 (fun w3 hc3=>h2.2.2 w3 (Chg.trans' hc'' hc3))⟩) (wp_put hap hsi hsj h1)
     ·rename_i hg;rw[if_neg hg] at h1;exact Oper.wp_mono (fun a' w' h2 w'' hc''=>go a' w'' h2.1.1 h2.1.2 (fun w3 hc3=>h2.2 w3 (Chg.trans' hc'' hc3))) (wp_put hap hsi hsj h1)
   ·rename_i hw;rw[if_neg hw] at h1;exact fun w' hc=>go _ w' (execOp_put oi hsi a oj.dst undef p3) (wanted_put oi a oj.dst undef p3) (fun w'' hc''=>by rw[←Act.put_comm a v undef p2];exact h1 w'' (Chg.trans' hc hc''))
theorem qop (n u:Nat):(maskA n u).size=n:=by simp[maskA]
theorem qqK {listed:Array Bool} {i u:Nat} (hls:listed.size=ops.size) (h:upOk ops s g listed i (maskA ops.size u)=true):UpOk ops s g listed i (maskA ops.size u):=by
 simp only[upOk,Bool.and_eq_true,Bool.not_eq_true',List.all_eq_true,List.mem_range] at h;obtain⟨h1,h2,h3⟩:=h;have big:∀(A:Array Bool) (j:Nat),A.getD j false=true→j<A.size:=fun A j hA=>by
  rcases Nat.lt_or_ge j A.size with hl | hl
  ·exact hl
  ·simp[Array.getD_eq_getD_getElem?,Array.getElem?_eq_none hl] at hA
 refine⟨qop _ _,fun j hj=>?_,h1,fun j hj=>Nat.eq_of_beq_eq_true (h2 j hj),fun j hj=>?_⟩
 ·have hlt:=big _ _ hj;have:=h3 j (by rw[←hls];exact hlt);rw[hj] at this;exact this
 ·have hlt:=big _ _ hj;rw[qop] at hlt;have:=h3 j hlt
  cases hl:listed.getD j false with
  | true=>exact .inl rfl
  | false =>
   rw[hl,cond_false,hj] at this;simp only[Bool.not_true,Bool.false_or,Bool.or_eq_true] at this;exact .inr this
theorem qtP {id:Nat} {a:Act} {w:World} (hm:P.follows .mixedOrders=true) {f:Nat} (h:vAny P ops s g Q ops.size (Array.replicate ops.size false) a { w with drawn:=w.drawn+1 }):(Code.region id ops true).wp P Q a w :=
 wp_mono (wp_region_any hm (qo7 _ _ _ _ h)) fun e a w he=>by
  obtain⟨rfl,h⟩:=he;exact h
end

section
variable {P : Program} {env : Env} {F : Fr} {σ : AState} {γ : Gh} {a : Act} {w : World} {ops : Array Oper} {o : Oper} {α : Type} {res : α} {Q : Exit → Act → World → Prop}

theorem Step.gsUp (σ:AState) (γ:Gh) (w:World) (k:Nat):Step σ γ w { σ with gs:=Nat.lor σ.gs k } γ w:=⟨rfl,rfl,rfl,fun _ _ _ h=>h,fun _ _ _=>rfl,Keep.refl _ _ _⟩
theorem litB_not {x:Nat×Bool} (h:litB σ (x.1,!x.2)=true):litB σ x=false:=by
 obtain⟨d,b⟩:=x;unfold litB at h ⊢;split at h
 ·rename_i t c hg;rw[hg]
  cases b<;>cases c<;>simp_all
 ·cases h
theorem qhi (r:Rel F σ γ a w):∀ {tg:Tag},falsT σ.known tg=true→∃x∈tg,litB σ x=false
 | [],h=>by cases h
 | y::q,h=>by
  simp only[falsT,Bool.or_eq_true] at h;rcases h with h | h
  ·exact⟨y,List.mem_cons_self,litB_not (r.known _ (qc8 h)).1⟩
  ·obtain⟨x,hx,hl⟩:=qhi r h;exact⟨x,List.mem_cons_of_mem _ hx,hl⟩
theorem qoD (r:Rel F σ γ a w):∀ {tg:Tag},(tagT σ (simpT σ.known tg)↔tagT σ tg)∧∀x∈simpT σ.known tg,x∈tg
 | []=>⟨Iff.rfl,fun x hx=>hx⟩
 | y::q=>by
  obtain⟨ih1,ih2⟩:=qoD r (tg:=q);simp only[simpT];by_cases hm:memT y σ.known=true
  ·simp only[hm,cond_true];have hy:=(r.known y (qc8 hm)).1;refine⟨⟨fun h=>qcj hy (ih1.1 h),fun h=>ih1.2 fun x hx=>h x (List.mem_cons_of_mem _ hx)⟩,fun x hx=>List.mem_cons_of_mem _ (ih2 x hx)⟩
  ·simp only[Bool.eq_false_iff.2 hm,cond_false];refine⟨⟨fun h=>qcj (h y List.mem_cons_self) (ih1.1 fun x hx=>h x (List.mem_cons_of_mem _ hx)),fun h=>qcj (h y List.mem_cons_self) (ih1.2 fun x hx=>h x (List.mem_cons_of_mem _ hx))⟩,fun x hx=>?_⟩;rcases List.mem_cons.1 hx with rfl | hx
   ·exact List.mem_cons_self
   ·exact List.mem_cons_of_mem _ (ih2 x hx)
theorem qvm {j:Nat} {oj:Oper} {d:Nat} (h1:ops[j]?=some oj) (h2:oj.dst=some d):yielded ops a.tmps j=match a.tmps[d]? with | some (.bool b)=>some b | _=>none:=by
 simp[yielded,h1,h2];rfl
theorem qhk (r:Rel F σ γ a w) {q:Tag×Bool×Nat} (h:tagOf ops σ o=some q) :
  (q.2.1=true→Region.wanted o (yielded ops a.tmps)=false∧¬tagT σ q.1)∧(q.2.1=false→(Region.wanted o (yielded ops a.tmps)=true↔tagT σ q.1))∧∀x∈q.1,bitB (Nat.lor σ.gs q.2.2) x.1=true:=by
 unfold tagOf at h;split at h
 ·rename_i hg;cases h;refine⟨fun h=>(by cases h),fun _=>⟨fun _ x hx=>(by cases hx),fun _=>(by simp[Region.wanted,hg])⟩,fun x hx=>(by cases hx)⟩
 ·rename_i j want hg;simp only[Option.bind_eq_some_iff] at h;obtain⟨oj,h1,d,h2,⟨tgd,pv⟩,h3,h4⟩:=h
  have hw:Region.wanted o (yielded ops a.tmps)=(yielded ops a.tmps j==some want):=by simp[Region.wanted,hg]
  have hy:=qvm (a:=a) h1 h2;have hgs:∀x∈((d,want)::tgd),bitB (Nat.lor σ.gs (Nat.shiftLeft 1 d)) x.1=true:=fun x hx=>by
   rcases List.mem_cons.1 hx with rfl | hx
   ·exact qnl _ _
   ·exact qef (r.gs d tgd pv h3 x hx)
  have hoff:¬tagT σ tgd→Region.wanted o (yielded ops a.tmps)=false:=fun hn=>by
   rw[hw,hy,r.off d tgd pv h3 hn];rfl
  by_cases hf:falsT σ.known ((d,want)::tgd)=true
  ·simp only[hf,cond_true,Option.some.injEq] at h4;subst h4;have hnt:¬tagT σ ((d,want)::tgd):=fun hT=>by
    obtain⟨x,hx,hl⟩:=qhi r hf;rw[hT x hx] at hl;cases hl
   refine⟨fun _=>⟨?_,hnt⟩,fun h=>(by cases h),hgs⟩;by_cases ht:tagT σ tgd
   ·have hl:litB σ (d,want)=false:=by
     cases hb:litB σ (d,want)
     ·rfl
     ·exact absurd (qcj hb ht) hnt
    obtain⟨v,hv,hp⟩:=r.slots d tgd pv h3 ht;rw[hw,hy,hv]
    cases v with
    | bool b =>
     obtain⟨x,hx,hxl⟩:=qhi r hf;rcases List.mem_cons.1 hx with rfl | hx
     ·-- known to be the other way
      have hkn:(∃c,pv = .c (.v (.bool c))):=by
       have hmem:falsT σ.known ((d,want)::tgd)=true:=hf;simp only[falsT,Bool.or_eq_true] at hmem;rcases hmem with hm | hm
       ·have:=(r.known _ (qc8 hm)).1;unfold litB at this;simp only[h3] at this;split at this
        ·rename_i t c heq;simp only[Option.some.injEq,Prod.mk.injEq] at heq;exact⟨c,heq.2⟩
        ·cases this
       ·obtain⟨y,hy',hyl⟩:=qhi r hm;rw[ht y hy'] at hyl;cases hyl
      obtain⟨c,rfl⟩:=hkn
      have hbc:b=c:=by simpa[PR,VR] using hp
      subst hbc;simp only[litB,h3] at hl
      cases want<;>cases b<;>simp_all
     ·rw[ht x hx] at hxl;cases hxl
    | _=>rfl
   ·exact hoff ht
  ·simp only[Bool.eq_false_iff.2 hf,cond_false,Option.bind_eq_some_iff,Option.some.injEq] at h4;obtain⟨b,hb,rfl⟩:=h4;have hpv:=qbl hb;subst hpv;obtain⟨hs1,hs2⟩:=qoD r (tg:=(d,want)::tgd);refine⟨fun h=>(by cases h),fun _=>?_,fun x hx=>hgs x (hs2 x hx)⟩;rw[hs1];by_cases ht:tagT σ tgd
   ·obtain⟨v,hv,hp⟩:=r.slots d tgd _ h3 ht
    have hv2:v = .bool b:=by simpa[PR,VR] using hp
    subst hv2;rw[hw,hy,hv]
    have hl:litB σ (d,want)=(b==want):=by simp only[litB,h3];cases want<;>cases b<;>rfl
    constructor
    ·intro hh;refine qcj ?_ ht;rw[hl];simpa using hh
    ·intro hT;have:=hT (d,want) List.mem_cons_self;rw[hl] at this;simpa using this
   ·rw[hoff ht];exact⟨fun h=>(by cases h),fun hT=>absurd (fun x hx=>hT x (List.mem_cons_of_mem _ hx)) ht⟩

theorem qcS (hE:EnvOK P env) {k:AState→Option α} {K:Act→Prop}:∀(l:List Oper) {σ:AState} {a:Act},Rel F σ γ a w→qjP P env ops l σ k=some res →
  (∀σ' a',Rel F σ' γ a' w→Step σ γ w σ' γ w→k σ'=some res→K a')→wpQuiet P ops (Chg [] w) K l a
 | [],σ,a,r,h,hK=>hK σ a r (Step.refl _ _ _) h
 | o::l,σ,a,r,h,hK=>by
  simp only[qjP,Option.bind_eq_some_iff,chk_some,Bool.and_eq_true,Bool.not_eq_true'] at h;obtain⟨q,h1,⟨h2,h3⟩,h4⟩:=h;obtain⟨_,hw,hgs⟩:=qhk r h1;have hw:=hw h2;obtain⟨hA,hB⟩:=qfC hE r h4;show(if Region.wanted o (yielded ops a.tmps) then o.quiet P a (Chg [] w) (wpQuiet P ops (Chg [] w) K l) else wpQuiet P ops (Chg [] w) K l (a.put o.dst undef));split
  ·rename_i hwt;have hT:=hw.1 hwt;obtain⟨pv,v,hq,hp,h5⟩:=hB hT;obtain⟨σ',h6,h7⟩:=Option.bind_eq_some_iff.1 h5;refine⟨v,fun w' hc=>qhc (hq w' hc) fun _ h=>Chg.trans' hc h,qcS hE l ((r.gsUp q.2.2).putO h6 hgs (fun _=>hp) (fun hn=>absurd hT hn)) h7 fun σ2 a2 r2 s2 h8=>hK σ2 a2 r2 ?_ h8⟩;have:=Step.putO (γ:=γ) (w:=w) h6;exact Step.trans (Step.trans (Step.gsUp σ γ w _) this) s2
  ·rename_i hwt;have hnT:¬tagT σ q.1:=fun hT=>hwt (hw.2 hT);obtain⟨pv,h5⟩:=hA;obtain⟨σ',h6,h7⟩:=Option.bind_eq_some_iff.1 h5;refine qcS hE l ((r.gsUp q.2.2).putO h6 hgs (fun hT=>absurd hT hnT) (fun _=>rfl)) h7 fun σ2 a2 r2 s2 h8=>hK σ2 a2 r2 ?_ h8;have:=Step.putO (γ:=γ) (w:=w) h6;exact Step.trans (Step.trans (Step.gsUp σ γ w _) this) s2
end
end Go.Den

