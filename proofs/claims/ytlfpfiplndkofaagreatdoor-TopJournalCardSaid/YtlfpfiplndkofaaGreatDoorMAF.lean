/- Several texts in one: CoreM, CoreP, CoreN, CoreO, CoreR, CoreS2, CoreA, CoreB, GameP, RecA, RecB, RecC, RecD, GameT, MatchA, MatchB, JoinT, MatchD, PremM, MatchE, ClaimA. -/
import Derived.Test.YtlfpfiplndkofaaGreatDoorMAE
import Derived.Test.YtlfpfiplndkofaaGreatDoorMAD
import Derived.Lib.IndexLaws
import Derived.Lib.IndexBytes
import Derived.Lib.CountLaws
import Derived.Lib.ItoaLen
import Derived.Lib.AtoiAll
import Derived.Lib.ItoaMem
import Derived.Laws.RangeString
namespace Go.Proofs.YtlfpfiplndkofaaGreatDoor
open Go.Den
set_option linter.unusedVariables false
set_option linter.unusedSimpArgs false
set_option maxRecDepth 100000

abbrev RWay:=Int×Int×Int×Int×Unit
def cellI (p:Place) (s:Int):Int:=p.cells.getD s.toNat 0
def onB (r:Rules) (x y:Int):Bool:=decide (0≤x∧x<r.width∧0≤y∧y<r.height)
def sq (r:Rules) (x y:Int):Int:=y*r.width+x
def enemy (p:Place) (c:Int):Bool:=decide (c>0)&&((c-1).tmod 2 !=p.turn)
def mineB (p:Place) (c:Int):Bool:=decide (c>0)&&((c-1).tmod 2==p.turn)
def takes (p:Place) (w:RWay) (c:Int):Bool:=((c==0)&&(w.2.2.2.1 !=2))||(enemy p c&&(w.2.2.2.1 !=0))
def dyOf (p:Place) (w:RWay):Int:=if p.turn=1 then-w.2.1 else w.2.1
def wayL (r:Rules) (p:Place) (w:RWay):Nat→Int→Int→List Int
  | 0,_,_=>[]
  | n+1,x,y=>bif onB r (x+w.1) (y+dyOf p w) then(bif takes p w (cellI p (sq r (x+w.1) (y+dyOf p w))) then [sq r (x+w.1) (y+dyOf p w)] else [])++(bif cellI p (sq r (x+w.1) (y+dyOf p w))==0 then wayL r p w n (x+w.1) (y+dyOf p w) else []) else []
def wayS (r:Rules) (p:Place) (s:Int) (w:RWay):List Int:=wayL r p w w.2.2.1.toNat (s.tmod r.width) (s.tdiv r.width)

def WayOk (w:RWay):Prop:=(-7≤w.1∧w.1≤7)∧(-7≤w.2.1∧w.2.1≤7)∧¬(w.1=0∧w.2.1=0)∧(1≤w.2.2.1∧w.2.2.1≤7)∧(0≤w.2.2.2.1∧w.2.2.2.1≤2)
theorem Valid.wayOk {r:Rules} {p:Place} (h:Valid r p) {q:Piece} (hq:q∈r.pieces) {w:RWay} (hw:w∈q.2.2.2.1):WayOk w:=h.r0.way q hq w hw
theorem dyOf_rng {p:Place} {w:RWay} (h:WayOk w) : -7≤dyOf p w∧dyOf p w≤7:=by
  unfold dyOf;obtain⟨_,h1,_⟩:=h;split<;>omega
theorem onB_iff {r:Rules} {x y:Int}:onB r x y=true↔0≤x∧x<r.width∧0≤y∧y<r.height:=by simp[onB]
theorem qtB {y W H:Int} (hW:0≤W) (h0:0≤y) (h1:y<H):0≤y*W∧y*W≤W*H-W:=by
  refine⟨Int.mul_nonneg h0 hW,?_⟩;have:=Int.mul_le_mul_of_nonneg_right (show y≤H-1 by omega) hW;rw[Int.sub_mul,Int.one_mul,Int.mul_comm H W] at this;exact this
theorem qxU {r:Rules} (hr:VR0 r) {x y:Int} (h:onB r x y=true):0≤sq r x y∧sq r x y<r.width*r.height:=by
  obtain⟨h1,h2,h3,h4⟩:=onB_iff.1 h;have:=qtB (show 0≤r.width by have:=hr.w1;omega) h3 h4;unfold sq;omega
theorem qlI {p:Place} {s:Int} (h0:0≤s) (h1:s<((p.cells.length:Nat):Int)):at? p.1 s=some (cellI p s):=by
  rw[at?_eq p.1 s h0 h1];unfold cellI;have h1':s<((p.1.length:Nat):Int):=h1;rw[List.getD_eq_getElem?_getD,List.getElem?_eq_getElem (by show s.toNat<p.1.length;omega)];rfl
theorem qxp {r:Rules} {p:Place} (h:Valid r p) (s:Int):0≤cellI p s∧cellI p s≤2*((r.pieces.length:Nat):Int):=by
  unfold cellI;rw[List.getD_eq_getElem?_getD]
  cases e:p.cells[s.toNat]? with
  | none=>simp;omega
  | some c=>exact h.cell c (List.mem_of_getElem? e)
theorem qoB {r:Rules} {p:Place} (h:Valid r p) (s:Int):0≤cellI p s∧cellI p s≤12:=by
  have:=qxp h s;have:=h.r0.t6;omega
theorem qxN (r:Rules) (p:Place) (w:RWay):∀(n:Nat) (x y:Int),(wayL r p w n x y).length≤n
  | 0,x,y=>by simp[wayL]
  | n+1,x,y=>by
    unfold wayL;have:=qxN r p w n (x+w.1) (y+dyOf p w);cases onB r (x+w.1) (y+dyOf p w)
    · simp
    · cases takes p w (cellI p (sq r (x+w.1) (y+dyOf p w)))<;>cases (cellI p (sq r (x+w.1) (y+dyOf p w))==0)<;>simp<;>omega
theorem qxB {r:Rules} {p:Place} {w:RWay} {t:Int}:∀ {n:Nat} {x y:Int},t∈wayL r p w n x y→∃j:Int,1≤j∧onB r (x+j*w.1) (y+j*dyOf p w)=true∧t=sq r (x+j*w.1) (y+j*dyOf p w)
  | 0,x,y,h=>by simp[wayL] at h
  | n+1,x,y,h=>by
    unfold wayL at h
    cases hb:onB r (x+w.1) (y+dyOf p w) with
    | false=>simp[hb] at h
    | true =>
      rw[hb,cond_true] at h;rcases List.mem_append.1 h with h | h
      · refine⟨1,by omega,by simpa using hb,?_⟩
        cases ht:takes p w (cellI p (sq r (x+w.1) (y+dyOf p w)))<;>simp[ht] at h
        simpa using h
      · cases hc:(cellI p (sq r (x+w.1) (y+dyOf p w))==0)<;>simp[hc] at h
        obtain⟨j,h1,h2,h3⟩:=qxB h
        have e1:x+w.1+j*w.1=x+(j+1)*w.1:=by rw[Int.add_mul];omega
        have e2:y+dyOf p w+j*dyOf p w=y+(j+1)*dyOf p w:=by rw[Int.add_mul];omega
        rw[e1,e2] at h2 h3;exact⟨j+1,by omega,h2,h3⟩
theorem qpV {r:Rules} {p:Place} (h:VR0 r) {w:RWay} {n:Nat} {x y t:Int} (ht:t∈wayL r p w n x y):0≤t∧t<r.width*r.height:=by
  obtain⟨j,h1,h2,h3⟩:=qxB ht;rw[h3];exact qxU h h2
theorem qs8 {r:Rules} (hr:VR0 r) {s:Int} (h0:0≤s) (h1:s<r.width*r.height):(0≤s.tmod r.width∧s.tmod r.width<r.width)∧0≤s.tdiv r.width∧s.tdiv r.width<r.height:=by
  have hw:=hr.w1;rw[Int.tmod_eq_emod_of_nonneg h0,Int.tdiv_eq_ediv_of_nonneg h0];refine⟨⟨Int.emod_nonneg _ (by omega),Int.emod_lt_of_pos _ (by omega)⟩,Int.ediv_nonneg h0 (by omega),Int.ediv_lt_of_lt_mul (by omega) (by rw[Int.mul_comm];exact h1)⟩
theorem qyE {r:Rules} {p:Place} (h:Valid r p) {w:RWay} (hw:WayOk w) (s:Int) :
    ((((w.2.2.2.1==(0:Int))&&(cellI p s==(0:Int)))||((w.2.2.2.1==(1:Int))&&((cellI p s==(0:Int))||((decide (cellI p s>(0:Int)))&&(((w64 (cellI p s-(1:Int))).tmod (2:Int))!=p.2.2.1)))))||((w.2.2.2.1==(2:Int))&&((decide (cellI p s>(0:Int)))&&(((w64 (cellI p s-(1:Int))).tmod (2:Int))!=p.2.2.1))))=takes p w (cellI p s):=by
  have hc:=qoB h s;rw[qf (n:=cellI p s-1) (by omega) (by omega)];obtain⟨_,_,_,_,h5⟩:=hw
  have h6:w.2.2.2.1=0∨w.2.2.2.1=1∨w.2.2.2.1=2:=by omega
  unfold takes enemy;rw[show p.turn=p.2.2.1 from rfl];generalize hA:(cellI p s==0)=A;have hA':A=true→decide (cellI p s>0)=false:=fun h=>by
    subst hA;rw[beq_iff_eq] at h;simp[h]
  generalize decide (cellI p s>0)=B at hA';generalize ((cellI p s-1).tmod 2 !=p.2.2.1)=C
  rcases h6 with h6 | h6 | h6<;>rw[h6]<;>cases A<;>cases B<;>cases C<;>simp_all
theorem qwW {r:Rules} {p:Place} (h:Valid r p) {w:RWay} (hw:WayOk w):∀(n:Nat) (out:List Int) (x y k:Int),0≤k→k+n=w.2.2.1→out.length≤k.toNat→(0≤x∧x<r.width)→(0≤y∧y<r.height) →
    iterW (qd3 w r ((dyOf p w,()),()) p) ((out,x,y,k,()),())=some ((out++wayL r p w n x y,()),())
  | 0,out,x,y,k,h0,hk,ho,hx,hy=>by
    refine qm ?_;unfold qd3
    have:decide (k<w.2.2.1)=false:=by simp;omega
    simp only[this,cond_false,wayL,List.append_nil]
  | n+1,out,x,y,k,h0,hk,ho,hx,hy=>by
    have hr:=h.r0;have hd:=dyOf_rng (p:=p) hw;obtain⟨hdx,_,_,hm,_⟩:=hw;have:=hr.w8;have:=hr.h8;have:=hr.w1;have:=hr.h1;have ha:=hr.area
    have hlt:decide (k<w.2.2.1)=true:=by simp;omega
    have wx:w64 (x+w.1)=x+w.1:=qf (by omega) (by omega);have wy:w64 (y+dyOf p w)=y+dyOf p w:=qf (by omega) (by omega);have wk:w64 (k+1)=k+1:=qf (by omega) (by omega);have hoff:((((decide (x+w.1<(0:Int)))||(decide (x+w.1≥r.2.1)))||(decide (y+dyOf p w<(0:Int))))||(decide (y+dyOf p w≥r.2.2.1))) = !onB r (x+w.1) (y+dyOf p w):=by
      rw[Bool.eq_iff_iff];simp only[Bool.or_eq_true,decide_eq_true_eq,Bool.not_eq_true',onB,decide_eq_false_iff_not];show((x+w.1<0∨x+w.1≥r.width)∨y+dyOf p w<0)∨y+dyOf p w≥r.height↔_;omega
    unfold wayL
    cases hb:onB r (x+w.1) (y+dyOf p w) with
    | false =>
      refine qm ?_;unfold qd3;simp only[hlt,cond_true,wx,wy,hoff,hb,Bool.not_false,cond_false,List.append_nil]
    | true =>
      have hs:=qxU hr hb;obtain⟨b1,b2,b3,b4⟩:=onB_iff.1 hb;have hmul:=qtB (show 0≤r.width by omega) b3 b4;have w1:w64 ((y+dyOf p w)*r.2.1)=(y+dyOf p w)*r.2.1:=qf (by show _≤(y+dyOf p w)*r.width;omega) (by show(y+dyOf p w)*r.width≤_;omega);have w2:w64 ((y+dyOf p w)*r.2.1+(x+w.1))=sq r (x+w.1) (y+dyOf p w):=qf (by show _≤sq r (x+w.1) (y+dyOf p w);omega) (by show sq r (x+w.1) (y+dyOf p w)≤_;omega);have hat:=qlI (p:=p) hs.1 (by rw[h.cells];exact hs.2);have hlen:=h.cells
      have hstep:qd3 w r ((dyOf p w,()),()) p ((out,x,y,k,()),())=(bif cellI p (sq r (x+w.1) (y+dyOf p w))!=0 then some (.inr ((out++(bif takes p w (cellI p (sq r (x+w.1) (y+dyOf p w))) then [sq r (x+w.1) (y+dyOf p w)] else []),()),())) else some (.inl ((out++(bif takes p w (cellI p (sq r (x+w.1) (y+dyOf p w))) then [sq r (x+w.1) (y+dyOf p w)] else []),x+w.1,y+dyOf p w,k+1,()),()))):=by
        unfold qd3
        simp only[hlt,cond_true,wx,wy,hoff,hb,Bool.not_true,cond_false,w1,w2,wk,hat,Option.bind_some,qyE h ⟨hdx,‹_›,‹_›,hm,‹_›⟩,show ∀b,imp b true=true from fun b=>by cases b<;>rfl,qb]
        have hroom:room (out.length+[sq r (x+w.1) (y+dyOf p w)].length) 8=true:=qS (by simp;omega);cases takes p w (cellI p (sq r (x+w.1) (y+dyOf p w)))
        · simp
        · simp only[cond_true,hroom,qb,Option.bind_some]
      cases hc:(cellI p (sq r (x+w.1) (y+dyOf p w))==0) with
      | true =>
        have hne:(cellI p (sq r (x+w.1) (y+dyOf p w))!=0)=false:=by simp only[bne,hc];rfl
        rw[hne,cond_false] at hstep
        rw[qo hstep,qwW h ⟨hdx,‹_›,‹_›,hm,‹_›⟩ n _ (x+w.1) (y+dyOf p w) (k+1) (by omega) (by omega) (by
          have:(bif takes p w (cellI p (sq r (x+w.1) (y+dyOf p w))) then [sq r (x+w.1) (y+dyOf p w)] else []).length≤1:=by cases takes p w (cellI p (sq r (x+w.1) (y+dyOf p w)))<;>simp
          rw[List.length_append];omega) ⟨b1,b2⟩ ⟨b3,b4⟩]
        simp[List.append_assoc]
      | false =>
        have hne:(cellI p (sq r (x+w.1) (y+dyOf p w))!=0)=true:=by simp only[bne,hc];rfl
        rw[hne,cond_true] at hstep;rw[qm hstep];simp
theorem way_spec {r:Rules} {p:Place} (h:Valid r p) {w:RWay} (hw:WayOk w) {s:Int} (h0:0≤s) (h1:s<r.width*r.height):qpx r p s w=some (wayS r p s w):=by
  have hr:=h.r0;have hd:=qs8 hr h0 h1;have:=hr.w8;have:=hr.h8;have:=hr.w1;have:=hr.h1;obtain⟨hdx,hdy,hnz,hm,htk⟩:=id hw;unfold qpx wayS;have hq:(r.2.1 !=0)=true:=bne_t (by show ¬r.width=0;omega);have wdy:(bif (p.2.2.1==(1:Int)) then some (((w64 (0-w.2.1)),()),()) else some ((w.2.1,()),()))=some ((dyOf p w,()),()):=by
    unfold dyOf;by_cases e:p.turn=1
    · rw[if_pos e,beq_t e,cond_true,qf (by omega) (by omega)];simp
    · rw[if_neg e,beq_f e,cond_false]
  have wq:w64 (s.tdiv r.2.1)=s.tdiv r.2.1:=qf (by show _≤s.tdiv r.width;omega) (by show s.tdiv r.width≤_;omega);rw[wdy,Option.bind_some,hq,qb,qb,wq,qwW h hw w.2.2.1.toNat [] _ _ 0 (by omega) (by omega) (by simp) hd.1 hd.2];simp

theorem qqZ (x y:Mv):mvLt x y=true↔x.1<y.1∨x.1=y.1∧(x.2.1<y.2.1∨x.2.1=y.2.1∧x.2.2.1<y.2.2.1):=by simp[mvLt]
theorem lt_f (x y:Mv):mvLt x y=false↔¬(x.1<y.1∨x.1=y.1∧(x.2.1<y.2.1∨x.2.1=y.2.1∧x.2.2.1<y.2.2.1)):=by rw[←qqZ,Bool.not_eq_true]
theorem mv_eq {x y:Mv} (h1:x.1=y.1) (h2:x.2.1=y.2.1) (h3:x.2.2.1=y.2.2.1):x=y:=by
  obtain⟨a,b,c,⟨⟩⟩:=x;obtain⟨a',b',c',⟨⟩⟩:=y;simp only at h1 h2 h3;subst h1 h2 h3;rfl
theorem mv_beq (x y:Mv):((x.1==y.1)&&((x.2.1==y.2.1)&&((x.2.2.1==y.2.2.1)&&true)))=decide (x=y):=by
  rw[Bool.eq_iff_iff];simp only[Bool.and_eq_true,beq_iff_eq,decide_eq_true_eq,and_true];constructor
  · rintro ⟨h1,h2,h3⟩;exact mv_eq h1 h2 h3
  · rintro rfl;exact⟨rfl,rfl,rfl⟩

def dd1 (a:Mv):List Mv→List Mv
  | []=>[]
  | x::xs=>if x=a then dd1 a xs else x::dd1 x xs
def dd:List Mv→List Mv
  | []=>[]
  | x::xs=>x::dd1 x xs
theorem qs7 (y:Mv):∀(l:List Mv) (a:Mv),dd1 a (l++[y])=dd1 a l++(if (a::l).getLast (by simp)=y then [] else [y])
  | [],a=>by simp only[List.nil_append,dd1,List.getLast_singleton];by_cases h:y=a<;>simp[h,eq_comm]
  | x::xs,a=>by
    simp only[List.cons_append,dd1];by_cases h:x=a
    · subst h;rw[if_pos rfl,if_pos rfl,qs7 y xs x];congr 2
    · rw[if_neg h,if_neg h,qs7 y xs x,List.cons_append];congr 2
theorem dd_snoc {l:List Mv} (hl:l≠[]) (y:Mv):dd (l++[y])=dd l++(if l.getLast hl=y then [] else [y]):=by
  cases l with
  | nil=>exact absurd rfl hl
  | cons x xs=>simp only[List.cons_append,dd,qs7]
theorem qt1 (z:Mv):∀(l:List Mv) (a:Mv),z∈a::dd1 a l↔z∈a::l
  | [],a=>by simp[dd1]
  | x::xs,a=>by
    simp only[dd1];by_cases h:x=a
    · subst h;rw[if_pos rfl,qt1 z xs x];simp
    · rw[if_neg h,List.mem_cons,qt1 z xs x,←List.mem_cons]
theorem dd_mem (z:Mv) (l:List Mv):z∈dd l↔z∈l:=by
  cases l with
  | nil=>simp[dd]
  | cons x xs=>exact qt1 z xs x
theorem dd1_lt:∀(l:List Mv) (a:Mv),(a::l).Pairwise (fun x y=>(!mvLt y x)=true)→(a::dd1 a l).Pairwise (fun x y=>mvLt x y=true)
  | [],a,h=>by simp[dd1]
  | x::xs,a,h=>by
    simp only[dd1];rw[List.pairwise_cons] at h;by_cases e:x=a
    · subst e;rw[if_pos rfl];exact dd1_lt xs x h.2
    · rw[if_neg e,List.pairwise_cons];refine⟨fun z hz=>?_,dd1_lt xs x h.2⟩;have hz':=(qt1 z xs x).1 hz;have h1:=h.1 x (by simp);have hax:mvLt a x=true:=by
        rw[Bool.not_eq_true',lt_f] at h1;rw[qqZ];by_cases c1:a.1=x.1
        · by_cases c2:a.2.1=x.2.1
          · by_cases c3:a.2.2.1=x.2.2.1
            · exact absurd (mv_eq c1 c2 c3).symm e
            · omega
          · omega
        · omega
      rcases List.mem_cons.1 hz' with rfl | hz2
      · exact hax
      · have h2:=(List.pairwise_cons.1 h.2).1 z hz2;rw[Bool.not_eq_true',lt_f] at h2;rw[qqZ] at hax ⊢;omega
theorem dd_lt {l:List Mv} (h:l.Pairwise (fun x y=>(!mvLt y x)=true)):(dd l).Pairwise (fun x y=>mvLt x y=true):=by
  cases l with
  | nil=>simp[dd]
  | cons x xs=>exact dd1_lt xs x h
theorem sort_pw (l:List Mv):(qcg l).Pairwise (fun x y=>(!mvLt y x)=true):=by
  unfold qcg;apply List.pairwise_mergeSort
  · intro a b c h1 h2;rw[Bool.not_eq_true',lt_f] at *;omega
  · intro a b;rw[Bool.or_eq_true,Bool.not_eq_true',Bool.not_eq_true',lt_f,lt_f];omega
theorem sort_mem (z:Mv) (l:List Mv):z∈qcg l↔z∈l:=(List.mergeSort_perm l _).mem_iff
theorem sort_len (l:List Mv):(qcg l).length=l.length:=List.length_mergeSort l
theorem lt_irrefl (x:Mv):mvLt x x=false:=by rw[lt_f];omega
theorem qvj:∀ {l m:List Mv},l.Pairwise (fun x y=>mvLt x y=true)→m.Pairwise (fun x y=>mvLt x y=true)→(∀z,z∈l↔z∈m)→l=m
  | [],[],_,_,_=>rfl
  | [],y::m,_,_,h=>by have:=(h y).2 (by simp);simp at this
  | x::l,[],_,_,h=>by have:=(h x).1 (by simp);simp at this
  | x::l,y::m,hl,hm,h=>by
    rw[List.pairwise_cons] at hl hm;have e:x=y:=by
      rcases List.mem_cons.1 ((h x).1 (by simp)) with e | e
      · exact e
      · rcases List.mem_cons.1 ((h y).2 (by simp)) with e2 | e2
        · exact e2.symm
        · have a:=hm.1 x e;have b:=hl.1 y e2;rw[qqZ] at a b;omega
    subst e;congr 1;refine qvj hl.2 hm.2 fun z=>⟨fun hz=>?_,fun hz=>?_⟩
    · rcases List.mem_cons.1 ((h z).1 (by simp[hz])) with e | e
      · subst e;have:=hl.1 z hz;rw[lt_irrefl] at this;cases this
      · exact e
    · rcases List.mem_cons.1 ((h z).2 (by simp[hz])) with e | e
      · subst e;have:=hm.1 z hz;rw[lt_irrefl] at this;cases this
      · exact e

abbrev d0:Mv:=((0:Int),((0:Int),((0:Int),())))
theorem qxI {xs:List Mv} {j:Nat} (h:j<xs.length):xs.take (j+1)=xs.take j++[getD' xs j d0]:=by
  rw[List.take_succ_eq_append_getElem h];simp[getD',h]
theorem dd_take {xs:List Mv} {j:Nat} (h:j<xs.length) (hj:1≤j):dd (xs.take (j+1))=dd (xs.take j)++(if getD' xs (j-1) d0=getD' xs j d0 then [] else [getD' xs j d0]):=by
  have hne:xs.take j≠[]:=by
    intro e;have:=congrArg List.length e;rw[List.length_take] at this;simp only[List.length_nil] at this;omega
  rw[qxI h,dd_snoc hne];have:(xs.take j).getLast hne=getD' xs (j-1) d0:=by
    rw[List.getLast_eq_getElem];simp only[List.getElem_take,List.length_take,getD'];rw[List.getD_eq_getElem?_getD,List.getElem?_eq_getElem (by omega)];simp only[Option.getD_some];congr 1;omega
  rw[this]
theorem compact5 (xs:List Mv) (k0:Nat) (hk0:1≤k0) (hk1:k0<xs.length) (hx:xs.length≤1000000) (hd:dd (xs.take (k0+1))=xs.take k0) :
    ∃r,iterW (qjh (((k0:Int),()),(xs,()))) (((k0:Int),(1:Int),()),(xs,()))=some r∧(∃k:Nat,r.1.1=(k:Int)∧k≤xs.length∧r.2.1.length=xs.length∧r.2.1.take k=dd xs):=by
  refine qr0 (fun x=>∃(k k2:Nat),x.1.1=(k:Int)∧x.1.2.1=(k2:Int)∧1≤k2∧k0+k2≤xs.length∧k0≤k∧k+1≤k0+k2∧x.2.1.length=xs.length∧(∀j,k0+k2≤j+1→getD' x.2.1 j d0=getD' xs j d0)∧x.2.1.take k=dd (xs.take (k0+k2))) (fun x=>xs.length-x.1.2.1.toNat) _ ?_ _ ⟨k0,1,rfl,rfl,by omega,by omega,by omega,by omega,rfl,fun _ _=>rfl,by rw[hd]⟩
  rintro ⟨⟨k,k2,⟨⟩⟩,ys,⟨⟩⟩ ⟨K,K2,e1,e2,h1,h2,h3,h4,h5,h6,h7⟩
  simp only at e1 e2 h5 h6 h7;subst e1 e2;unfold qjh;simp only[Int.toNat_natCast];by_cases hlt:K2<xs.length-k0
  · left
    have c1:decide ((K2:Int)<((xs.length-k0:Nat):Int))=true:=by simp;omega
    have c2:inb (K2:Int) (xs.length-k0)=true:=inb_iff.2 ⟨by omega,by omega⟩
    have w1:w64 ((K2:Int)-1)=((K2-1:Nat):Int):=by rw[qf (by omega) (by omega)];omega
    have c3:inb ((K2-1:Nat):Int) (xs.length-k0)=true:=inb_iff.2 ⟨by omega,by omega⟩
    have w2:w64 ((K2:Int)+1)=((K2+1:Nat):Int):=by rw[qf (by omega) (by omega)];omega
    have w3:w64 ((K:Int)+1)=((K+1:Nat):Int):=by rw[qf (by omega) (by omega)];omega
    have c4:inb (K:Int) ys.length=true:=inb_iff.2 ⟨by omega,by omega⟩;have g1:getD' ys (k0+K2) d0=getD' xs (k0+K2) d0:=h6 _ (by omega);have g2:getD' ys (k0+(K2-1)) d0=getD' xs (k0+(K2-1)) d0:=h6 _ (by omega);have hdd:=dd_take (xs:=xs) (j:=k0+K2) (by omega) (by omega);simp only[c1,cond_true,c2,qb,w1,Int.toNat_natCast,c3,w2,w3,c4,mv_beq,g1,g2];by_cases he:getD' xs (k0+K2) d0=getD' xs (k0+(K2-1)) d0
    · refine⟨(((K:Int),((K2+1:Nat):Int),()),(ys,())),by simp[he],⟨K,K2+1,rfl,rfl,by omega,by omega,by omega,by omega,h5,fun j hj=>h6 j (by omega),?_⟩,by simp;omega⟩;rw[show k0+(K2+1)=k0+K2+1 by omega,hdd,if_pos (by rw[he];congr 1;omega),List.append_nil];exact h7
    · refine⟨((((K+1:Nat):Int),((K2+1:Nat):Int),()),(ys.set K (getD' xs (k0+K2) d0),())),by simp[he],⟨K+1,K2+1,rfl,rfl,by omega,by omega,by omega,by omega,by simp[h5],fun j hj=>?_,?_⟩,by simp;omega⟩
      · rw[←h6 j (by omega)];simp only[getD'];simp only[List.getD_eq_getElem?_getD];rw[List.getElem?_set_ne (by omega)]
      · rw[show k0+(K2+1)=k0+K2+1 by omega,hdd,if_neg (by intro e;apply he;rw[←e];congr 1;omega),←h7];rw[List.take_succ_eq_append_getElem (by simp;omega)];simp[List.take_set_of_le]
  · right
    have c1:decide ((K2:Int)<((xs.length-k0:Nat):Int))=false:=by simp;omega
    refine⟨(((K:Int),()),(ys,())),by simp only[c1,cond_false],K,rfl,by omega,h5,?_⟩;rw[h7,show k0+K2=xs.length by omega,List.take_length]
theorem compact4 (xs:List Mv) (hx:xs.length≤1000000) (h2:2≤xs.length) :
    (Option.bind (α:=((Unit)×((List Mv)×Unit)) ⊕ (((List Mv)×Unit)×(Unit))) (iterW qgj (((1:Int),()),(xs,()))) (Sum.elim (fun x23=>some ((x23.2.1,()),())) some))=some ((dd xs,()),()):=by
  obtain⟨r,hr,hq⟩:=qr0 (f:=qgj) (fun x=>∃k:Nat,x=(((k:Int),()),(xs,()))∧1≤k∧k≤xs.length∧dd (xs.take k)=xs.take k) (fun x=>xs.length-x.1.1.toNat) (fun r=>r = .inl ((),(xs,()))∧dd xs=xs∨r = .inr ((dd xs,()),())) (by
    rintro x ⟨k,rfl,h1,h3,h4⟩
    unfold qgj;simp only[Int.toNat_natCast];by_cases hlt:k<xs.length
    · have c1:decide ((k:Int)<((xs.length:Nat):Int))=true:=by simp;omega
      have c2:inb (k:Int) xs.length=true:=inb_iff.2 ⟨by omega,by omega⟩
      have w1:w64 ((k:Int)-1)=((k-1:Nat):Int):=by rw[qf (by omega) (by omega)];omega
      have c3:inb ((k-1:Nat):Int) xs.length=true:=inb_iff.2 ⟨by omega,by omega⟩
      have w2:w64 ((k:Int)+1)=((k+1:Nat):Int):=by rw[qf (by omega) (by omega)];omega
      have c4:qe (k:Int) ((xs.length:Nat):Int) xs.length=true:=by simp[qe];omega
      have hdd:=dd_take hlt h1;simp only[c1,cond_true,c2,qb,w1,Int.toNat_natCast,c3,c4,mv_beq];by_cases he:getD' xs k d0=getD' xs (k-1) d0
      · right;rw[if_pos he.symm,List.append_nil,h4] at hdd;obtain⟨r,hr,K,e1,e2,e3,e4⟩:=compact5 xs k h1 hlt hx hdd;obtain⟨⟨k',⟨⟩⟩,ys,⟨⟩⟩:=r;simp only at e1 e3 e4;subst e1;refine⟨.inr ((dd xs,()),()),?_,.inr rfl⟩;rw[hr]
        have c5:qe (K:Int) ((ys.length:Nat):Int) ys.length=true:=by simp[qe];omega
        have c6:∀l:List Mv,K≤l.length→qe 0 (K:Int) l.length=true:=fun l hl=>by simp[qe];omega
        simp only[he,decide_true,cond_true,Option.bind_some,c5,qb,Int.toNat_natCast];rw[c6 _ (by simp;omega),qb,Option.bind_some,Sum.elim_inr,List.take_append_of_le_length (by simp;omega),List.take_take,Nat.min_self,e4]
      · left;refine⟨((((k+1:Nat):Int),()),(xs,())),?_,⟨k+1,rfl,by omega,by omega,?_⟩,by simp;omega⟩
        · simp only[he,decide_false,cond_false,Option.bind_some,Sum.elim_inl,w2]
        · rw[hdd,if_neg (fun e=>he e.symm),h4,←qxI hlt]
    · right
      have c1:decide ((k:Int)<((xs.length:Nat):Int))=false:=by simp;omega
      refine⟨.inl ((),(xs,())),by simp only[c1,cond_false],.inl ⟨rfl,?_⟩⟩
      have:k=xs.length:=by omega
      rw[this,List.take_length] at h4
      exact h4) (((1:Int),()),(xs,())) ⟨1,rfl,by omega,by omega,by
        cases xs with
        | nil=>rfl
        | cons x l=>rfl⟩
  rw[hr];rcases hq with ⟨rfl,e⟩ | rfl
  · rw[e];rfl
  · rfl

def qda (p:Place):List Int:=getD' [p.2.1.1,p.2.1.2.1] (p.2.2.1).toNat []
theorem qni {r:Rules} {p:Place} (h:Valid r p):qda p=if p.turn=0 then p.h0 else p.h1:=by
  unfold qda;rcases h.turn with e | e
  · rw[if_pos e,show p.2.2.1=0 from e];rfl
  · rw[if_neg (by omega),show p.2.2.1=1 from e];rfl
theorem qpJ {r:Rules} {p:Place} (h:Valid r p):(qda p).length=r.pieces.length:=by
  rw[qni h];split
  · exact h.l0
  · exact h.l1
theorem qxl {r:Rules} {p:Place} (h:Valid r p):∀c∈qda p,0≤c∧c≤1000:=by
  rw[qni h];split
  · exact h.hand0
  · exact h.hand1
def handI (p:Place) (k:Int):Int:=(qda p).getD k.toNat 0
theorem at_hand {p:Place} {k:Int} (h0:0≤k) (h1:k<(((qda p).length:Nat):Int)):at? (getD' [p.2.1.1,p.2.1.2.1] (p.2.2.1).toNat []) k=some (handI p k):=by
  show at? (qda p) k=_;rw[at?_eq _ k h0 h1];unfold handI;rw[List.getD_eq_getElem?_getD,List.getElem?_eq_getElem (by omega)];rfl
def colF (p:Place) (W x0:Int):Nat→Bool
  | 0=>true
  | y+1=>colF p W x0 y&&(cellI p (x0+(y:Int)*W)!=0)
def qlC (r:Rules) (p:Place) (s:Int):Bool:=colF p r.width (s.tmod r.width) (s.tdiv r.width).toNat
theorem div_eq {W s:Int} (hW:1≤W) (h0:0≤s):s=s.tmod W+((s.tdiv W).toNat:Int)*W:=by
  have h1:=Int.tmod_add_tdiv_mul s W
  have h2:0≤s.tdiv W:=by rw[Int.tdiv_eq_ediv_of_nonneg h0];exact Int.ediv_nonneg h0 (by omega)
  rw[Int.toNat_of_nonneg h2];exact h1.symm
theorem qq8 {r:Rules} {p:Place} (h:Valid r p) {x0:Int} (hx:0≤x0∧x0<r.width):∀(y:Nat),(y:Int)≤r.height →
    (Option.bind (α:=((Unit)×(Unit)) ⊕ Bool) (iterW (qcK p r) ((x0+(y:Int)*r.width-r.width,()),())) (Sum.elim (fun x3=>some true) some))=some (colF p r.width x0 y)
  | 0,hy=>by
    rw[qm (r := .inl ((),())) (by
      unfold qcK
      have:decide (x0+((0:Nat):Int)*r.width-r.width≥0)=false:=by simp;omega
      simp only[this,cond_false])]
    rfl
  | y+1,hy=>by
    have hr:=h.r0;have:=hr.w8;have:=hr.h8;have:=hr.w1;have:=hr.h1;have ha:=hr.area;have hb:onB r x0 (y:Int)=true:=onB_iff.2 ⟨hx.1,hx.2,by omega,by omega⟩;have hs:=qxU hr hb;have hm:=qtB (show 0≤r.width by omega) (show(0:Int)≤(y:Int) by omega) (show(y:Int)<r.height by omega);have e:x0+((y+1:Nat):Int)*r.width-r.width=x0+(y:Int)*r.width:=by
      rw[show((y+1:Nat):Int)=(y:Int)+1 by omega,Int.add_mul];omega
    rw[e];have hat:=qlI (p:=p) (s:=x0+(y:Int)*r.width) (by omega) (by rw[h.cells];omega)
    have hge:decide (x0+(y:Int)*r.width≥0)=true:=by simp;omega
    cases hc:(cellI p (x0+(y:Int)*r.width)==0) with
    | true =>
      rw[qm (r := .inr false) (by
        unfold qcK
        simp only[hge,cond_true,hat,Option.bind_some,hc])]
      simp[colF,bne,hc]
    | false =>
      rw[qo (y:=((x0+(y:Int)*r.width-r.width,()),())) (by
        unfold qcK;simp only[hge,cond_true,hat,Option.bind_some,hc,cond_false]
        rw[qf (n:=x0+(y:Int)*r.width-r.2.1) (by show _≤x0+(y:Int)*r.width-r.width;omega) (by show x0+(y:Int)*r.width-r.width≤_;omega)]),qq8 h hx y (by omega)]
      simp[colF,bne,hc]
theorem qwn {r:Rules} {p:Place} (h:Valid r p) {s:Int} (h0:0≤s) (h1:s<r.width*r.height):qhN r p s=some (qlC r p s):=by
  have hr:=h.r0;have:=hr.w8;have:=hr.h8;have:=hr.w1;have:=hr.h1;have ha:=hr.area;have hd:=qs8 hr h0 h1;have e:=div_eq hr.w1 h0;unfold qhN qlC;rw[qf (n:=s-r.2.1) (by show _≤s-r.width;omega) (by show s-r.width≤_;omega)];have:=qq8 h hd.1 (s.tdiv r.width).toNat (by omega);rw[←e] at this;exact this
def putOk (r:Rules) (p:Place) (s:Int):Bool:=(cellI p s==0)&&(!r.falls||qlC r p s)
def qiA (r:Rules) (p:Place) (s:Nat):List Mv:=bif putOk r p (s:Int) then(List.range (qda p).length).flatMap (fun k:Nat=>bif decide (handI p (k:Int)>0) then [((-1:Int),((s:Int),((k:Int),())))] else []) else []
theorem fm_len1 {A:Type} (n:Nat) (F:Nat→List A) (h:∀k,(F k).length≤1):((List.range n).flatMap F).length≤n:=by
  have:=qb5 F 1 (List.range n) (fun k _=>h k);simpa using this
theorem qox {r:Rules} {p:Place} (h:Valid r p) (s:Nat):(qiA r p s).length≤6:=by
  unfold qiA;cases putOk r p (s:Int)
  · simp
  · rw[cond_true];refine Nat.le_trans (fm_len1 _ _ fun k=>?_) (by rw[qpJ h];exact h.r0.t6)
    cases decide (handI p (k:Int)>0)<;>simp
theorem qcS {r:Rules} {p:Place} (h:Valid r p):p.1.length≤64:=by
  have:=h.cells;have:=h.r0.area;have h1:((p.1.length:Nat):Int)=r.width*r.height:=h.cells;omega
theorem puts_spec {r:Rules} {p:Place} (h:Valid r p):qmJ r p=some ((List.range p.1.length).flatMap (qiA r p)):=by
  have hr:=h.r0;have:=hr.w8;have:=hr.h8;have:=hr.w1;have:=hr.h1;have ha:=hr.area;have hlen:((p.1.length:Nat):Int)=r.width*r.height:=h.cells;have h64:=qcS h
  have hh:(qda p).length≤6:=by rw[qpJ h];exact hr.t6
  unfold qmJ;rw[qhQ (A:=Mv) p.1.length 6 (qgv p r) (qiA r p) (fun a=>((a,()),())) [] (fun i _=>qox h i) (fun i hi a hal=>?_) (fun a=>?_)]
  · simp
  · unfold qgv
    have c1:decide ((i:Int)<((p.1.length:Nat):Int))=true:=by simp;omega
    have hat:=qlI (p:=p) (s:=(i:Int)) (by omega) (by show(i:Int)<((p.1.length:Nat):Int);omega);simp only[c1,cond_true,hat,Option.bind_some];have hf:=qwn h (s:=(i:Int)) (by omega) (by omega);have hfil:(i:Int)<r.width→qlC r p (i:Int)=true:=fun hlt=>by
      unfold qlC;rw[Int.tdiv_eq_ediv_of_nonneg (by omega),Int.ediv_eq_zero_of_lt (by omega) hlt];rfl
    rw[hf]
    have hg:∀b c:Bool,gopt b false (some c)=some (b&&c):=fun b c=>by cases b<;>rfl
    rw[hg,Option.bind_some];have hcond:((cellI p (i:Int)!=(0:Int))||((r.2.2.2.2.2.1&&(decide ((i:Int)≥r.2.1)))&&(!(((r.2.2.2.2.2.1&&(decide ((i:Int)≥r.2.1)))&&(!(cellI p (i:Int)!=(0:Int))))&&qlC r p (i:Int))))) = !putOk r p (i:Int):=by
      unfold putOk;rw[show r.2.2.2.2.2.1=r.falls from rfl];by_cases hlt:(i:Int)<r.width
      · rw[hfil hlt,show decide ((i:Int)≥r.2.1)=false by simp;exact hlt];simp only[bne]
        cases (cellI p (i:Int)==0)<;>cases r.falls<;>rfl
      · rw[show decide ((i:Int)≥r.2.1)=true by simp;show r.width≤(i:Int);omega];simp only[bne]
        cases (cellI p (i:Int)==0)<;>cases r.falls<;>cases qlC r p (i:Int)<;>rfl
    rw[hcond,qf (n:=(i:Int)+1) (by omega) (by omega)];unfold qiA
    cases hp:putOk r p (i:Int) with
    | false=>simp
    | true =>
      have hin:inb p.2.2.1 2=true:=inb_iff.2 (by have:=h.turn;show 0≤p.turn∧p.turn<((2:Nat):Int);omega);simp only[Bool.not_true,cond_false,cond_true,hin,qb]
      rw[qhQ (A:=Mv) (qda p).length 1 (qgD p ((a,(i:Int),()),())) (fun k=>bif decide (handI p (k:Int)>0) then [((-1:Int),((i:Int),((k:Int),())))] else []) (fun a=>((a,()),())) a (fun k _=>by cases decide (handI p (k:Int)>0)<;>simp) (fun k hk a2 ha2=>?_) (fun a2=>?_)]
      · rfl
      · unfold qgD;have c2:decide ((k:Int)<(((getD' [p.2.1.1,p.2.1.2.1] (p.2.2.1).toNat []).length:Nat):Int))=true:=by
          have:k<(getD' [p.2.1.1,p.2.1.2.1] (p.2.2.1).toNat []).length:=hk;simp;exact this
        have hat2:=at_hand (p:=p) (k:=(k:Int)) (by omega) (by omega);simp only[c2,cond_true,hat2,Option.bind_some];rw[qf (n:=(k:Int)+1) (by omega) (by omega)];cases decide (handI p (k:Int)>0)
        · simp
        · have hroom:room (a2.length+[((-1:Int),((i:Int),((k:Int),())))].length) 24=true:=qS (by
            simp only[List.length_singleton,List.length_nil] at *;have:i*6≤64*6:=Nat.mul_le_mul_right _ (by omega)
            omega)
          simp only[cond_true,hroom,qb,Option.bind_some]
      · unfold qgD;have c2:decide ((((qda p).length:Nat):Int)<(((getD' [p.2.1.1,p.2.1.2.1] (p.2.2.1).toNat []).length:Nat):Int))=false:=by
          show decide ((((qda p).length:Nat):Int)<(((qda p).length:Nat):Int))=false;simp
        simp only[c2,cond_false]
  · unfold qgv;simp

def lastB (r:Rules) (pl t:Int):Bool:=bif pl==0 then t.tdiv r.width==r.height-1 else t.tdiv r.width==0
theorem qqW {r:Rules} (hr:VR0 r) (pl:Int) {t:Int} (h0:0≤t) (h1:t<r.width*r.height):qfC r pl t=some (lastB r pl t):=by
  have:=hr.w8;have:=hr.h8;have:=hr.w1;have:=hr.h1;have hd:=qs8 hr h0 h1;have hq:(r.2.1 !=0)=true:=bne_t (by show ¬r.width=0;omega);have w1:w64 (t.tdiv r.2.1)=t.tdiv r.width:=qf (by show _≤t.tdiv r.width;omega) (by show t.tdiv r.width≤_;omega);have w2:w64 (r.2.2.1-1)=r.height-1:=qf (by show _≤r.height-1;omega) (by show r.height-1≤_;omega);unfold qfC lastB;rw[hq,qb,qb,w1,w2];exact qaE _ _ _
def qcM (r:Rules) (k:Int):Piece:=r.pieces.getD k.toNat (0,0,0,[],())
theorem qtN {r:Rules} {k:Int} (h0:0≤k) (h1:k<((r.pieces.length:Nat):Int)):at? r.2.2.2.1 k=some (qcM r k)∧qcM r k∈r.pieces:=by
  have h1':k<((r.2.2.2.1.length:Nat):Int):=h1;rw[at?_eq r.2.2.2.1 k h0 h1];unfold qcM;rw[List.getD_eq_getElem?_getD,List.getElem?_eq_getElem (by show k.toNat<r.2.2.2.1.length;omega)];exact⟨rfl,List.getElem_mem _⟩
def qck (c:Int):Int:=(c-1).tdiv 2
theorem qnf {r:Rules} {p:Place} (h:Valid r p) {s:Int} (hm:cellI p s>0):w64 ((w64 (cellI p s-1)).tdiv 2)=qck (cellI p s)∧0≤qck (cellI p s)∧qck (cellI p s)<((r.pieces.length:Nat):Int):=by
  have hc:=qxp h s;have ht:=h.r0.t6;rw[qf (n:=cellI p s-1) (by omega) (by omega)];unfold qck;rw[Int.tdiv_eq_ediv_of_nonneg (by omega)];refine⟨qf (by omega) (by omega),by omega,by omega⟩
def becomes (r:Rules) (p:Place) (k t:Int):Int:=bif decide ((qcM r k).2.2.1>0)&&lastB r p.turn t then(qcM r k).2.2.1-1 else k
def goAt (r:Rules) (p:Place) (s:Nat):List Mv:=bif mineB p (cellI p (s:Int)) then(qcM r (qck (cellI p (s:Int)))).2.2.2.1.flatMap (fun w=>(wayS r p (s:Int) w).map fun t=>((s:Int),(t,(becomes r p (qck (cellI p (s:Int))) t,())))) else []
theorem qnA {A C:Type} (l:List C) (F:C→List A) (d:C):(List.range l.length).flatMap (fun i=>F (l.getD i d))=l.flatMap F:=by
  induction l with
  | nil=>rfl
  | cons x l ih =>
    rw[List.length_cons,List.range_succ_eq_map,List.flatMap_cons,List.flatMap_cons,List.flatMap_map]
    have e:(fun a=>F ((x::l).getD a.succ d))=fun i=>F (l.getD i d):=by funext i;simp
    rw[e,ih];rfl
theorem map_range {A C:Type} (l:List C) (F:C→A) (d:C):(List.range l.length).flatMap (fun i=>[F (l.getD i d)])=l.map F:=by
  rw[qnA l (fun x=>[F x]) d]
  induction l with
  | nil=>rfl
  | cons x l ih=>rw[List.flatMap_cons,List.map_cons,ih];rfl
theorem qv3 {r:Rules} {p:Place} {s:Int} {w:RWay} (hw:WayOk w):(wayS r p s w).length≤7:=by
  obtain⟨_,_,_,h4,_⟩:=hw;exact Nat.le_trans (qxN _ _ _ _ _ _) (by omega)
theorem qxF {r:Rules} {p:Place} (h:Valid r p) (s:Nat):(goAt r p s).length≤112:=by
  unfold goAt
  cases hm:mineB p (cellI p (s:Int)) with
  | false=>simp
  | true =>
    have hc:cellI p (s:Int)>0:=by unfold mineB at hm;simp at hm;exact hm.1
    have hk:=qnf h hc;have hmem:=(qtN (r:=r) hk.2.1 hk.2.2).2;rw[cond_true];refine Nat.le_trans (qb5 _ 7 _ fun w hw=>?_) ?_
    · rw[List.length_map];exact qv3 (h.wayOk hmem hw)
    · have:=h.r0.ways _ hmem;omega
def qeq (r:Rules) (p:Place):List Mv:=(List.range p.1.length).flatMap (qiA r p)++(List.range p.1.length).flatMap (goAt r p)
theorem list_raw {r:Rules} {p:Place} (h:Valid r p):iterW (qeS p r) (((List.range p.1.length).flatMap (qiA r p),(0:Int),()),())=some ((qeq r p,()),()):=by
  have hr:=h.r0;have:=hr.w8;have:=hr.h8;have:=hr.w1;have:=hr.h1;have ha:=hr.area;have hlen:((p.1.length:Nat):Int)=r.width*r.height:=h.cells;have h64:=qcS h;have hpl:((List.range p.1.length).flatMap (qiA r p)).length≤64*6:=by
    refine Nat.le_trans (qb5 _ 6 _ fun i _=>qox h i) ?_;rw[List.length_range];exact Nat.mul_le_mul_right _ h64
  unfold qeq;generalize (List.range p.1.length).flatMap (qiA r p)=pl at hpl;refine qhQ (A:=Mv) p.1.length 112 (qeS p r) (goAt r p) (fun a=>((a,()),())) pl (fun i _=>qxF h i) (fun i hi a hal=>?_) (fun a=>?_)
  · have hal2:a.length≤64*6+64*112:=by
      have:i*112≤64*112:=Nat.mul_le_mul_right _ (by omega);omega
    unfold qeS
    have c1:decide ((i:Int)<((p.1.length:Nat):Int))=true:=by simp;omega
    have hat:=qlI (p:=p) (s:=(i:Int)) (by omega) (by show(i:Int)<((p.1.length:Nat):Int);omega);have hc:=qoB h (i:Int)
    have hi2:(i:Int)<r.width*r.height:=by omega
    simp only[c1,cond_true,hat,Option.bind_some,show ∀b,imp b true=true from fun b=>by cases b<;>rfl,qb]
    have hcond:((cellI p (i:Int)==(0:Int))||(((w64 (cellI p (i:Int)-(1:Int))).tmod (2:Int))!=p.2.2.1)) = !mineB p (cellI p (i:Int)):=by
      rw[qf (n:=cellI p (i:Int)-1) (by omega) (by omega)];unfold mineB;rw[show p.turn=p.2.2.1 from rfl];by_cases hz:cellI p (i:Int)=0
      · simp[hz]
      · rw[beq_f hz,show decide (cellI p (i:Int)>0)=true by simp;omega];simp[bne]
    rw[hcond,qf (n:=(i:Int)+1) (by omega) (by omega)];unfold goAt
    cases hm:mineB p (cellI p (i:Int)) with
    | false=>simp
    | true =>
      have hcp:cellI p (i:Int)>0:=by unfold mineB at hm;simp at hm;exact hm.1
      have hk:=qnf h hcp;obtain⟨hpa,hmem⟩:=qtN (r:=r) hk.2.1 hk.2.2;simp only[Bool.not_true,cond_false,hk.1,hpa,Option.bind_some,cond_true];generalize hK:qck (cellI p (i:Int))=K at *;have hways:=h.r0.ways _ hmem;have hWl:(qcM r K).2.2.2.1.length≤16:=hways;rw[qhQ (A:=Mv) (qcM r K).2.2.2.1.length 7 (qgJ (qcM r K) r p ((a,(i:Int),()),()) (cellI p (i:Int))) (fun j=>(wayS r p (i:Int) ((qcM r K).2.2.2.1.getD j (0,0,0,0,()))).map fun t=>((i:Int),(t,(becomes r p K t,())))) (fun a=>((a,()),())) a (fun j hj=>?_) (fun j hj a2 ha2=>?_) (fun a2=>?_)]
      · rw[qnA (qcM r K).2.2.2.1 (fun w=>(wayS r p (i:Int) w).map fun t=>((i:Int),(t,(becomes r p K t,())))) (0,0,0,0,())];rfl
      · rw[List.length_map,List.getD_eq_getElem?_getD,List.getElem?_eq_getElem hj];exact qv3 (h.wayOk hmem (List.getElem_mem hj))
      · have ha22:a2.length≤64*6+64*112+112:=by
          have:j*7≤16*7:=Nat.mul_le_mul_right _ (by omega);omega
        unfold qgJ
        have c2:decide ((j:Int)<(((qcM r K).2.2.2.1.length:Nat):Int))=true:=by simp;omega
        have hatw:at? (qcM r K).2.2.2.1 (j:Int)=some ((qcM r K).2.2.2.1.getD j (0,0,0,0,())):=by
          rw[at?_eq _ _ (by omega) (by omega),List.getD_eq_getElem?_getD,List.getElem?_eq_getElem hj];rfl
        have hwm:(qcM r K).2.2.2.1.getD j (0,0,0,0,())∈(qcM r K).2.2.2.1:=by
          rw[List.getD_eq_getElem?_getD,List.getElem?_eq_getElem hj];exact List.getElem_mem hj
        have hwo:=h.wayOk hmem hwm;simp only[c2,cond_true,hatw,Option.bind_some];generalize (qcM r K).2.2.2.1.getD j (0,0,0,0,())=w at *;rw[way_spec h hwo (by omega) hi2,Option.bind_some];have hwl:=qv3 (r:=r) (p:=p) (s:=(i:Int)) hwo;have hwr:∀t∈wayS r p (i:Int) w,0≤t∧t<r.width*r.height:=fun t ht=>qpV hr ht;generalize wayS r p (i:Int) w=T at *;rw[qhQ (A:=Mv) T.length 1 (qgF T r (cellI p (i:Int)) p ((a,(i:Int),()),())) (fun t=>[((i:Int),(T.getD t 0,(becomes r p K (T.getD t 0),())))]) (fun a=>((a,()),())) a2 (fun _ _=>by simp) (fun t ht a3 ha3=>?_) (fun a3=>?_)]
        · rw[map_range T (fun t=>((i:Int),(t,(becomes r p K t,())))) 0];simp only[Option.bind_some];rw[qf (n:=(j:Int)+1) (by omega) (by omega)]
        · unfold qgF
          have c3:decide ((t:Int)<((T.length:Nat):Int))=true:=by simp;omega
          have c4:inb (t:Int) T.length=true:=inb_iff.2 ⟨by omega,by omega⟩;have hg:getD' T t (0:Int)=T.getD t 0:=rfl;have htr:=hwr (T.getD t 0) (by rw[List.getD_eq_getElem?_getD,List.getElem?_eq_getElem ht];exact List.getElem_mem ht);simp only[c3,cond_true,c4,qb,hk.1,hpa,Option.bind_some,Int.toNat_natCast,hg];generalize T.getD t 0=tt at *;rw[qqW hr p.2.2.1 htr.1 htr.2];have hpr:=h.r0.prom _ hmem;have ht6:=h.r0.t6
          have hgo:∀b c:Bool,gopt b false (some c)=some (b&&c):=fun b c=>by cases b<;>rfl
          rw[hgo,Option.bind_some,qf (n:=(qcM r K).2.2.1-1) (by omega) (by omega),qf (n:=(t:Int)+1) (by omega) (by omega)];unfold becomes;rw[show p.turn=p.2.2.1 from rfl];have hroom:room (a3.length+1) 24=true:=qS (by omega)
          cases decide ((qcM r K).2.2.1>0)<;>cases lastB r p.2.2.1 tt<;>simp[hroom,qb]
        · unfold qgF;simp
      · unfold qgJ;simp
  · unfold qeS;simp
theorem raw_len {r:Rules} {p:Place} (h:Valid r p):(qeq r p).length≤10000:=by
  have h64:=qcS h;unfold qeq;rw[List.length_append];have h1:((List.range p.1.length).flatMap (qiA r p)).length≤64*6:=by
    refine Nat.le_trans (qb5 _ 6 _ fun i _=>qox h i) ?_;rw[List.length_range];exact Nat.mul_le_mul_right _ h64
  have h2:((List.range p.1.length).flatMap (goAt r p)).length≤64*112:=by
    refine Nat.le_trans (qb5 _ 112 _ fun i _=>qxF h i) ?_;rw[List.length_range];exact Nat.mul_le_mul_right _ h64
  omega
theorem list_dd {r:Rules} {p:Place} (h:Valid r p):qaG r p=some (dd (qcg (qeq r p))):=by
  unfold qaG;rw[puts_spec h,Option.bind_some,list_raw h,Option.bind_some];have hl:=raw_len h;have hb:Nat.blt (qeq r p).length 4611686018427387904=true:=by
    rw[Nat.blt_eq];omega
  simp only[hb,qb];have hs:=sort_len (qeq r p);generalize qcg (qeq r p)=xs at hs;by_cases h2:xs.length<2
  · have c:decide (((xs.length:Nat):Int)<2)=true:=by simp;omega
    rw[c,cond_true];have:dd xs=xs:=by
      match xs,h2 with
      | [],_=>rfl
      | [x],_=>rfl
    rw[this];rfl
  · have c:decide (((xs.length:Nat):Int)<2)=false:=by simp;omega
    rw[c,cond_false,compact4 xs (by omega) (by omega)];rfl

def mvOk (r:Rules) (p:Place) (m:Mv):Bool:=decide ((-1≤m.1∧m.1<((p.1.length:Nat):Int))∧(0≤m.2.1∧m.2.1<((p.1.length:Nat):Int))∧(0≤m.2.2.1∧m.2.2.1<((r.pieces.length:Nat):Int)))
def goOk (r:Rules) (p:Place) (m:Mv):Bool:=mineB p (cellI p m.1)&&((becomes r p (qck (cellI p m.1)) m.2.1==m.2.2.1)&&(qcM r (qck (cellI p m.1))).2.2.2.1.any (fun w=>decide (m.2.1∈wayS r p m.1 w)))
def qI (r:Rules) (p:Place) (m:Mv):Bool:=mvOk r p m&&(bif m.1 == -1 then decide (handI p m.2.2.1>0)&&putOk r p m.2.1 else goOk r p m)
def at3 (r:Rules) (p:Place) (i j k:Nat):List Mv:=bif qI r p ((i:Int)-1,((j:Int),((k:Int),()))) then [((i:Int)-1,((j:Int),((k:Int),())))] else []
def at2 (r:Rules) (p:Place) (i j:Nat):List Mv:=(List.range r.2.2.2.1.length).flatMap (at3 r p i j)
def at1 (r:Rules) (p:Place) (i:Nat):List Mv:=(List.range p.1.length).flatMap (at2 r p i)
def qjJ (r:Rules) (p:Place):List Mv:=(List.range (p.1.length+1)).flatMap (at1 r p)
theorem at3_len (r:Rules) (p:Place) (i j k:Nat):(at3 r p i j k).length≤1:=by unfold at3;cases qI r p ((i:Int)-1,((j:Int),((k:Int),())))<;>simp
theorem at2_len {r:Rules} {p:Place} (h:Valid r p) (i j:Nat):(at2 r p i j).length≤6:=Nat.le_trans (fm_len1 _ _ (at3_len r p i j)) h.r0.t6
theorem at1_len {r:Rules} {p:Place} (h:Valid r p) (i:Nat):(at1 r p i).length≤384:=by
  refine Nat.le_trans (qb5 _ 6 _ fun j _=>at2_len h i j) ?_;have:=qcS h;rw[List.length_range];omega
theorem qti (n:Nat) (F:Nat→List Mv) (h1:∀i,i<n→(F i).Pairwise (fun x y=>mvLt x y=true)) (h2:∀i j,i<j→∀x∈F i,∀y∈F j,mvLt x y=true):((List.range n).flatMap F).Pairwise (fun x y=>mvLt x y=true):=by
  rw[List.pairwise_flatMap];exact⟨fun i hi=>h1 i (List.mem_range.1 hi),List.pairwise_lt_range.imp fun hij=>h2 _ _ hij⟩
theorem qvX {r:Rules} {p:Place} {i j k:Nat} {x:Mv} (h:x∈at3 r p i j k):x=((i:Int)-1,((j:Int),((k:Int),())))∧qI r p x=true:=by
  unfold at3 at h
  cases hb:qI r p ((i:Int)-1,((j:Int),((k:Int),()))) with
  | false=>simp[hb] at h
  | true =>
    rw[hb,cond_true,List.mem_singleton] at h;rw[h];exact⟨rfl,hb⟩
theorem qwh {r:Rules} {p:Place} {i j:Nat} {x:Mv} (h:x∈at2 r p i j):x.1=(i:Int)-1∧x.2.1=(j:Int)∧qI r p x=true:=by
  obtain⟨k,_,hk⟩:=List.mem_flatMap.1 h;obtain⟨e,h2⟩:=qvX hk;refine⟨by rw[e],by rw[e],h2⟩
theorem qvV {r:Rules} {p:Place} {i:Nat} {x:Mv} (h:x∈at1 r p i):x.1=(i:Int)-1∧qI r p x=true:=by
  obtain⟨j,_,hj⟩:=List.mem_flatMap.1 h;obtain⟨h1,_,h3⟩:=qwh hj;exact⟨h1,h3⟩
theorem qlU {r:Rules} {p:Place} (x:Mv):x∈qjJ r p↔qI r p x=true:=by
  constructor
  · intro h;obtain⟨i,_,hi⟩:=List.mem_flatMap.1 h;exact(qvV hi).2
  · intro h
    have hok:mvOk r p x=true:=by unfold qI at h;simp only[Bool.and_eq_true] at h;exact h.1
    unfold mvOk at hok;rw[decide_eq_true_eq] at hok;obtain⟨⟨a1,a2⟩,⟨b1,b2⟩,c1,c2⟩:=hok;have c2':x.2.2.1<((r.2.2.2.1.length:Nat):Int):=c2;have e:(((((x.1+1).toNat:Nat):Int)-1,(((x.2.1.toNat:Nat):Int),(((x.2.2.1.toNat:Nat):Int),()))):Mv)=x:=mv_eq (by show(((x.1+1).toNat:Nat):Int)-1=x.1;omega) (by show((x.2.1.toNat:Nat):Int)=x.2.1;omega) (by show((x.2.2.1.toNat:Nat):Int)=x.2.2.1;omega);refine List.mem_flatMap.2 ⟨(x.1+1).toNat,List.mem_range.2 (by omega),List.mem_flatMap.2 ⟨x.2.1.toNat,List.mem_range.2 (by omega),List.mem_flatMap.2 ⟨x.2.2.1.toNat,List.mem_range.2 (by omega),?_⟩⟩⟩;unfold at3;rw[e,h,cond_true,List.mem_singleton]
theorem qyd (r:Rules) (p:Place):(qjJ r p).Pairwise (fun x y=>mvLt x y=true):=by
  refine qti _ _ (fun i _=>qti _ _ (fun j _=>qti _ _ (fun k _=>?_) fun k k' hk x hx y hy=>?_) fun j j' hj x hx y hy=>?_) fun i i' hi x hx y hy=>?_
  · unfold at3
    cases qI r p ((i:Int)-1,((j:Int),((k:Int),())))<;>simp
  · obtain⟨ex,_⟩:=qvX hx;obtain⟨ey,_⟩:=qvX hy
    have e1:x.1=(i:Int)-1:=by rw[ex]
    have e2:x.2.1=(j:Int):=by rw[ex]
    have e3:x.2.2.1=(k:Int):=by rw[ex]
    have f1:y.1=(i:Int)-1:=by rw[ey]
    have f2:y.2.1=(j:Int):=by rw[ey]
    have f3:y.2.2.1=(k':Int):=by rw[ey]
    rw[qqZ];omega
  · obtain⟨e1,e2,_⟩:=qwh hx;obtain⟨f1,f2,_⟩:=qwh hy;rw[qqZ];omega
  · obtain⟨e1,_⟩:=qvV hx;obtain⟨f1,_⟩:=qvV hy;rw[qqZ];omega
theorem raw_mem {r:Rules} {p:Place} (h:Valid r p) (x:Mv):x∈qeq r p↔qI r p x=true:=by
  have hr:=h.r0;have hlen:((p.1.length:Nat):Int)=r.width*r.height:=h.cells;have hh:=qpJ h;unfold qeq;rw[List.mem_append];constructor
  · rintro (hx | hx)
    · obtain⟨s,hs,hx⟩:=List.mem_flatMap.1 hx;rw[List.mem_range] at hs;unfold qiA at hx
      cases hp:putOk r p (s:Int) with
      | false=>simp[hp] at hx
      | true =>
        rw[hp,cond_true] at hx;obtain⟨k,hk,hx⟩:=List.mem_flatMap.1 hx;rw[List.mem_range] at hk
        cases hd:decide (handI p (k:Int)>0) with
        | false=>simp[hd] at hx
        | true =>
          rw[hd,cond_true,List.mem_singleton] at hx;have hok:mvOk r p x=true:=by
            unfold mvOk;rw[decide_eq_true_eq,hx];simp only;omega
          unfold qI;rw[hok,Bool.true_and,hx];simp only[beq_t rfl,cond_true,hd,hp,Bool.and_self]
    · obtain⟨s,hs,hx⟩:=List.mem_flatMap.1 hx;rw[List.mem_range] at hs;unfold goAt at hx
      cases hm:mineB p (cellI p (s:Int)) with
      | false=>simp[hm] at hx
      | true =>
        have hcp:cellI p (s:Int)>0:=by unfold mineB at hm;simp at hm;exact hm.1
        have hk:=qnf h hcp;obtain⟨hpa,hmem⟩:=qtN (r:=r) hk.2.1 hk.2.2;rw[hm,cond_true] at hx;obtain⟨w,hw,hx⟩:=List.mem_flatMap.1 hx;obtain⟨t,ht,hx⟩:=List.mem_map.1 hx;have htr:0≤t∧t<r.width*r.height:=qpV hr ht;have hpr:=hr.prom _ hmem;have hbr:0≤becomes r p (qck (cellI p (s:Int))) t∧becomes r p (qck (cellI p (s:Int))) t<((r.pieces.length:Nat):Int):=by
          unfold becomes
          cases hb:(decide ((qcM r (qck (cellI p (s:Int)))).2.2.1>0)&&lastB r p.turn t) with
          | false=>exact hk.2
          | true =>
            simp only[Bool.and_eq_true,decide_eq_true_eq] at hb;rw[cond_true];omega
        have hok:mvOk r p x=true:=by
          unfold mvOk;rw[decide_eq_true_eq,←hx];simp only;omega
        unfold qI goOk;rw[hok,Bool.true_and,←hx];simp only;rw[beq_f (by omega),cond_false,hm,Bool.true_and,beq_t rfl,Bool.true_and,List.any_eq_true];exact⟨w,hw,by simpa using ht⟩
  · intro hx;unfold qI at hx;rw[Bool.and_eq_true] at hx;obtain⟨hok,hx⟩:=hx;unfold mvOk at hok;rw[decide_eq_true_eq] at hok;obtain⟨⟨a1,a2⟩,⟨b1,b2⟩,c1,c2⟩:=hok;by_cases hm:x.1 = -1
    · rw[beq_t hm,cond_true,Bool.and_eq_true] at hx;left
      have e1:((x.2.1.toNat:Nat):Int)=x.2.1:=by omega
      have e2:((x.2.2.1.toNat:Nat):Int)=x.2.2.1:=by omega
      refine List.mem_flatMap.2 ⟨x.2.1.toNat,List.mem_range.2 (by omega),?_⟩;unfold qiA;rw[e1,hx.2,cond_true];refine List.mem_flatMap.2 ⟨x.2.2.1.toNat,List.mem_range.2 (by omega),?_⟩;rw[e2,hx.1,cond_true,List.mem_singleton];exact mv_eq hm rfl rfl
    · rw[beq_f hm,cond_false] at hx;unfold goOk at hx;simp only[Bool.and_eq_true,beq_iff_eq,List.any_eq_true,decide_eq_true_eq] at hx;obtain⟨h1,h2,w,hw,ht⟩:=hx;right
      have e1:((x.1.toNat:Nat):Int)=x.1:=by omega
      refine List.mem_flatMap.2 ⟨x.1.toNat,List.mem_range.2 (by omega),?_⟩;unfold goAt;rw[e1,h1,cond_true];refine List.mem_flatMap.2 ⟨w,hw,List.mem_map.2 ⟨x.2.1,ht,?_⟩⟩;exact mv_eq rfl rfl h2
theorem qm2 {r:Rules} {p:Place} (h:Valid r p):qaG r p=some (qjJ r p):=by
  rw[list_dd h];congr 1;refine qvj (dd_lt (sort_pw _)) (qyd r p) fun z=>?_;rw[dd_mem,sort_mem,raw_mem h,qlU]

def own (r:Rules) (p:Place) (pl x y:Int):Bool:=onB r x y&&(decide (cellI p (sq r x y)>0)&&((cellI p (sq r x y)-1).tmod 2==pl))
def runB (r:Rules) (p:Place) (pl:Int) (n:Nat) (x y dx dy:Int):Bool:=(List.range n).all fun i=>own r p pl (x+(i:Int)*dx) (y+(i:Int)*dy)
theorem runB_cons (r:Rules) (p:Place) (pl:Int) (n:Nat) (x y dx dy:Int):runB r p pl (n+1) x y dx dy=(own r p pl x y&&runB r p pl n (x+dx) (y+dy) dx dy):=by
  unfold runB;rw[List.range_succ_eq_map,List.all_cons,List.all_map];have e:((fun i:Nat=>own r p pl (x+(i:Int)*dx) (y+(i:Int)*dy))∘Nat.succ)=fun i:Nat=>own r p pl (x+dx+(i:Int)*dx) (y+dy+(i:Int)*dy):=by
    funext i;simp only[Function.comp]
    have e1:x+((i.succ:Nat):Int)*dx=x+dx+(i:Int)*dx:=by rw[show((i.succ:Nat):Int)=(i:Int)+1 by omega,Int.add_mul];omega
    have e2:y+((i.succ:Nat):Int)*dy=y+dy+(i:Int)*dy:=by rw[show((i.succ:Nat):Int)=(i:Int)+1 by omega,Int.add_mul];omega
    rw[e1,e2]
  rw[e];simp
theorem own_on {r:Rules} {p:Place} {pl x y:Int} (h:own r p pl x y=true):onB r x y=true:=by unfold own at h;rw[Bool.and_eq_true] at h;exact h.1
abbrev dX (d:Nat):Int:=getD' [(1:Int),(0:Int),(1:Int),(1:Int)] d 0
abbrev dY (d:Nat):Int:=getD' [(0:Int),(1:Int),(1:Int),(-1:Int)] d 0
def lineB (r:Rules) (p:Place) (pl c:Int):Bool:=(List.range p.1.length).any fun s=>(List.range 4).any fun d=>runB r p pl c.toNat ((s:Int).tmod r.width) ((s:Int).tdiv r.width) (dX d) (dY d)
theorem dX_rng (d:Nat) : -1≤dX d∧dX d≤1:=by
  match d with
  | 0=>decide
  | 1=>decide
  | 2=>decide
  | 3=>decide
  | n+4=>simp[dX,getD']
theorem dY_rng (d:Nat) : -1≤dY d∧dY d≤1:=by
  match d with
  | 0=>decide
  | 1=>decide
  | 2=>decide
  | 3=>decide
  | n+4=>simp[dY,getD']
theorem line3 {r:Rules} {p:Place} (h:Valid r p) {pl c:Int} (d:Nat) (hc:c≤64):∀(m:Nat) (x y n:Int),0≤n→n+m=c→(-1≤x∧x≤8)→(-1≤y∧y≤8) →
    ∃n',iterW (qfT c r p pl (((d:Int),()),())) ((x,y,n,()),())=some ((n',()),())∧(n'==c)=runB r p pl m x y (dX d) (dY d)
  | 0,x,y,n,h0,hn,hx,hy=>by
    refine⟨n,qm ?_,?_⟩
    · unfold qfT
      have:decide (n<c)=false:=by simp;omega
      simp only[this,cond_false,Option.bind_some]
    · rw[beq_t (by omega)];rfl
  | m+1,x,y,n,h0,hn,hx,hy=>by
    have hr:=h.r0;have:=hr.w8;have:=hr.h8;have:=hr.w1;have:=hr.h1;have ha:=hr.area
    have hlt:decide (n<c)=true:=by simp;omega
    have hoff:((((decide (x<(0:Int)))||(decide (x≥r.2.1)))||(decide (y<(0:Int))))||(decide (y≥r.2.2.1))) = !onB r x y:=by
      rw[Bool.eq_iff_iff];simp only[Bool.or_eq_true,decide_eq_true_eq,Bool.not_eq_true',onB,decide_eq_false_iff_not];show((x<0∨x≥r.width)∨y<0)∨y≥r.height↔_;omega
    have hown:(bif (decide (n<c)) then(bif ((((decide (x<(0:Int)))||(decide (x≥r.2.1)))||(decide (y<(0:Int))))||(decide (y≥r.2.2.1))) then some ((false,()),())
        else Option.bind (at? p.1 (w64 ((w64 (y*r.2.1))+x))) fun d4 =>
        req (imp (decide (d4>(0:Int))) true) (some ((((decide (d4>(0:Int)))&&(((w64 (d4-(1:Int))).tmod (2:Int))==pl)),()),())))
        else some ((false,()),()))=some ((own r p pl x y,()),()):=by
      rw[hlt,cond_true,hoff];unfold own
      cases hb:onB r x y with
      | false=>rfl
      | true =>
        have hs:=qxU hr hb;obtain⟨b1,b2,b3,b4⟩:=onB_iff.1 hb;have hmul:=qtB (show 0≤r.width by omega) b3 b4;have w1:w64 (y*r.2.1)=y*r.2.1:=qf (by show _≤y*r.width;omega) (by show y*r.width≤_;omega);have w2:w64 (y*r.2.1+x)=sq r x y:=qf (by show _≤sq r x y;omega) (by show sq r x y≤_;omega);have hcs:=qoB h (sq r x y);rw[w1,w2,qlI (p:=p) hs.1 (by rw[h.cells];exact hs.2)]
        simp only[Bool.not_true,cond_false,Option.bind_some,show ∀b,imp b true=true from fun b=>by cases b<;>rfl,qb,Bool.true_and]
        rw[qf (n:=cellI p (sq r x y)-1) (by omega) (by omega)]
    rw[runB_cons]
    cases ho:own r p pl x y with
    | false =>
      refine⟨n,qm ?_,?_⟩
      · unfold qfT;rw[hown,ho];rfl
      · rw[beq_f (by omega)];rfl
    | true =>
      obtain⟨b1,b2,b3,b4⟩:=onB_iff.1 (own_on ho);have r1:=dX_rng d;have r2:=dY_rng d;obtain⟨n',e1,e2⟩:=line3 h (pl:=pl) d hc m (x+dX d) (y+dY d) (n+1) (by omega) (by omega) (by omega) (by omega);refine⟨n',?_,by rw[e2];simp⟩
      rw[qo (y:=((x+dX d,y+dY d,n+1,()),())) (by
        unfold qfT;rw[hown,ho];simp only[Option.bind_some,cond_true,Int.toNat_natCast]
        rw[qf (n:=x+dX d) (by omega) (by omega),qf (n:=y+dY d) (by omega) (by omega),qf (n:=n+1) (by omega) (by omega)])]
      exact e1
theorem line_spec {r:Rules} {p:Place} (h:Valid r p) (pl:Int) {c:Int} (hc1:1≤c) (hc:c≤64):qpE r p pl c=some (lineB r p pl c):=by
  have hr:=h.r0;have:=hr.w8;have:=hr.h8;have:=hr.w1;have:=hr.h1;have ha:=hr.area;have hlen:((p.1.length:Nat):Int)=r.width*r.height:=h.cells;have hq:(r.2.1 !=0)=true:=bne_t (by show ¬r.width=0;omega);unfold qpE
  have hL:=qY (List.range p.1.length) (fun s=>(List.range 4).any fun d=>runB r p pl c.toNat ((s:Int).tmod r.width) ((s:Int).tdiv r.width) (dX d) (dY d)) (qhR p r c pl) (.inr true) (.inl ((),())) (fun s hs=>by
    have hs':s<p.1.length:=by simpa using hs
    have hdv:=qs8 hr (show(0:Int)≤(s:Int) by omega) (show(s:Int)<r.width*r.height by omega)
    have hL2:=qY (List.range 4) (fun d=>runB r p pl c.toNat ((s:Int).tmod r.width) ((s:Int).tdiv r.width) (dX d) (dY d)) (qhM r c p pl (((s:Int),()),())) (.inr (.inr (.inr (.inr true)))) (.inl ((),())) (fun d hd=>by
      have hd':d<4:=by simpa using hd
      have w1:w64 ((s:Int).tdiv r.2.1)=(s:Int).tdiv r.width:=qf (by show _≤(s:Int).tdiv r.width;omega) (by show(s:Int).tdiv r.width≤_;omega);obtain⟨n',e1,e2⟩:=line3 h (pl:=pl) (c:=c) d hc c.toNat ((s:Int).tmod r.width) ((s:Int).tdiv r.width) 0 (by omega) (by omega) (by omega) (by omega);unfold qhM;simp only[show decide ((d:Int)<4)=true by simp;omega,cond_true,show inb (d:Int) 4=true from inb_iff.2 ⟨by omega,by omega⟩,qb,hq,w1];rw[show((s:Int).tmod r.2.1)=(s:Int).tmod r.width from rfl,e1,Option.bind_some];simp only[List.getElem_range];rw[←e2,qf (n:=(d:Int)+1) (by omega) (by omega)]
      cases (n'==c)<;>rfl) (by
      unfold qhM
      rfl)
    unfold qhR;simp only[show decide ((s:Int)<((p.1.length:Nat):Int))=true by simp;omega,cond_true,List.getElem_range];rw[hL2,qf (n:=(s:Int)+1) (by omega) (by omega)]
    cases (List.range 4).any (fun d=>runB r p pl c.toNat ((s:Int).tmod r.width) ((s:Int).tdiv r.width) (dX d) (dY d))<;>rfl) (by
    unfold qhR
    simp)
  rw[hL];unfold lineB
  cases (List.range p.1.length).any (fun s=>(List.range 4).any fun d=>runB r p pl c.toNat ((s:Int).tmod r.width) ((s:Int).tdiv r.width) (dX d) (dY d))<;>rfl

def reachB (r:Rules) (p:Place) (x:End) (mover:Int):Bool:=(List.range p.1.length).any fun s=>(cellI p (s:Int)==2*x.2.1+mover+1)&&lastB r mover (s:Int)
def fewOf (p:Place) (x:End) (mover:Int):Int:=((p.1.countP (fun c=>c==2*x.2.1+1-mover+1):Nat):Int)
def metB (r:Rules) (p:Place) (x:End) (mover:Int):Bool:=bif x.1==0 then lineB r p mover x.2.2.1 else bif x.1==1 then reachB r p x mover else decide (fewOf p x mover<x.2.2.1)
structure EndOk (r:Rules) (x:End):Prop where
  kind:0≤x.1∧x.1≤2
  cnt:x.1=0→1≤x.2.2.1∧x.2.2.1≤64
  pc:0≤x.2.1∧x.2.1≤6
theorem Valid.endOk {r:Rules} {p:Place} (h:Valid r p) {x:End} (hx:x∈r.ends):EndOk r x:=by
  obtain⟨h1,h2,h3⟩:=h.r0.ends x hx;have ht:=h.r0.t6;refine⟨h1,fun e=>?_,?_⟩
  · rw[if_neg (by omega)] at h2;exact h2
  · split at h3<;>omega
theorem cell_get (p:Place) (i:Nat) (hi:i<p.1.length):cellI p (i:Int)=p.1[i]:=by
  unfold cellI;rw[List.getD_eq_getElem?_getD,Int.toNat_natCast];simp[hi]
theorem qyo {r:Rules} {p:Place} (h:Valid r p) {x:End} (hx:EndOk r x) {mover:Int} (hm:mover=0∨mover=1):qmA r p x mover=some (metB r p x mover):=by
  have hr:=h.r0;have ha:=hr.area;have h64:=qcS h;have hlen:((p.1.length:Nat):Int)=r.width*r.height:=h.cells;have hp:=hx.pc;unfold qmA metB;by_cases k0:x.1=0
  · rw[beq_t k0,cond_true,cond_true,line_spec h mover (hx.cnt k0).1 (hx.cnt k0).2];rfl
  · rw[beq_f k0,cond_false,cond_false];by_cases k1:x.1=1
    · rw[beq_t k1,cond_true,cond_true]
      have hL:=qY (List.range p.1.length) (fun s=>(cellI p (s:Int)==2*x.2.1+mover+1)&&lastB r mover (s:Int)) (qgf p x mover r) (.inr (.inr true)) (.inl ((),())) (fun s hs=>by
        have hs':s<p.1.length:=by simpa using hs
        unfold qgf;simp only[show decide ((s:Int)<((p.1.length:Nat):Int))=true by simp;omega,cond_true,List.getElem_range];rw[qlI (p:=p) (s:=(s:Int)) (by omega) (by show(s:Int)<((p.1.length:Nat):Int);omega),Option.bind_some,qqW hr mover (by omega) (by omega)];rw[qf (n:=2*x.2.1) (by omega) (by omega),qf (n:=2*x.2.1+mover) (by omega) (by omega),qf (n:=2*x.2.1+mover+1) (by omega) (by omega),qf (n:=(s:Int)+1) (by omega) (by omega)]
        cases (cellI p (s:Int)==2*x.2.1+mover+1)<;>cases lastB r mover (s:Int)<;>rfl) (by
        unfold qgf
        simp)
      rw[hL];unfold reachB
      cases (List.range p.1.length).any (fun s=>(cellI p (s:Int)==2*x.2.1+mover+1)&&lastB r mover (s:Int))<;>rfl
    · rw[beq_f k1,cond_false,cond_false,Option.bind_some,Sum.elim_inl]
      have hL:=qsu p.1 (fun c=>c==2*x.2.1+1-mover+1) (qg1 p x mover) (fun c=>((c,()),())) (fun i hi c c0 ci=>by
        unfold qg1;simp only[show decide ((i:Int)<((p.1.length:Nat):Int))=true by simp;omega,cond_true];rw[qlI (p:=p) (s:=(i:Int)) (by omega) (by show(i:Int)<((p.1.length:Nat):Int);omega),Option.bind_some,cell_get p i hi];rw[qf (n:=2*x.2.1) (by omega) (by omega),qf (n:=2*x.2.1+1) (by omega) (by omega),qf (n:=2*x.2.1+1-mover) (by omega) (by omega),qf (n:=2*x.2.1+1-mover+1) (by omega) (by omega),qf (n:=(i:Int)+1) (by omega) (by omega),qf (n:=c+1) (by omega) (by omega)];cases (p.1[i]==2*x.2.1+1-mover+1)<;>rfl) (fun c=>by
        unfold qg1
        simp)
      rw[hL];rfl
def endE (r:Rules) (p:Place) (i:Nat):Option (((Unit)×(Unit)) ⊕ Int):=match r.2.2.2.2.2.2.2.1[i]? with
  | some x=>bif metB r p x (1-p.turn) then some (.inr (bif x.2.2.2.1 then 1+p.turn else 1+(1-p.turn))) else none
  | none=>none
def qxP (r:Rules) (p:Place):Int:=bif r.blocked==0 then 1+(1-p.turn) else bif r.blocked==1 then 1+p.turn else 3
def qdN (r:Rules) (p:Place):Int:=match scan (endE r p) (.inl ((),())) 0 r.2.2.2.2.2.2.2.1.length with
  | .inl _=>bif (r.quiet !=0)&&decide (p.quiet≥r.quiet) then 3 else bif decide ((((qjJ r p).length:Nat):Int)>0) then 0 else qxP r p
  | .inr v=>v
theorem turn_w {r:Rules} {p:Place} (h:Valid r p):w64 ((1:Int)-p.2.2.1)=1-p.turn∧w64 ((1:Int)+p.2.2.1)=1+p.turn∧w64 (1+(1-p.turn))=1+(1-p.turn)∧w64 (1+p.turn)=1+p.turn:=by
  have ht:=h.turn;refine⟨qf (by show _≤1-p.turn;omega) (by show 1-p.turn≤_;omega),qf (by show _≤1+p.turn;omega) (by show 1+p.turn≤_;omega),qf (by omega) (by omega),qf (by omega) (by omega)⟩
theorem qqT {r:Rules} {p:Place} (h:Valid r p):qfy r p=some (qdN r p):=by
  have ht:=h.turn;obtain⟨t1,t2,t3,t4⟩:=turn_w h;have h6:r.2.2.2.2.2.2.2.1.length≤6:=h.r0.ends6;unfold qfy qdN
  have hL:=qov r.2.2.2.2.2.2.2.1.length (qfg r p) (endE r p) (.inl ((),())) (fun i hi=>by
    unfold qfg endE;rw[List.getElem?_eq_getElem hi];simp only[show decide ((i:Int)<((r.2.2.2.2.2.2.2.1.length:Nat):Int))=true by simp;omega,cond_true];rw[at?_eq r.2.2.2.2.2.2.2.1 (i:Int) (by omega) (by omega),Option.bind_some,t1];simp only[Int.toNat_natCast];rw[qyo h (h.endOk (List.getElem_mem hi)) (by omega),Option.bind_some];cases metB r p r.2.2.2.2.2.2.2.1[i] (1-p.turn)
    · simp only[cond_false];rw[qf (n:=(i:Int)+1) (by omega) (by omega)];rfl
    · simp only[cond_true,show decide ((i:Int)≥0)=true by simp,Option.bind_some];unfold qdm;rw[t3,show p.2.2.1=p.turn from rfl,t4]
      cases (r.2.2.2.2.2.2.2.1[i]).2.2.2.1<;>rfl) (by
    unfold qfg
    simp)
  rw[hL,Option.bind_some]
  cases scan (endE r p) (.inl ((),())) 0 r.2.2.2.2.2.2.2.1.length with
  | inr v=>rfl
  | inl u =>
    simp only[Sum.elim_inl];rw[show((r.2.2.2.2.2.2.2.2.2.1 !=(0:Int))&&(decide (p.2.2.2.1≥r.2.2.2.2.2.2.2.2.2.1)))=((r.quiet !=0)&&decide (p.quiet≥r.quiet)) from rfl];cases ((r.quiet !=0)&&decide (p.quiet≥r.quiet))
    · rw[cond_false,cond_false,qm2 h,Option.bind_some];cases decide ((((qjJ r p).length:Nat):Int)>0)
      · rw[cond_false,cond_false,t1];unfold qxP qdm;rw[t3,show p.2.2.1=p.turn from rfl,t4,show r.2.2.2.2.2.2.2.2.1=r.blocked from rfl]
        cases (r.blocked==0)<;>cases (r.blocked==1)<;>rfl
      · rfl
    · rfl

def qqy (p:Place) (m:Mv):Int:=2*m.2.2.1+p.turn+1
def cellsA (p:Place) (m:Mv):List Int:=(bif decide (m.1≥0) then p.1.set m.1.toNat 0 else p.1).set m.2.1.toNat (qqy p m)
def handD (m:Mv) (h:List Int):List Int:=bif decide (m.1≥0) then h else h.set m.2.2.1.toNat (h.getD m.2.2.1.toNat 0-1)
def handK (r:Rules) (c:Int) (h:List Int):List Int:=bif decide (c>0)&&r.keeps then h.set (qck c).toNat (if 1000<h.getD (qck c).toNat 0+1 then 1000 else h.getD (qck c).toNat 0+1) else h
def handA (r:Rules) (p:Place) (m:Mv) (h:List Int):List Int:=handK r (cellI p m.2.1) (handD m h)
def qsK (p:Place) (m:Mv):Int:=bif decide (cellI p m.2.1>0)||decide (m.1<0) then 0 else if 200<p.quiet+1 then 200 else p.quiet+1
def qlE (r:Rules) (p:Place) (m:Mv):Place:=(cellsA p m,((bif p.turn==0 then handA r p m p.2.1.1 else p.2.1.1),(bif p.turn==0 then p.2.1.2.1 else handA r p m p.2.1.2.1),()),1-p.turn,qsK p m,())
theorem copy_spec {r:Rules} {p:Place} (h:Valid r p):qfK p=some p:=by
  have h64:=qcS h;have ht:=h.r0.t6;have a0:p.2.1.1.length=r.pieces.length:=h.l0;have a1:p.2.1.2.1.length=r.pieces.length:=h.l1;unfold qfK;rw[qgm p.1 (by omega),qgm p.2.1.1 (by omega),qgm p.2.1.2.1 (by omega)];simp only[Option.bind_some,agree_self]
theorem qhO {r:Rules} {p:Place} {m:Mv} (ha:qI r p m=true):(-1≤m.1∧m.1<((p.1.length:Nat):Int))∧(0≤m.2.1∧m.2.1<((p.1.length:Nat):Int))∧(0≤m.2.2.1∧m.2.2.1<((r.pieces.length:Nat):Int)):=by
  unfold qI mvOk at ha;rw[Bool.and_eq_true,decide_eq_true_eq] at ha;exact ha.1
theorem qma {r:Rules} {p:Place} {m:Mv} (ha:qI r p m=true) (hm:m.1 = -1):handI p m.2.2.1>0∧cellI p m.2.1=0:=by
  unfold qI putOk at ha;rw[beq_t hm,cond_true] at ha;simp only[Bool.and_eq_true,decide_eq_true_eq,beq_iff_eq] at ha;exact⟨ha.2.1,ha.2.2.1⟩
theorem qqf (m:Mv) (h:List Int):(handD m h).length=h.length:=by unfold handD;cases decide (m.1≥0)<;>simp
theorem qvD (r:Rules) (c:Int) (h:List Int):(handK r c h).length=h.length:=by unfold handK;cases (decide (c>0)&&r.keeps)<;>simp
theorem qpM {l:List Int} {b:Int} (hb:0≤b) (h:∀c∈l,0≤c∧c≤b) (i:Nat):0≤l.getD i 0∧l.getD i 0≤b:=by
  rw[List.getD_eq_getElem?_getD]
  cases e:l[i]? with
  | none=>simp;exact hb
  | some c=>exact h c (List.mem_of_getElem? e)
theorem que {r:Rules} {p:Place} {m:Mv} (h:Valid r p) (ha:qI r p m=true):∀c∈handD m (qda p),0≤c∧c≤1000:=by
  have hr:=qxl h;unfold handD
  cases hd:decide (m.1≥0) with
  | true=>exact hr
  | false =>
    intro c hc;rw[cond_false] at hc
    have hm:m.1 = -1:=by have:=(qhO ha).1.1;simp at hd;omega
    have hp:=(qma ha hm).1;have hg:=qpM (by omega) hr m.2.2.1.toNat;rcases List.mem_or_eq_of_mem_set hc with h1 | h1
    · exact hr c h1
    · unfold handI at hp;omega
theorem handK_rng {r:Rules} {c:Int} {h:List Int} (hh:∀x∈h,0≤x∧x≤1000):∀x∈handK r c h,0≤x∧x≤1000:=by
  unfold handK
  cases (decide (c>0)&&r.keeps) with
  | false=>exact hh
  | true =>
    intro x hx;have hg:=qpM (by omega) hh (qck c).toNat;rcases List.mem_or_eq_of_mem_set hx with h1 | h1
    · exact hh x h1
    · rw[h1];split<;>omega
theorem quv {r:Rules} {p:Place} {m:Mv} (hv:Valid r p) (ha:qI r p m=true) (l:List Int) (hl:l=qda p) :
    (decide (m.1≥0)=false→inb m.2.2.1 l.length=true∧w64 (getD' l m.2.2.1.toNat 0-1)=l.getD m.2.2.1.toNat 0-1) ∧
    (decide (cellI p m.2.1>0)=true→inb (qck (cellI p m.2.1)) (handD m l).length=true∧w64 (getD' (handD m l) (qck (cellI p m.2.1)).toNat 0+1)=(handD m l).getD (qck (cellI p m.2.1)).toNat 0+1):=by
  subst hl;have hr:=qxl hv;have hl:=qpJ hv;obtain⟨r1,r2,r3⟩:=qhO ha;refine⟨fun _=>⟨inb_iff.2 ⟨r3.1,by rw[hl];exact r3.2⟩,?_⟩,fun hc=>⟨?_,?_⟩⟩
  · have:=qpM (by omega) hr m.2.2.1.toNat;exact qf (by show _≤(qda p).getD m.2.2.1.toNat 0-1;omega) (by show(qda p).getD m.2.2.1.toNat 0-1≤_;omega)
  · have hk:=qnf hv (of_decide_eq_true hc);exact inb_iff.2 ⟨hk.2.1,by rw[qqf,hl];exact hk.2.2⟩
  · have:=qpM (by omega) (que hv ha) (qck (cellI p m.2.1)).toNat;exact qf (by show _≤(handD m (qda p)).getD (qck (cellI p m.2.1)).toNat 0+1;omega) (by show(handD m (qda p)).getD (qck (cellI p m.2.1)).toNat 0+1≤_;omega)
theorem quB {r:Rules} {p:Place} {m:Mv} (h:Valid r p) (ha:qI r p m=true):qD r p m=some (qlE r p m):=by
  obtain⟨r1,r2,r3⟩:=qhO ha;have ht6:=h.r0.t6;have hq:=h.quiet;have htn:=h.turn;have h64:=qcS h;have hto:inb m.2.1 p.1.length=true:=inb_iff.2 r2;have wv:w64 (w64 (w64 (2*m.2.2.1)+p.2.2.1)+1)=qqy p m:=by
    unfold qqy;rw[show p.2.2.1=p.turn from rfl,qf (n:=2*m.2.2.1) (by omega) (by omega),qf (n:=2*m.2.2.1+p.turn) (by omega) (by omega),qf (by omega) (by omega)]
  have wq:w64 (p.2.2.2.1+1)=p.quiet+1:=qf (by show _≤p.quiet+1;omega) (by show p.quiet+1≤_;omega);have wt:w64 (1-p.2.2.1)=1-p.turn:=(turn_w h).1;have hcell:getD' p.1 m.2.1.toNat 0=cellI p m.2.1:=rfl;have hin:inb p.2.2.1 2=true:=inb_iff.2 (by show 0≤p.turn∧p.turn<((2:Nat):Int);omega);have wk:decide (cellI p m.2.1>0)=true→w64 ((w64 (cellI p m.2.1-1)).tdiv 2)=qck (cellI p m.2.1):=fun hc=>(qnf h (of_decide_eq_true hc)).1;have hho:qda p=if p.turn=0 then p.2.1.1 else p.2.1.2.1:=qni h;have hneg:decide (m.1<0) = !decide (m.1≥0):=by
    rw[Bool.eq_iff_iff];simp only[decide_eq_true_eq,Bool.not_eq_true',decide_eq_false_iff_not];omega
  unfold qD qlE;rw[copy_spec h,Option.bind_some];simp only[hcell,hto,qb,wv,wq,wt,hin,hneg];rcases htn with e | e
  · have e':p.2.2.1=0:=e;rw[if_pos e] at hho;obtain⟨k1,k2⟩:=quv h ha p.2.1.1 hho.symm;simp only[e',e,show((0:Int)==0)=true from rfl,cond_true];unfold handA cellsA qsK handK;simp only[hneg]
    cases hd:decide (m.1≥0) with
    | true =>
      have hf:inb m.1 p.1.length=true:=inb_iff.2 ⟨of_decide_eq_true hd,r1.2⟩
      have hD:handD m p.2.1.1=p.2.1.1:=by unfold handD;rw[hd];rfl
      rw[hD] at k2 ⊢;simp only[cond_true,hf,qb,Option.bind_some,List.length_set,hto]
      cases hc:decide (cellI p m.2.1>0) with
      | false=>rfl
      | true =>
        obtain⟨k3,k4⟩:=k2 hc
        cases hk:r.2.2.2.2.2.2.1 with
        | false=>rw[show r.keeps=false from hk];rfl
        | true =>
          rw[show r.keeps=true from hk];simp only[Bool.true_and,cond_true,wk hc,k3,qb,k4,Option.bind_some];rfl
    | false =>
      obtain⟨k5,k6⟩:=k1 hd
      have hD:handD m p.2.1.1=p.2.1.1.set m.2.2.1.toNat (p.2.1.1.getD m.2.2.1.toNat 0-1):=by unfold handD;rw[hd];rfl
      have hz:decide (cellI p m.2.1>0)=false:=by
        have:=(qma ha (by simp at hd;omega)).2;rw[this];rfl
      rw[hD];simp only[cond_false,k5,k6,qb,Option.bind_some,hz,Bool.false_and,hto];rfl
  · have e':p.2.2.1=1:=e;rw[if_neg (by omega)] at hho;obtain⟨k1,k2⟩:=quv h ha p.2.1.2.1 hho.symm;simp only[e',e,show((1:Int)==0)=false from rfl,cond_false];unfold handA cellsA qsK handK;simp only[hneg]
    cases hd:decide (m.1≥0) with
    | true =>
      have hf:inb m.1 p.1.length=true:=inb_iff.2 ⟨of_decide_eq_true hd,r1.2⟩
      have hD:handD m p.2.1.2.1=p.2.1.2.1:=by unfold handD;rw[hd];rfl
      rw[hD] at k2 ⊢;simp only[cond_true,hf,qb,Option.bind_some,List.length_set,hto]
      cases hc:decide (cellI p m.2.1>0) with
      | false=>rfl
      | true =>
        obtain⟨k3,k4⟩:=k2 hc
        cases hk:r.2.2.2.2.2.2.1 with
        | false=>rw[show r.keeps=false from hk];rfl
        | true =>
          rw[show r.keeps=true from hk];simp only[Bool.true_and,cond_true,wk hc,k3,qb,k4,Option.bind_some];rfl
    | false =>
      obtain⟨k5,k6⟩:=k1 hd
      have hD:handD m p.2.1.2.1=p.2.1.2.1.set m.2.2.1.toNat (p.2.1.2.1.getD m.2.2.1.toNat 0-1):=by unfold handD;rw[hd];rfl
      have hz:decide (cellI p m.2.1>0)=false:=by
        have:=(qma ha (by simp at hd;omega)).2;rw[this];rfl
      rw[hD];simp only[cond_false,k5,k6,qb,Option.bind_some,hz,Bool.false_and,hto];rfl
theorem qwu {r:Rules} {p:Place} {m:Mv} (h:Valid r p) (ha:qI r p m=true):Valid r (qlE r p m):=by
  obtain⟨r1,r2,r3⟩:=qhO ha;have htn:=h.turn;have hq:=h.quiet;have hK:=handK_rng (r:=r) (c:=cellI p m.2.1) (que h ha);have hho:=qni h;refine⟨h.r0,?_,?_,?_,?_,?_,?_,?_,?_⟩
  · show((((bif decide (m.1≥0) then p.1.set m.1.toNat 0 else p.1).set m.2.1.toNat (qqy p m)).length:Nat):Int)=_
    have:((bif decide (m.1≥0) then p.1.set m.1.toNat 0 else p.1).set m.2.1.toNat (qqy p m)).length=p.1.length:=by cases decide (m.1≥0)<;>simp
    rw[this];exact h.cells
  · show(bif p.turn==0 then handA r p m p.2.1.1 else p.2.1.1).length=_;cases (p.turn==0)
    · exact h.l0
    · rw[cond_true];unfold handA;rw[qvD,qqf];exact h.l0
  · show(bif p.turn==0 then p.2.1.2.1 else handA r p m p.2.1.2.1).length=_;cases (p.turn==0)
    · rw[cond_false];unfold handA;rw[qvD,qqf];exact h.l1
    · exact h.l1
  · intro c hc;have hc:c∈(bif decide (m.1≥0) then p.1.set m.1.toNat 0 else p.1).set m.2.1.toNat (qqy p m):=hc;rcases List.mem_or_eq_of_mem_set hc with h1 | h1
    · cases hd:decide (m.1≥0) with
      | false=>rw[hd,cond_false] at h1;exact h.cell c h1
      | true =>
        rw[hd,cond_true] at h1;rcases List.mem_or_eq_of_mem_set h1 with h2 | h2
        · exact h.cell c h2
        · have:=h.r0.t1;omega
    · rw[h1];unfold qqy;omega
  · intro c hc;have hc:c∈(bif p.turn==0 then handA r p m p.2.1.1 else p.2.1.1):=hc;rcases htn with e | e
    · rw[beq_t e,cond_true] at hc;rw[if_pos e] at hho;have hc:c∈handK r (cellI p m.2.1) (handD m p.h0):=hc;rw[←hho] at hc;exact hK c hc
    · rw[beq_f (by omega),cond_false] at hc;exact h.hand0 c hc
  · intro c hc;have hc:c∈(bif p.turn==0 then p.2.1.2.1 else handA r p m p.2.1.2.1):=hc;rcases htn with e | e
    · rw[beq_t e,cond_true] at hc;exact h.hand1 c hc
    · rw[beq_f (by omega),cond_false] at hc;rw[if_neg (by omega)] at hho;have hc:c∈handK r (cellI p m.2.1) (handD m p.h1):=hc;rw[←hho] at hc;exact hK c hc
  · show 1-p.turn=0∨1-p.turn=1;omega
  · show 0≤qsK p m∧qsK p m≤200;unfold qsK;cases (decide (cellI p m.2.1>0)||decide (m.1<0))
    · rw[cond_false];split<;>omega
    · simp

def ql1 (r:Rules):List Int:=r.2.2.2.1.map fun x=>x.2.1
def qaH (r:Rules):Place:=(r.2.2.2.2.1,(ql1 r,ql1 r,()),0,0,())
theorem qlN {r:Rules} (h:VR0 r):Valid r (qaH r):=by
  have hh:∀c∈ql1 r,0≤c∧c≤1000:=fun c hc=>by
    obtain⟨x,hx,rfl⟩:=List.mem_map.1 hc;have:=h.hand x hx;omega
  have hl:(ql1 r).length=r.pieces.length:=by unfold ql1;simp
  exact⟨h,h.start,hl,hl,h.startC,hh,hh,.inl rfl,by show(0:Int)≤0∧(0:Int)≤200;omega⟩
theorem map_take {A B:Type} (l:List A) (f:A→B) (i:Nat) (hi:i<l.length):(l.take (i+1)).map f=(l.take i).map f++[f l[i]]:=by
  rw[List.take_succ_eq_append_getElem hi,List.map_append];rfl
theorem qkj (r:Rules) (hr:Rng qbL r):qct r=some (if qad r=0 then(qaH r,0,()) else(([],([],[],()),0,0,()),qad r,())):=by
  unfold qct;rw[qn3 r hr,Option.bind_some];by_cases c:qad r=0
  · have h:=qbx c;have hs:((r.2.2.2.2.1.length:Nat):Int)=r.width*r.height:=h.start;have ha:=h.area;have ht:r.2.2.2.1.length≤6:=h.t6;rw[bne_f c,cond_false,if_pos c,qgm _ (by omega),Option.bind_some]
    have hL:=qc9 (f:=qdL r) r.2.2.2.1.length (fun i=>(((i:Int),()),((r.2.2.2.2.1,((r.2.2.2.1.take i).map (fun x=>x.2.1),((r.2.2.2.1.take i).map (fun x=>x.2.1),((0:Int),((0:Int),()))))),()))) ((),((r.2.2.2.2.1,(ql1 r,(ql1 r,((0:Int),((0:Int),()))))),())) (fun i hi=>by
      unfold qdL;simp only[show decide ((i:Int)<((r.2.2.2.1.length:Nat):Int))=true by simp;omega,cond_true];rw[at?_eq _ _ (by omega) (by omega),Option.bind_some];simp only[Int.toNat_natCast];have hroom:∀z:Int,room (((r.2.2.2.1.take i).map (fun x=>x.2.1)).length+[z].length) 8=true:=fun z=>qS (by simp;omega);simp only[hroom,qb,agree_self,Option.bind_some];rw[qf (n:=(i:Int)+1) (by omega) (by omega),map_take _ _ i hi]
      rfl) (by
      unfold qdL;simp only[show decide (((r.2.2.2.1.length:Nat):Int)<((r.2.2.2.1.length:Nat):Int))=false by simp,cond_false,List.take_length]
      rfl)
    have hL':iterW (qdL r) (((0:Int),()),((r.2.2.2.2.1,(([]:List Int),(([]:List Int),((0:Int),((0:Int),()))))),()))=_:=hL;rw[hL',Option.bind_some];rfl
  · rw[bne_t c,cond_true,if_neg c]
theorem qoq (s:List Mv) (v:Mv) (hs:s.length≤1000000000):qw s v=some (decide (v∈s)):=by
  unfold qw qeU
  have hL:=qov s.length (qbr s v) (fun i=>if v=s.getD i d0 then some (.inr (i:Int)) else none) (.inl ((),())) (fun i hi=>by
    unfold qbr;simp only[show decide ((i:Int)<((s.length:Nat):Int))=true by simp;omega,cond_true];rw[at?_eq s _ (by omega) (by omega),Option.bind_some,qf (n:=(i:Int)+1) (by omega) (by omega)];simp only[Int.toNat_natCast,List.getD_eq_getElem?_getD,List.getElem?_eq_getElem hi,Option.getD_some,mv_beq];by_cases e:v=s[i]
    · simp[e]
    · simp[e]) (by unfold qbr;simp)
  rw[hL];have key:∀k i,i+k=s.length→(Option.bind (Option.bind (some (scan (fun i=>if v=s.getD i d0 then some (Sum.inr (i:Int)) else none) (Sum.inl ((),())) i k)) (Sum.elim (fun _:Unit×Unit=>some (-1:Int)) some)) fun r2=>some (decide (r2≥(0:Int))))=some (decide (v∈s.drop i)):=by
    intro k
    induction k with
    | zero =>
      intro i hi;rw[show i=s.length by omega,List.drop_length];simp[scan]
    | succ k ih =>
      intro i hi
      have hil:i<s.length:=by omega
      have hmem:(v∈s.drop i)↔v=s[i]∨v∈s.drop (i+1):=by rw[List.drop_eq_getElem_cons hil,List.mem_cons]
      unfold scan
      have hg:s.getD i d0=s[i]:=by simp[List.getD_eq_getElem?_getD,hil]
      by_cases e:v=s[i]
      · rw[decide_eq_true (hmem.2 (.inl e))];simp only[hg,if_pos e,Option.bind_some,Sum.elim_inr];simp
      · simp only[hg,if_neg e];rw[ih (i+1) (by omega)];have h2:(v∈s.drop (i+1))↔v∈s.drop i:=⟨fun h=>hmem.2 (.inr h),fun h=>(hmem.1 h).resolve_left e⟩;simp only[h2]
  have:=key s.length 0 (by omega);simpa using this
theorem qqh {r:Rules} {p:Place} (h:Valid r p):(qjJ r p).length≤100000:=by
  have h64:=qcS h;refine Nat.le_trans (qb5 _ 384 _ fun i _=>at1_len h i) ?_;rw[List.length_range];omega

theorem qtZ (r:Rules):(r.1,(r.2.1,(r.2.2.1,(r.2.2.2.1,(r.2.2.2.2.1,(r.2.2.2.2.2.1,(r.2.2.2.2.2.2.1,(r.2.2.2.2.2.2.2.1,(r.2.2.2.2.2.2.2.2.1,(r.2.2.2.2.2.2.2.2.2.1,(r.2.2.2.2.2.2.2.2.2.2.1,())))))))))))=r:=rfl
theorem qu4 (p:Place):(p.1,((p.2.1.1,(p.2.1.2.1,())),p.2.2))=p:=rfl
theorem gd_eq {A:Type} (xs:List A) (i:Nat) (hi:i<xs.length) (d:A):getD' xs i d=xs[i]:=by simp[getD',hi]
theorem ltd {A:Type} (xs:List A) (i:Nat) (hi:i<xs.length):decide ((i:Int)<((xs.length:Nat):Int))=true:=by simp;omega
theorem nltd {A:Type} (xs:List A):decide (((xs.length:Nat):Int)<((xs.length:Nat):Int))=false:=by simp
theorem inbN {A:Type} (xs:List A) (i:Nat) (hi:i<xs.length):inb (i:Int) xs.length=true:=inb_iff.2 ⟨by omega,by omega⟩
theorem qwi (a b:List Int) (ha:a.length≤1000000000):qbb a b=some (decide (a=b)):=by
  unfold qbb;by_cases hl:a.length=b.length
  · have e:(((a.length:Nat):Int)!=((b.length:Nat):Int))=false:=bne_f (by omega);rw[e,cond_false]
    have hL:=qY (List.range a.length) (fun i=>a.getD i 0 !=b.getD i 0) (qbT a b) (.inr false) (.inl ((),())) (fun i hi=>by
      have hi':i<a.length:=by simpa using hi
      unfold qbT;simp only[show decide ((i:Int)<((a.length:Nat):Int))=true by simp;omega,cond_true,List.getElem_range];rw[at?_eq a _ (by omega) (by omega),at?_eq b _ (by omega) (by omega),Option.bind_some,Option.bind_some,qf (n:=(i:Int)+1) (by omega) (by omega)];simp only[Int.toNat_natCast,List.getD_eq_getElem?_getD,List.getElem?_eq_getElem hi',List.getElem?_eq_getElem (show i<b.length by omega),Option.getD_some]
      cases (a[i]!=b[i])<;>rfl) (by unfold qbT;simp)
    rw[hL]
    cases hany:(List.range a.length).any (fun i=>a.getD i 0 !=b.getD i 0) with
    | true =>
      rw[List.any_eq_true] at hany;obtain⟨i,_,h⟩:=hany
      have:¬a=b:=fun e=>by subst e;simp at h
      simp[this]
    | false =>
      rw[List.any_eq_false] at hany;have:a=b:=by
        apply List.ext_getElem hl;intro i h1 h2;have:=hany i (List.mem_range.2 h1);simpa[List.getD_eq_getElem?_getD,h1,h2] using this
      simp[this]
  · have e:(((a.length:Nat):Int)!=((b.length:Nat):Int))=true:=bne_t (by omega);rw[e,cond_true];have:¬a=b:=fun h=>hl (by rw[h]);simp[this]
def same0 (p q:Place):Bool:=((decide (p.1=q.1)&&decide (p.2.1.1=q.2.1.1))&&decide (p.2.1.2.1=q.2.1.2.1))&&(p.2.2.1==q.2.2.1)
theorem qus {r:Rules} {p q:Place} (h:Valid r p):qhH p q=some (same0 p q):=by
  have h64:=qcS h;have t6:=h.r0.t6;have l0:p.2.1.1.length=r.pieces.length:=h.l0;have l1:p.2.1.2.1.length=r.pieces.length:=h.l1;unfold qhH same0;rw[qwi _ _ (by omega),qwi _ _ (by omega),qwi _ _ (by omega)]
  have hg:∀b c:Bool,gopt b false (some c)=some (b&&c):=fun b c=>by cases b<;>rfl
  simp only[hg,Option.bind_some,Option.some.injEq]
  cases decide (p.1=q.1)<;>cases decide (p.2.1.1=q.2.1.1)<;>cases decide (p.2.1.2.1=q.2.1.2.1)<;>cases (p.2.2.1==q.2.2.1)<;>rfl
theorem qye {r:Rules} {p:Place} (h:Valid r p):qfK p=some p:=by
  have h64:=qcS h;have t6:=h.r0.t6;have l0:p.2.1.1.length=r.pieces.length:=h.l0;have l1:p.2.1.2.1.length=r.pieces.length:=h.l1;unfold qfK;simp only[agree_self];rw[qgm _ (by omega),Option.bind_some,qgm _ (by omega),Option.bind_some,qgm _ (by omega)];rfl
theorem qx3 (s:List (Int×Int×Int×Int×Unit)) (h:s.length≤1000000):qbt s=some s:=by
  unfold qbt;have:room (([]:List (Int×Int×Int×Int×Unit)).length+s.length) 32=true:=qS (by simp;omega);rw[this]
  cases s with
  | nil=>simp[qb,agree_self]
  | cons a l=>simp[qb]
theorem qxW (s:List (Int×Int×Int×Bool×Unit)) (h:s.length≤1000000):qaD s=some s:=by
  unfold qaD;have:room (([]:List (Int×Int×Int×Bool×Unit)).length+s.length) 32=true:=qS (by simp;omega);rw[this]
  cases s with
  | nil=>simp[qb,agree_self]
  | cons a l=>simp[qb]
theorem qkq {r:Rules} (h:VR0 r):qH r=some r:=by
  have t6:r.2.2.2.1.length≤6:=h.t6;have e6:r.2.2.2.2.2.2.2.1.length≤6:=h.ends6;have hs:((r.2.2.2.2.1.length:Nat):Int)=r.width*r.height:=h.start;have ha:=h.area;unfold qH;simp only[agree_self]
  have hL:=qc9 (f:=qeD r) r.2.2.2.1.length (fun i=>(((i:Int),()),((r.1,(r.2.1,(r.2.2.1,(r.2.2.2.1.take i,r.2.2.2.2)))),()))) ((),((r.1,(r.2.1,(r.2.2.1,(r.2.2.2.1,r.2.2.2.2)))),())) (fun i hi=>by
    unfold qeD;simp only[show decide ((i:Int)<((r.2.2.2.1.length:Nat):Int))=true by simp;omega,cond_true];rw[at?_eq _ _ (by omega) (by omega),Option.bind_some];simp only[Int.toNat_natCast];rw[qx3 _ (by have:r.2.2.2.1[i].2.2.2.1.length≤16:=h.ways _ (List.getElem_mem hi);omega),Option.bind_some];have hroom:∀z:Piece,room ((r.2.2.2.1.take i).length+[z].length) 48=true:=fun z=>qS (by simp;omega);rw[hroom,qb,qf (n:=(i:Int)+1) (by omega) (by omega),List.take_succ_eq_append_getElem hi]
    rfl) (by
    unfold qeD
    simp only[show decide (((r.2.2.2.1.length:Nat):Int)<((r.2.2.2.1.length:Nat):Int))=false by simp,cond_false,List.take_length])
  have hL':iterW (qeD r) (((0:Int),()),((r.1,(r.2.1,(r.2.2.1,(([]:List Piece),r.2.2.2.2)))),()))=_:=hL;rw[hL',Option.bind_some,qgm _ (by omega),Option.bind_some,qxW _ (by omega)];rfl
theorem qxe {r:Rules} {p:Place} (c:qad r=0) (h:Valid r p):qcU r p=0:=by
  unfold qcU;rw[if_neg (by simp[c])];have h1:qlR r p=false:=by
    unfold qlR;rw[bne_f h.cells,bne_f (by have:=h.l0;omega),bne_f (by have:=h.l1;omega)];rfl
  have h2:qh0 r p=false:=by
    unfold qh0;have a1:p.cells.any (outC r)=false:=by
      rw[List.any_eq_false];intro x hx;have:=h.cell x hx;simp[outC];omega
    have a2:(p.h0++p.h1).any outH=false:=by
      rw[List.any_eq_false];intro x hx;have:0≤x∧x≤1000:=(List.mem_append.1 hx).elim (h.hand0 x) (h.hand1 x);simp[outH];omega
    have a3:outT p=false:=by
      have hq:=h.quiet;have ht:=h.turn;simp[outT];omega
    rw[a1,a2,a3];rfl
  rw[h1,h2];rfl
def dP:Place:=([],(([],([],())),((0:Int),((0:Int),()))))
def lastP (l:List Place):Place:=getD' l (l.length-1) dP
def qeT (l:List Place):Nat:=l.countP fun p=>same0 p (lastP l)
def qae (r:Rules) (l:List Place):Int:=bif ((qdN r (lastP l)==0)&&(r.repeats !=0))&&decide (((qeT l:Nat):Int)≥r.repeats) then 3 else qdN r (lastP l)
structure OKG (r:Rules) (s:List Place×List Mv):Prop where
  ok:qad r=0
  all:∀p∈s.1,Valid r p
  len:s.1.length=s.2.length+1
  most:s.2.length≤400
theorem last_mem {l:List Place} (h:0<l.length):lastP l∈l:=by
  unfold lastP;rw[gd_eq l (l.length-1) (by omega)];exact List.getElem_mem _
theorem OKG.last {r:Rules} {s:List Place×List Mv} (h:OKG r s):Valid r (lastP s.1):=h.all _ (last_mem (by have:=h.len;omega))
def stepG (r:Rules) (s:List Place×List Mv) (m:Mv):Int:=if qae r s.1=0 then if qI r (lastP s.1) m=true then if s.2.length=400 then 9 else 0 else 13 else 14
def nextG (r:Rules) (s:List Place×List Mv) (m:Mv):List Place×List Mv:=(s.1++[qlE r (lastP s.1) m],s.2++[m])
theorem qv4 {r:Rules} {s:List Place×List Mv} {m:Mv} (h:OKG r s) (c:stepG r s m=0):OKG r (nextG r s m):=by
  unfold stepG at c;by_cases c1:qae r s.1=0
  · rw[if_pos c1] at c;by_cases c2:qI r (lastP s.1) m=true
    · rw[if_pos c2] at c;by_cases c3:s.2.length=400
      · rw[if_pos c3] at c;cases c
      · have hl:=h.len;have hm:=h.most;refine⟨h.ok,fun p hp=>?_,by unfold nextG;simp;omega,by unfold nextG;simp;omega⟩;rcases List.mem_append.1 hp with hp | hp
        · exact h.all p hp
        · rw[List.mem_singleton.1 hp];exact qwu h.last c2
    · rw[if_neg c2] at c;cases c
  · rw[if_neg c1] at c;cases c
theorem qxo {A:Type} {L:List A} (h0:0<L.length) (h:L.length≤1000000000):w64 (((L.length:Nat):Int)-1)=((L.length-1:Nat):Int):=by
  rw[qf (by omega) (by omega)];omega
abbrev Game:=Rules×List Place×List Mv×Unit
theorem atP {L:List Place} (h0:0<L.length):at? L ((L.length-1:Nat):Int)=some (lastP L):=by
  rw[at?_eq _ _ (by omega) (by omega)];unfold lastP;rw[gd_eq L _ (by omega)];simp
theorem qqI {r:Rules} {s:List Place×List Mv} (h:OKG r s):qcF (r,(s.1,(s.2,())))=some ((qeT s.1:Nat):Int):=by
  obtain⟨l,ms⟩:=s;have hl:l.length=ms.length+1:=h.len;have hm:ms.length≤400:=h.most;have hw:=qxo (L:=l) (by omega) (by omega)
  have:=qsu l (fun p=>same0 p (lastP l)) (qcy (r,(l,(ms,())))) (fun c=>((c,()),())) (fun i hi c hc0 hc1=>by
    unfold qcy;simp only[agree_self];rw[ltd l i hi,cond_true,at?_eq l _ (by omega) (by omega),Option.bind_some,hw,atP (by omega),Option.bind_some];simp only[Int.toNat_natCast];rw[qus (h.all _ (List.getElem_mem hi)),Option.bind_some,Option.bind_some];show Option.bind (bif same0 l[i] (lastP l) then _ else _) _=_;rw[qf (n:=c+1) (by omega) (by omega),qf (n:=(i:Int)+1) (by omega) (by omega)];cases same0 l[i] (lastP l)<;>rfl) (fun c=>by
    unfold qcy;simp only
    rw[nltd,cond_false])
  unfold qcF;rw[this];rfl
theorem qgw {r:Rules} {s:List Place×List Mv} (h:OKG r s):qac (r,(s.1,(s.2,())))=some (qae r s.1):=by
  have hl:=h.len;have hm:=h.most;have hw:=qxo (L:=s.1) (by omega) (by omega);have hrep:r.2.2.2.2.2.2.2.2.2.2.1=r.repeats:=rfl;unfold qac;simp only[agree_self,hw,atP (show 0<s.1.length by omega),qqT h.last,Option.bind_some,qqI h,hrep];unfold qae
  cases hc:((qdN r (lastP s.1)==0)&&(r.repeats !=0)) with
  | true =>
    simp only[gopt,cond_true,Option.bind_some,Bool.true_and]
    cases decide (((qeT s.1:Nat):Int)≥r.repeats)<;>rfl
  | false=>rfl
theorem qaa {r:Rules} {s:List Place×List Mv} (h:OKG r s):qn (r,(s.1,(s.2,())))=some (lastP s.1):=by
  have hl:=h.len;have hm:=h.most;have hw:=qxo (L:=s.1) (by omega) (by omega);unfold qn;simp only[hw,atP (show 0<s.1.length by omega),qye h.last,Option.bind_some,qu4]
theorem quG {r:Rules} {s:List Place×List Mv} (h:OKG r s) (m:Mv):qcv (r,(s.1,(s.2,()))) m=some (if stepG r s m=0 then((r,((nextG r s m).1,((nextG r s m).2,()))),0) else((r,(s.1,(s.2,()))),stepG r s m)):=by
  obtain⟨l,ms⟩:=s;have hl:l.length=ms.length+1:=h.len;have hm:ms.length≤400:=h.most;have hv:=h.last;simp only at hv;have hw:=qxo (L:=l) (by omega) (by omega);have hi:=inbN l (l.length-1) (by omega);have hla:getD' l (l.length-1) (([],(([],([],())),((0:Int),((0:Int),())))):Place)=lastP l:=rfl;have hres:=qgw h;simp only at hres;unfold qcv;simp only[agree_self,hw,hi,qb,Int.toNat_natCast,hla,hres,Option.bind_some];unfold stepG;by_cases c1:qae r l=0
  · rw[bne_f c1,cond_false];simp only[if_pos c1];rw[qm2 hv,Option.bind_some,qoq _ _ (by have:=qqh hv;omega),Option.bind_some,Option.bind_some]
    have hmem:decide (m∈qjJ r (lastP l))=qI r (lastP l) m:=by rw[Bool.eq_iff_iff,decide_eq_true_eq,qlU]
    rw[hmem];by_cases c2:qI r (lastP l) m=true
    · simp only[if_pos c2];rw[c2,Bool.not_true,cond_false];by_cases c3:ms.length=400
      · rw[beq_t (by omega),cond_true];simp only[if_pos c3];rfl
      · rw[beq_f (by omega),cond_false,quB hv c2,Option.bind_some];simp only[if_neg c3,if_true];have hroom:∀z:Place,room (l.length+[z].length) 88=true:=fun z=>qS (by simp;omega);have hroom2:room (ms.length+[m].length) 24=true:=qS (by simp;omega);rw[hroom,qb,Option.bind_some];simp only;rw[hroom2,qb];rfl
    · simp only[if_neg c2];rw[show qI r (lastP l) m=false by simpa using c2];rfl
  · rw[bne_t c1,cond_true];simp only[if_neg c1];rfl
def runG (r:Rules):List Mv→List Place×List Mv→(List Place×List Mv) ⊕ Int
  | [],s => .inl s
  | m::k,s=>if stepG r s m=0 then runG r k (nextG r s m) else .inr (stepG r s m)
theorem run_ok {r:Rules}:∀(k:List Mv) (s s':List Place×List Mv),OKG r s→runG r k s = .inl s'→OKG r s'∧s'.2=s.2++k
  | [],s,s',h,e=>by cases e;exact⟨h,by simp⟩
  | m::k,s,s',h,e=>by
    unfold runG at e;split at e
    · rename_i c;obtain⟨a,b⟩:=run_ok k _ _ (qv4 h c) e;refine⟨a,?_⟩;rw[b];unfold nextG;simp
    · cases e
def flG (g:Game):ByteArray×Int×Int×(List (Int×Int×Int×(List (Int×Int×Int×Int×Unit))×Unit))×(List Int)×Bool×Bool×(List (Int×Int×Int×Bool×Unit))×Int×Int×Int×(List Place)×(List Mv)×Unit :=
  (g.1.1,(g.1.2.1,(g.1.2.2.1,(g.1.2.2.2.1,(g.1.2.2.2.2.1,(g.1.2.2.2.2.2.1,(g.1.2.2.2.2.2.2.1,(g.1.2.2.2.2.2.2.2.1,(g.1.2.2.2.2.2.2.2.2.1,(g.1.2.2.2.2.2.2.2.2.2.1,(g.1.2.2.2.2.2.2.2.2.2.2.1,(g.2.1,(g.2.2.1,())))))))))))))
def gm (r:Rules) (s:List Place×List Mv):Game:=(r,(s.1,(s.2,())))
theorem qvc {r:Rules} {T R:Type} (l:List Mv) (hlen:l.length≤1000000000) (f:T→Option (T ⊕ R)) (st:Int→Game→T) (bad:Int→R) (fin:List Place×List Mv→R)
    (hf:∀i s,f (st i (gm r s))=bif (decide (i<((l.length:Nat):Int))) then(Option.bind (at? l i) fun m=>Option.bind (qcv (r,(s.1,(s.2,()))) m) fun x=>bif (x.2 !=0) then some (.inr (bad x.2)) else some (.inl (st (w64 (i+1)) x.1))) else some (.inr (fin s))) :
    ∀(k:Nat) (i:Nat) (s:List Place×List Mv),i+k=l.length→OKG r s→iterW f (st (i:Int) (gm r s))=some (match runG r (l.drop i) s with
      | .inl s'=>fin s'
      | .inr e=>bad e)
  | 0,i,s,hi,h=>by
    have:i=l.length:=by omega
    subst this;refine qm ?_;rw[hf,nltd,cond_false,List.drop_length];rfl
  | k+1,i,s,hi,h=>by
    have hil:i<l.length:=by omega
    have hL:=hf (i:Int) s;rw[ltd l i hil,cond_true,at?_eq l _ (by omega) (by omega),Option.bind_some,quG h,Option.bind_some] at hL;simp only[Int.toNat_natCast] at hL;rw[List.drop_eq_getElem_cons hil];unfold runG;by_cases c:stepG r s l[i]=0
    · rw[if_pos c] at hL;simp only[bne_self_eq_false,cond_false] at hL;rw[qf (by omega) (by omega)] at hL;rw[qo hL,if_pos c];exact qvc l hlen f st bad fin hf k (i+1) _ (by omega) (qv4 h c)
    · rw[if_neg c] at hL;simp only[bne_t c,cond_true] at hL;rw[qm hL,if_neg c]
theorem qms {r:Rules} (c:qad r=0):OKG r ([qaH r],[]):=⟨c,fun p hp=>by rw[List.mem_singleton.1 hp];exact qlN (qbx c),rfl,by simp⟩
def qr8 (r:Rules) (l:List Mv):(List Place×List Mv) ⊕ Int:=runG r l ([qaH r],[])
abbrev FlP:=List Int×List Int×List Int×Int×Int×Unit
def flp (p:Place):FlP:=(p.1,(p.2.1.1,(p.2.1.2.1,p.2.2)))
def qxy (r:Rules) (l:List Mv):Place×Int×Int×Unit:=if qad r=0 then(match qr8 r l with
    | .inl s=>(lastP s.1,(qae r s.1,(0,())))
    | .inr e=>(dP,(0,(e,())))) else(dP,(0,(qad r,())))
theorem run_spec (r:Rules) (l:List Mv) (hr:Rng qbL r) (hl:l.length≤1000000000):qaK r l=some (qxy r l):=by
  unfold qaK qxy;rw[qkj r hr,Option.bind_some];by_cases c:qad r=0
  · simp only[if_pos c];rw[show((0:Int)!=0)=false from rfl,cond_false];simp only[agree_self];rw[qkq (qbx c),Option.bind_some];have hP:=qvc (r:=r) l hl (ql5 l) (fun i g=>((i,()),(flp dP,(flG g,())))) (fun e => .inr (dP,(0,(e,())))) (fun s => .inl ((),(flp dP,(flG (gm r s),()))))
      (fun i s=>by rfl) l.length 0 ([qaH r],[]) (by omega) (qms c)
    rw[List.drop_zero] at hP;have hP':iterW (ql5 l) (((0:Int),()),((([]:List Int),(([]:List Int),(([]:List Int),((0:Int),((0:Int),()))))),(r.1,(r.2.1,(r.2.2.1,(r.2.2.2.1,(r.2.2.2.2.1,(r.2.2.2.2.2.1,(r.2.2.2.2.2.2.1,(r.2.2.2.2.2.2.2.1,(r.2.2.2.2.2.2.2.2.1,(r.2.2.2.2.2.2.2.2.2.1,(r.2.2.2.2.2.2.2.2.2.2.1,([((qaH r).1,(((qaH r).2.1.1,((qaH r).2.1.2.1,())),(qaH r).2.2))],(([]:List Mv),()))))))))))))),()))=_:=hP
    try simp only[Option.bind_some,bne_self_eq_false,cond_false]
    rw[hP',Option.bind_some];unfold qr8
    cases hg:runG r l ([qaH r],[]) with
    | inr e=>rfl
    | inl s =>
      have hok:=(run_ok l _ _ (qms c) hg).1;simp only[Sum.elim_inl];change Option.bind (qn (r,(s.1,(s.2,())))) (fun r16=>Option.bind (qac (r,(s.1,(s.2,())))) fun r17=>some ((r16.1,((r16.2.1.1,(r16.2.1.2.1,())),r16.2.2)),(r17,((0:Int),()))))=_;rw[qaa hok,Option.bind_some,qgw hok,Option.bind_some]
  · simp only[if_neg c];rw[bne_t c,cond_true,cond_true];rfl

abbrev RTag:=ByteArray×ByteArray×Unit
abbrev RNode:=Int×Mv×ByteArray×Unit
abbrev Rec:=List RTag×ByteArray×List RNode×Int×Unit
abbrev tyTag:Ty := .st .str (.st .str .nil)
abbrev tyMv:Ty := .st (.int .i64) (.st (.int .i64) (.st (.int .i64) .nil))
abbrev tyNode:Ty := .st (.int .i64) (.st tyMv (.st .str .nil))
abbrev tyRec:Ty := .st (.sl tyTag) (.st .str (.st (.sl tyNode) (.st (.int .i64) .nil)))
theorem qso {A:Type} (xs:List A) (i:Nat) (h:i<xs.length):at? xs (i:Int)=some xs[i]:=by
  rw[at?_eq xs _ (Int.natCast_nonneg i) (Int.ofNat_lt.2 h)];simp only[Int.toNat_natCast]
def badC (w:List UInt8) (c:UInt8):Bool:=(decide (((c.toNat:Nat):Int)<32)||decide (((c.toNat:Nat):Int)>126))||w.any (· == c)
def fineT (s w:ByteArray):Bool:=!(s.data.toList.any (badC w.data.toList))
theorem ba_len (s:ByteArray):s.data.toList.length=s.size:=by rw[Array.length_toList];rfl
theorem qyb (s:ByteArray) (i:Nat) (h:i<s.data.toList.length):strAt s (i:Int)=some s.data.toList[i]:=by
  have h':i<s.size:=by rw[←ba_len];exact h
  have h0:decide ((0:Int)≤(i:Int))=true:=by simp
  unfold strAt;rw[h0,cond_true,Int.toNat_natCast,getElem?_pos s i h',ByteArray.getElem_eq_getElem_data,Array.getElem_toList]
theorem idx_any (c:UInt8):∀l:List UInt8,decide (Go.Lib.indexByte l c≥0)=l.any (· == c)
  | []=>rfl
  | b::l=>by
    have ih:=idx_any c l;have hg:=Go.Lib.indexByte_ge l c;rw[List.any_cons,←ih,show Go.Lib.indexByte (b::l) c=if b==c then 0 else if Go.Lib.indexByte l c == -1 then -1 else Go.Lib.indexByte l c+1 from rfl];by_cases h:(b==c)=true
    · rw[if_pos h,h];rfl
    · rw[if_neg h,Bool.eq_false_iff.2 h,Bool.false_or];by_cases h2:(Go.Lib.indexByte l c == -1)=true
      · have:Go.Lib.indexByte l c = -1:=by simpa using h2
        rw[if_pos h2,this]
      · have:¬Go.Lib.indexByte l c = -1:=by simpa using h2
        rw[if_neg h2,Bool.eq_iff_iff];simp only[decide_eq_true_eq];omega
theorem qkO (s w:ByteArray) (hs:s.size≤9223372036854775807):qce s w=some (fineT s w):=by
  have hl:=ba_len s;unfold qce fineT
  have hL:=qY s.data.toList (badC w.data.toList) (qbZ s w) (.inr false) (.inl ((),())) (fun i hi=>by
    unfold qbZ
    have h3:(i:Int)<(s.size:Int):=by omega
    have hg:∀b (c:UInt8),gopt b 0 (some c)=some (bif b then c else 0):=fun b c=>by cases b<;>rfl
    simp only[h3,decide_true,cond_true,qyb s i hi,Option.bind_some,hg,qf (n:=(i:Int)+1) (by omega) (by omega)];generalize s.data.toList[i]=c;have hx:decide (qfx w ((c.toNat:Nat):Int)≥0)=w.data.toList.any (· == c):=by
      unfold qfx;rw[Int.toNat_natCast,←idx_any,show(c.toNat).toUInt8=c from UInt8.ofNat_toNat]
    unfold badC;cases h1:decide (((c.toNat:Nat):Int)<32)
    · simp only[Bool.not_false,cond_true,Bool.false_or];cases h2:decide (((c.toNat:Nat):Int)>126)
      · simp only[Bool.not_false,cond_true,Bool.false_or,hx];rfl
      · simp only[Bool.true_or,cond_true]
    · simp only[Bool.true_or,cond_true]) (by
    unfold qbZ;rw[hl]
    simp)
  rw[hL]
  cases s.data.toList.any (badC w.data.toList)<;>rfl
def cErr (s:ByteArray):Int:=if 60<s.size then 2 else if fineT s (ByteArray.mk #[123,125])=false then 3 else 0
theorem qoV (s:ByteArray) (hs:s.size≤9223372036854775807):qdC s=some (cErr s):=by
  unfold qdC cErr;by_cases h:60<s.size
  · rw[if_pos h,show decide (((s.size:Nat):Int)>60)=true by simp only[decide_eq_true_eq];omega];rfl
  · rw[if_neg h,show decide (((s.size:Nat):Int)>60)=false by simp only[decide_eq_false_iff_not];omega,cond_false,qkO _ _ (by omega),Option.bind_some]
    cases fineT s (ByteArray.mk #[123,125])<;>rfl
def tErrD (pre:List RTag) (d:RTag):Int:=if qr2 d.1=false then 6 else if 40<d.2.1.size then 2 else if fineT d.2.1 (ByteArray.mk #[34])=false then 3 else if pre.any (fun u=>u.1.toList==d.1.toList)=true then 7 else 0
def tErr (ts:List RTag) (i:Nat):Int:=match ts[i]? with
  | none=>0
  | some d=>tErrD (ts.take i) d
theorem tErr_at (ts:List RTag) (i:Nat) (h:i<ts.length):tErr ts i=tErrD (ts.take i) ts[i]:=by
  unfold tErr;rw[List.getElem?_eq_getElem h]
theorem tags_spec (x:Rec) (hx:Rng tyRec x):qki x=some (qcm (tErr x.1) x.1.length):=by
  have hn:x.1.length≤9223372036854775807:=hx.1.1;unfold qki
  have:=qut x.1.length (qfi x) (tErr x.1) ((),()) (some 0) (fun i hi=>by
    have hd1:(x.1[i]).1.size≤9223372036854775807:=(hx.1.2 _ (List.getElem_mem hi)).1;have hd2:(x.1[i]).2.1.size≤9223372036854775807:=(hx.1.2 _ (List.getElem_mem hi)).2.1;rw[tErr_at _ _ hi];unfold qfi;simp only[show decide ((i:Int)<((x.1.length:Nat):Int))=true by simp;omega,cond_true];rw[qso _ _ hi,Option.bind_some];generalize x.1[i]=d at hd1 hd2;unfold tErrD;rw[qvo _ (by omega),Option.bind_some];cases qr2 d.1
    · rfl
    · simp only[Bool.not_true,cond_false,if_neg (show ¬(true=false) by decide)];by_cases h1:40<d.2.1.size
      · rw[if_pos h1,show decide (((d.2.1.size:Nat):Int)>40)=true by simp only[decide_eq_true_eq];omega];rfl
      · rw[if_neg h1,show decide (((d.2.1.size:Nat):Int)>40)=false by simp only[decide_eq_false_iff_not];omega,cond_false,qkO _ _ (by omega),Option.bind_some];cases fineT d.2.1 (ByteArray.mk #[34])
        · rfl
        · simp only[Bool.not_true,cond_false,if_neg (show ¬(true=false) by decide)];rw[show qe 0 (i:Int) x.1.length=true by simp only[qe,Bool.and_eq_true,decide_eq_true_eq];omega,qb]
          have hl:(x.1.take i).length=i:=by rw[List.length_take];omega
          have hL:=qY (x.1.take i) (fun u=>u.1.toList==d.1.toList) (qff x (((i:Int),()),()) d) (.inr (.inr (.inr 7))) (.inl ((),())) (fun j hj=>by
            have hj':j<i:=by rw[List.length_take] at hj;omega
            unfold qff;simp only[Int.toNat_natCast,List.drop_zero,hl];simp only[show decide ((j:Int)<((i:Nat):Int))=true by simp;omega,cond_true];rw[qso _ _ hj,Option.bind_some];simp only[Int.toNat_natCast,show decide ((j:Int)≥0)=true by simp,cond_true,qf (n:=(j:Int)+1) (by omega) (by omega)]
            rfl) (by
            unfold qff;simp only[Int.toNat_natCast,List.drop_zero,hl]
            simp)
          rw[hL,Option.bind_some,qf (n:=(i:Int)+1) (by omega) (by omega)]
          cases (x.1.take i).any (fun u=>u.1.toList==d.1.toList)<;>rfl) (by
    unfold qfi
    simp)
  rw[this];split
  · rename_i h;rw[h]
  · rfl

def rpar (ns:List RNode) (i:Nat):Int:=((ns[i]?).map (·.1)).getD (-1)
def rmv (ns:List RNode) (i:Nat):Mv:=((ns[i]?).map (·.2.1)).getD (0,(0,(0,())))
def quQ (ns:List RNode):Nat→Int→List Nat
  | 0,_=>[]
  | f+1,n=>if n<0 then [] else n.toNat::quQ ns f (rpar ns n.toNat)
def Down (ns:List RNode) (k:Nat):Prop:=∀i,i<k→rpar ns i<(i:Int)
theorem Down.mono {ns:List RNode} {k j:Nat} (h:Down ns k) (hj:j≤k):Down ns j:=fun i hi=>h i (by omega)
theorem qsq {ns:List RNode}:∀(f g:Nat) (n:Int),Down ns (n+1).toNat→n<(f:Int)→n<(g:Int)→quQ ns f n=quQ ns g n
  | 0,0,n,_,_,_=>rfl
  | 0,g+1,n,_,h,_=>by
    show []=if n<0 then [] else _;rw[if_pos (by omega)]
  | f+1,0,n,_,_,h=>by
    show(if n<0 then [] else _)=[];rw[if_pos (by omega)]
  | f+1,g+1,n,hd,h1,h2=>by
    show(if n<0 then [] else _)=if n<0 then [] else _;by_cases h:n<0
    · rw[if_pos h,if_pos h]
    · rw[if_neg h,if_neg h];have:=hd n.toNat (by omega);rw[qsq f g (rpar ns n.toNat) (hd.mono (by omega)) (by omega) (by omega)]
def wayN (ns:List RNode) (n:Int):List Nat:=quQ ns (n+1).toNat n
theorem qkh (ns:List RNode) {n:Int} (h:n<0):wayN ns n=[]:=by
  unfold wayN;rw[show(n+1).toNat=0 by omega];rfl
theorem qpA {ns:List RNode} {n:Int} (h:0≤n) (hd:Down ns (n+1).toNat):wayN ns n=n.toNat::wayN ns (rpar ns n.toNat):=by
  have hp:=hd n.toNat (by omega);unfold wayN;rw[show(n+1).toNat=n.toNat+1 by omega];show(if n<0 then [] else n.toNat::quQ ns n.toNat (rpar ns n.toNat))=_;rw[if_neg (by omega),qsq n.toNat (rpar ns n.toNat+1).toNat (rpar ns n.toNat) (hd.mono (by omega)) (by omega) (by omega)]
def wayM (ns:List RNode) (n:Int):List Mv:=((wayN ns n).map (rmv ns)).reverse
theorem wayN_le {ns:List RNode}:∀(k:Nat) (n:Int),(n+1).toNat≤k→Down ns (n+1).toNat→∀j∈wayN ns n,(j:Int)≤n
  | 0,n,hk,_,j,hj=>by rw[qkh ns (by omega)] at hj;cases hj
  | k+1,n,hk,hd,j,hj=>by
    by_cases h:n<0
    · rw[qkh ns h] at hj;cases hj
    · have hp:=hd n.toNat (by omega);rw[qpA (by omega) hd] at hj;rcases List.mem_cons.1 hj with rfl | hj
      · omega
      · have:=wayN_le k (rpar ns n.toNat) (by omega) (hd.mono (by omega)) j hj;omega
theorem qtx {ns:List RNode}:∀(k:Nat) (n:Int),(n+1).toNat≤k→Down ns (n+1).toNat→(wayN ns n).length≤k
  | 0,n,hk,_=>by rw[qkh ns (by omega)];exact Nat.le_refl _
  | k+1,n,hk,hd=>by
    by_cases h:n<0
    · rw[qkh ns h];exact Nat.zero_le _
    · have hp:=hd n.toNat (by omega);rw[qpA (by omega) hd,List.length_cons];have:=qtx k (rpar ns n.toNat) (by omega) (hd.mono (by omega));omega
theorem at_node {ns:List RNode} {n:Int} (h0:0≤n) (h1:n<((ns.length:Nat):Int)):∃d,at? ns n=some d∧d.1=rpar ns n.toNat∧d.2.1=rmv ns n.toNat:=by
  have hl:n.toNat<ns.length:=by omega
  refine⟨ns[n.toNat],at?_eq _ _ h0 h1,?_,?_⟩
  · unfold rpar;rw[List.getElem?_eq_getElem hl];rfl
  · unfold rmv;rw[List.getElem?_eq_getElem hl];rfl
theorem way_L1 (x:Rec) (hn:x.2.2.1.length≤1000):∀s:((List Mv×Int×Unit)×Unit),(s.1.2.1<((x.2.2.1.length:Nat):Int)∧Down x.2.2.1 (s.1.2.1+1).toNat∧s.1.1.length+(s.1.2.1+1).toNat≤2000) →
    iterW (qf9 x) s=some ((s.1.1++(wayN x.2.2.1 s.1.2.1).map (rmv x.2.2.1),()),()):=by
  refine qvH _ (fun s:((List Mv×Int×Unit)×Unit)=>(s.1.2.1+1).toNat) (fun s=>((s.1.1++(wayN x.2.2.1 s.1.2.1).map (rmv x.2.2.1),()),())) ?_
  rintro ⟨⟨acc,n,⟨⟩⟩,⟨⟩⟩ ⟨h1,hd,hl⟩
  simp only at h1 hd hl ⊢;by_cases h:n<0
  · refine .inr ?_;unfold qf9;simp only[show decide (n≥0)=false by simp;omega,cond_false,qkh _ h,List.map_nil,List.append_nil]
  · refine .inl ?_;have hp:=hd n.toNat (by omega);obtain⟨d,e1,e2,e3⟩:=at_node (ns:=x.2.2.1) (n:=n) (by omega) h1;refine⟨((acc++[rmv x.2.2.1 n.toNat],rpar x.2.2.1 n.toNat,()),()),?_,⟨by simp only;omega,hd.mono (by simp only;omega),by simp only[List.length_append,List.length_cons,List.length_nil];omega⟩,by simp only;omega,?_⟩
    · unfold qf9;simp only[show decide (n≥0)=true by simp;omega,cond_true];rw[e1];simp only[Option.bind_some];rw[qS (by simp only[List.length_cons,List.length_nil];omega),qb,e2,e3]
    · simp only;rw[qpA (by omega) hd,List.map_cons,List.append_assoc];rfl
def revK (xs:List Mv) (k:Nat):List Mv:=(List.range xs.length).map fun t=>if t<k∨xs.length-k≤t then xs.getD (xs.length-1-t) (0,(0,(0,()))) else xs.getD t (0,(0,(0,())))
theorem qfk (xs:List Mv) (k:Nat):(revK xs k).length=xs.length:=by simp[revK]
theorem qw0 (xs:List Mv) (k t:Nat) (h:t<xs.length):getD' (revK xs k) t (0,(0,(0,())))=if t<k∨xs.length-k≤t then xs.getD (xs.length-1-t) (0,(0,(0,()))) else xs.getD t (0,(0,(0,()))):=by
  unfold getD' revK;rw[List.getD_eq_getElem?_getD,List.getElem?_map,List.getElem?_range h];rfl
theorem revK_step (xs:List Mv) (k:Nat) (h:k+1<xs.length-k):((revK xs k).set k (getD' (revK xs k) (xs.length-1-k) (0,(0,(0,()))))).set (xs.length-1-k) (getD' (revK xs k) k (0,(0,(0,()))))=revK xs (k+1):=by
  rw[qw0 xs k k (by omega),qw0 xs k (xs.length-1-k) (by omega),if_neg (by omega),if_neg (by omega)];apply List.ext_getElem
  · simp[qfk]
  · intro t h1 h2
    have ht:t<xs.length:=by rw[qfk] at h2;exact h2
    have e:∀j,(revK xs j)[t]?=some (if t<j∨xs.length-j≤t then xs.getD (xs.length-1-t) (0,(0,(0,()))) else xs.getD t (0,(0,(0,())))):=fun j=>by
      unfold revK;rw[List.getElem?_map,List.getElem?_range ht];rfl
    have e1:(revK xs (k+1))[t]=if t<k+1∨xs.length-(k+1)≤t then xs.getD (xs.length-1-t) (0,(0,(0,()))) else xs.getD t (0,(0,(0,()))):=by
      have:=e (k+1);rw[List.getElem?_eq_getElem h2] at this;exact Option.some.inj this
    have hk:t<(revK xs k).length:=by rw[qfk];exact ht
    have e2:(revK xs k)[t]=if t<k∨xs.length-k≤t then xs.getD (xs.length-1-t) (0,(0,(0,()))) else xs.getD t (0,(0,(0,()))):=by
      have:=e k;rw[List.getElem?_eq_getElem hk] at this;exact Option.some.inj this
    rw[e1,List.getElem_set,List.getElem_set,e2];by_cases c1:xs.length-1-k=t
    · rw[if_pos c1,if_pos (by omega),show xs.length-1-t=k by omega]
    · rw[if_neg c1];by_cases c2:k=t
      · rw[if_pos c2,if_pos (by omega),c2]
      · rw[if_neg c2];by_cases c3:t<k∨xs.length-k≤t
        · rw[if_pos c3,if_pos (by omega)]
        · rw[if_neg c3,if_neg (by omega)]
theorem revK_zero (xs:List Mv):revK xs 0=xs:=by
  apply List.ext_getElem
  · exact qfk xs 0
  · intro t h1 h2;have e:(revK xs 0)[t]?=some (xs.getD t (0,(0,(0,())))):=by
      unfold revK;rw[List.getElem?_map,List.getElem?_range h2];show some (if t<0∨xs.length-0≤t then _ else _)=_;rw[if_neg (by omega)]
    rw[List.getElem?_eq_getElem h1] at e;rw[Option.some.inj e];simp[List.getD_eq_getElem?_getD,h2]
theorem revK_all (xs:List Mv) (k:Nat) (h:xs.length≤2*k+1) (hk:2*k≤xs.length):revK xs k=xs.reverse:=by
  apply List.ext_getElem
  · rw[qfk,List.length_reverse]
  · intro t h1 h2
    have ht:t<xs.length:=by rw[qfk] at h1;exact h1
    have e:(revK xs k)[t]?=some (if t<k∨xs.length-k≤t then xs.getD (xs.length-1-t) (0,(0,(0,()))) else xs.getD t (0,(0,(0,())))):=by
      unfold revK;rw[List.getElem?_map,List.getElem?_range ht];rfl
    rw[List.getElem?_eq_getElem h1] at e;rw[Option.some.inj e,List.getElem_reverse];by_cases c:t<k∨xs.length-k≤t
    · rw[if_pos c];simp[List.getD_eq_getElem?_getD,show xs.length-1-t<xs.length by omega]
    · rw[if_neg c]
      have:t=xs.length-1-t:=by omega
      simp only[←this];simp[List.getD_eq_getElem?_getD,ht]
theorem way_L2 (xs:List Mv) (hx:xs.length≤1000000):iterW qeJ ((0,(w64 (((xs.length:Nat):Int)-1)),()),(xs,()))=some ((),(xs.reverse,())):=by
  have:=qc9 (f:=qeJ) (xs.length / 2) (fun k=>(((k:Int),((xs.length:Nat):Int)-1-(k:Int),()),(revK xs k,()))) ((),(xs.reverse,())) (fun k hk=>by
    unfold qeJ
    have e1:(((xs.length:Nat):Int)-1-(k:Int)).toNat=xs.length-1-k:=by omega
    simp only[show decide ((k:Int)<((xs.length:Nat):Int)-1-(k:Int))=true by simp;omega,cond_true];rw[show inb (((xs.length:Nat):Int)-1-(k:Int)) (revK xs k).length=true from inb_iff.2 (by rw[qfk];omega),show inb (k:Int) (revK xs k).length=true from inb_iff.2 (by rw[qfk];omega)];simp only[qb,Int.toNat_natCast,e1]
    rw[show ∀y,inb (((xs.length:Nat):Int)-1-(k:Int)) ((revK xs k).set k y).length=true from fun y=>inb_iff.2 (by rw[List.length_set,qfk];omega),qb,revK_step xs k (by omega),qf (by omega) (by omega),qf (by omega) (by omega),show((k+1:Nat):Int)=(k:Int)+1 by omega,show((xs.length:Nat):Int)-1-((k:Int)+1)=((xs.length:Nat):Int)-1-(k:Int)-1 by omega]) (by
    unfold qeJ;simp only[show decide (((xs.length / 2:Nat):Int)<((xs.length:Nat):Int)-1-((xs.length / 2:Nat):Int))=false by simp only[decide_eq_false_iff_not];omega,cond_false]
    rw[revK_all xs _ (by omega) (by omega)])
  simp only[Int.natCast_zero,Int.sub_zero,revK_zero] at this;rw[qf (by omega) (by omega)];exact this
theorem way_rec (x:Rec) (hn:x.2.2.1.length≤1000) {n:Int} (h0 : -1≤n) (h1:n<((x.2.2.1.length:Nat):Int)) (hd:Down x.2.2.1 (n+1).toNat):qaF x n=some (wayM x.2.2.1 n):=by
  unfold qaF;have e:=way_L1 x hn (([],n,()),()) ⟨h1,hd,by simp only[List.length_nil];omega⟩;simp only[List.nil_append] at e;have hl:=qtx _ n (Nat.le_refl _) hd;rw[e,Option.bind_some];simp only;rw[way_L2 _ (by rw[List.length_map];omega),Option.bind_some];rfl
theorem on_L1 (a:Int) (x:Rec):∀s:((Int×Unit)×Unit),(s.1.1<((x.2.2.1.length:Nat):Int)∧Down x.2.2.1 (s.1.1+1).toNat) →
    iterW (qfJ a x) s=some (if 0≤a∧a.toNat∈wayN x.2.2.1 s.1.1 then .inr true else .inl ((),())):=by
  refine qvH _ (fun s:((Int×Unit)×Unit)=>(s.1.1+1).toNat) (fun s=>if 0≤a∧a.toNat∈wayN x.2.2.1 s.1.1 then(Sum.inr true:(Unit×Unit) ⊕ Bool) else Sum.inl ((),())) ?_
  rintro ⟨⟨n,⟨⟩⟩,⟨⟩⟩ ⟨h1,hd⟩
  simp only at h1 hd ⊢;by_cases h:n<0
  · refine .inr ?_;unfold qfJ;simp only[show decide (n≥0)=false by simp;omega,cond_false,qkh _ h];rw[if_neg (by simp)]
  · have hp:=hd n.toNat (by omega);have hw:=qpA (ns:=x.2.2.1) (by omega) hd;by_cases ha:n=a
    · refine .inr ?_;subst ha;unfold qfJ;simp only[show decide (n≥0)=true by simp;omega,cond_true,beq_self_eq_true];rw[if_pos ⟨by omega,by rw[hw];exact List.mem_cons_self⟩]
    · refine .inl ⟨((rpar x.2.2.1 n.toNat,()),()),?_,⟨by simp only;omega,hd.mono (by simp only;omega)⟩,by simp only;omega,?_⟩
      · obtain⟨d,e1,e2,e3⟩:=at_node (ns:=x.2.2.1) (n:=n) (by omega) h1;unfold qfJ;simp only[show decide (n≥0)=true by simp;omega,cond_true,beq_f ha,cond_false];rw[e1,Option.bind_some,e2]
      · simp only;rw[hw];have:(0≤a∧a.toNat∈n.toNat::wayN x.2.2.1 (rpar x.2.2.1 n.toNat))↔(0≤a∧a.toNat∈wayN x.2.2.1 (rpar x.2.2.1 n.toNat)):=by
          rw[List.mem_cons];constructor
          · rintro ⟨q1,q2 | q2⟩
            · omega
            · exact⟨q1,q2⟩
          · rintro ⟨q1,q2⟩;exact⟨q1,.inr q2⟩
        simp only[this]
theorem on_spec (x:Rec) (a:Int) {n:Int} (h1:n<((x.2.2.1.length:Nat):Int)) (hd:Down x.2.2.1 (n+1).toNat):qmd x a n=some (decide (0≤a∧a.toNat∈wayN x.2.2.1 n)||(a == -1)):=by
  unfold qmd;rw[on_L1 a x ((n,()),()) ⟨h1,hd⟩,Option.bind_some];by_cases h:0≤a∧a.toNat∈wayN x.2.2.1 n
  · simp only[if_pos h,decide_eq_true h,Bool.true_or];rfl
  · simp only[if_neg h,decide_eq_false h,Bool.false_or];rfl

def rcom (ns:List RNode) (i:Nat):ByteArray:=((ns[i]?).map (·.2.2.1)).getD ByteArray.empty
def gErr (r:Rules) (l:List Mv):Int:=if qad r=0 then(match qr8 r l with
    | .inl _=>0
    | .inr e=>e) else qad r
theorem run_err (r:Rules) (l:List Mv):(qxy r l).2.2.1=gErr r l:=by
  unfold qxy gErr;by_cases c:qad r=0
  · rw[if_pos c,if_pos c]
    cases qr8 r l<;>rfl
  · rw[if_neg c,if_neg c]
def ordB (ns:List RNode) (i:Nat):Bool:=decide (rpar ns i<(i:Int))&&(decide (0≤rpar ns i∧(rpar ns i).toNat∈wayN ns ((i:Int)-1))||(rpar ns i == -1))
def twinB (ns:List RNode) (i:Nat):Bool:=(List.range i).any fun k=>(rpar ns k==rpar ns i)&&(rmv ns k==rmv ns i)
def sibB (ns:List RNode) (i:Nat):Bool:=(List.range i).any fun k=>rpar ns k==rpar ns i
def nErr (r:Rules) (ns:List RNode) (i:Nat):Int:=if cErr (rcom ns i)≠0 then cErr (rcom ns i) else if ordB ns i=false then 3 else if twinB ns i=true then 7 else gErr r (wayM ns (i:Int))
def Ord (ns:List RNode) (k:Nat):Prop:=∀i,i<k→ordB ns i=true
theorem Ord.down {ns:List RNode} {k:Nat} (h:Ord ns k):Down ns k:=fun i hi=>by
  have:=h i hi;unfold ordB at this;simp only[Bool.and_eq_true,decide_eq_true_eq] at this;exact this.1
theorem Ord.low {ns:List RNode} {k:Nat} (h:Ord ns k):∀i,i<k → -1≤rpar ns i:=fun i hi=>by
  have:=h i hi;unfold ordB at this;simp only[Bool.and_eq_true,Bool.or_eq_true,decide_eq_true_eq,beq_iff_eq] at this;omega
theorem Ord.step {ns:List RNode} {k:Nat} (h:Ord ns k) (hk:ordB ns k=true):Ord ns (k+1):=fun i hi=>by
  by_cases e:i=k
  · subst e;exact hk
  · exact h i (by omega)
theorem qqe {ns:List RNode} {i:Nat} (hi:i<ns.length):ns[i].1=rpar ns i∧ns[i].2.1=rmv ns i∧ns[i].2.2.1=rcom ns i:=by
  unfold rpar rmv rcom;rw[List.getElem?_eq_getElem hi];exact⟨rfl,rfl,rfl⟩
theorem sib_gap {ns:List RNode} {i:Nat} (h:Down ns i) (hs:sibB ns i=true):rpar ns i+2≤(i:Int)∨rpar ns i<0∧1≤i:=by
  unfold sibB at hs;rw[List.any_eq_true] at hs;obtain⟨k,hk,e⟩:=hs;have hk:=List.mem_range.1 hk;have:=h k hk
  have e:rpar ns k=rpar ns i:=by simpa using e
  omega
structure qxc (ns:List RNode) (deep:List Int) (i:Nat):Prop where
  len:deep.length=ns.length
  all:∀j,j<ns.length→0≤deep.getD j 0∧2*deep.getD j 0≤(j:Int)+1
  zero:∀j,i≤j→deep.getD j 0=0
theorem gdD (xs:List Int) (i:Nat):getD' xs i 0=xs.getD i 0:=rfl
theorem setD (xs:List Int) (i j:Nat) (a:Int) (h:i<xs.length):(xs.set i a).getD j 0=if i=j then a else xs.getD j 0:=by
  rw[List.getD_eq_getElem?_getD,List.getD_eq_getElem?_getD,List.getElem?_set];by_cases e:i=j
  · rw[if_pos e,if_pos e,if_pos h];rfl
  · rw[if_neg e,if_neg e]
abbrev eqMv (a b:Mv):Bool:=(a.1==b.1)&&((a.2.1==b.2.1)&&((a.2.2.1==b.2.2.1)&&true))
theorem eqMv_iff (a b:Mv):eqMv a b=(a==b):=by
  obtain⟨a1,a2,a3,⟨⟩⟩:=a;obtain⟨b1,b2,b3,⟨⟩⟩:=b;rw[Bool.eq_iff_iff];simp[eqMv]
theorem node_spec {r:Rules} (hr:Rng qbL r) (x:Rec) (hx:Rng tyRec x) (h30:x.2.2.1.length≤30) {i:Nat} (hi:i<x.2.2.1.length) (ho:Ord x.2.2.1 i) {deep:List Int} (hD:qxc x.2.2.1 deep i) :
    ∃deep',qkw deep r x (i:Int)=some (deep',nErr r x.2.2.1 i)∧(nErr r x.2.2.1 i=0→qxc x.2.2.1 deep' (i+1)):=by
  have hcs:(rcom x.2.2.1 i).size≤9223372036854775807:=by
    have:=(hx.2.2.1.2 _ (List.getElem_mem hi)).2.2.1;rw[←(qqe hi).2.2];exact this
  have hd:=ho.down;obtain⟨n1,n2,n3⟩:=qqe hi;unfold qkw;rw[qso _ _ hi,Option.bind_some];simp only[n1,n2,n3];rw[qoV _ hcs,Option.bind_some];unfold nErr;by_cases hc:cErr (rcom x.2.2.1 i)=0
  rotate_left
  · rw[bne_t hc,cond_true,if_pos hc];exact⟨_,rfl,fun h=>absurd h hc⟩
  rw[bne_f hc,cond_false,if_neg (fun h=>h hc)];have hon:qmd x (rpar x.2.2.1 i) (w64 ((i:Int)-1))=some (decide (0≤rpar x.2.2.1 i∧(rpar x.2.2.1 i).toNat∈wayN x.2.2.1 ((i:Int)-1))||(rpar x.2.2.1 i == -1)):=by
    rw[qf (by omega) (by omega)];exact on_spec x _ (by omega) (by rw[show((i:Int)-1+1).toNat=i by omega];exact hd)
  rw[hon];by_cases hob:ordB x.2.2.1 i=true
  rotate_left
  · rw[Bool.not_eq_true] at hob;rw[if_pos hob];refine⟨deep,?_,fun h=>by cases h⟩;unfold ordB at hob;by_cases hp:rpar x.2.2.1 i<(i:Int)
    · rw[decide_eq_true hp,Bool.true_and] at hob;rw[show decide (rpar x.2.2.1 i≥(i:Int))=false by simp only[decide_eq_false_iff_not];omega,hob];rfl
    · rw[show decide (rpar x.2.2.1 i≥(i:Int))=true by simp only[decide_eq_true_eq];omega];rfl
  rw[if_neg (by rw[hob];decide)];have hor:=ho.step hob;have hd1:=hor.down;have hpi:=hd1 i (Nat.lt_succ_self i);have hpl:=hor.low i (Nat.lt_succ_self i);have hob2:=hob;unfold ordB at hob2;rw[decide_eq_true hpi,Bool.true_and] at hob2;rw[show decide (rpar x.2.2.1 i≥(i:Int))=false by simp only[decide_eq_false_iff_not];omega,hob2];simp only[Bool.not_false,gopt,cond_true,Option.bind_some,Bool.not_true,Bool.or_self,cond_false];have hdl:=hD.len
  obtain⟨dp,hdp1,hdp2⟩:∃dp:List Int,(bif (decide (rpar x.2.2.1 i≥0)) then req (inb (rpar x.2.2.1 i) deep.length) (req (inb (i:Int) deep.length) (some ((),((deep.set (((i:Int)).toNat) (getD' deep ((rpar x.2.2.1 i).toNat) 0)),()))))
      else some ((),(deep,())))=some ((),(dp,()))∧(qxc x.2.2.1 dp (i+1)∧(2*dp.getD i 0≤rpar x.2.2.1 i+1)):=by
    by_cases h0:0≤rpar x.2.2.1 i
    · rw[show decide (rpar x.2.2.1 i≥0)=true by simp only[decide_eq_true_eq];omega,cond_true,inb_iff.2 ⟨h0,by omega⟩,qb,show inb (i:Int) deep.length=true from inb_iff.2 (by omega),qb];have q:=hD.all (rpar x.2.2.1 i).toNat (by omega);refine⟨_,rfl,⟨by rw[List.length_set];exact hdl,fun j hj=>?_,fun j hj=>?_⟩,?_⟩
      · rw[Int.toNat_natCast,gdD,setD _ _ _ _ (by omega)];by_cases e:i=j
        · rw[if_pos e];omega
        · rw[if_neg e];exact hD.all j hj
      · rw[Int.toNat_natCast,gdD,setD _ _ _ _ (by omega),if_neg (by omega)];exact hD.zero j (by omega)
      · rw[Int.toNat_natCast,gdD,setD _ _ _ _ (by omega),if_pos rfl];omega
    · rw[show decide (rpar x.2.2.1 i≥0)=false by simp only[decide_eq_false_iff_not];omega,cond_false];exact⟨_,rfl,⟨hdl,hD.all,fun j hj=>hD.zero j (by omega)⟩,by rw[hD.zero i (Nat.le_refl _)];omega⟩
  rw[hdp1,Option.bind_some];rw[show qe 0 (i:Int) x.2.2.1.length=true by simp only[qe,Bool.and_eq_true,decide_eq_true_eq];omega,qb,qb]
  have htl:(x.2.2.1.take i).length=i:=by rw[List.length_take];omega
  have tk:∀k (hk:k<(x.2.2.1.take i).length),(x.2.2.1.take i)[k].1=rpar x.2.2.1 k∧(x.2.2.1.take i)[k].2.1=rmv x.2.2.1 k:=fun k hk=>by
    rw[List.getElem_take];exact⟨(qqe (by omega)).1,(qqe (by omega)).2.1⟩
  obtain⟨nd,hnd⟩:∃nd:RNode,x.2.2.1[i]=nd:=⟨_,rfl⟩;rw[hnd] at n1 n2;rw[hnd];have anyT:(x.2.2.1.take i).any (fun d=>(d.1==rpar x.2.2.1 i)&&(d.2.1==rmv x.2.2.1 i))=twinB x.2.2.1 i:=by
    unfold twinB;rw[Bool.eq_iff_iff,List.any_eq_true,List.any_eq_true];constructor
    · rintro ⟨d,hd,e⟩
      obtain⟨k,hk,rfl⟩:=List.mem_iff_getElem.1 hd;rw[(tk k hk).1,(tk k hk).2] at e;exact⟨k,List.mem_range.2 (by omega),e⟩
    · rintro ⟨k,hk,e⟩
      have hk:=List.mem_range.1 hk;refine⟨(x.2.2.1.take i)[k]'(by omega),List.getElem_mem _,?_⟩;rw[(tk k (by omega)).1,(tk k (by omega)).2];exact e
  have anyS:(x.2.2.1.take i).any (fun d=>d.1==rpar x.2.2.1 i)=sibB x.2.2.1 i:=by
    unfold sibB;rw[Bool.eq_iff_iff,List.any_eq_true,List.any_eq_true];constructor
    · rintro ⟨d,hd,e⟩
      obtain⟨k,hk,rfl⟩:=List.mem_iff_getElem.1 hd;rw[(tk k hk).1] at e;exact⟨k,List.mem_range.2 (by omega),e⟩
    · rintro ⟨k,hk,e⟩
      have hk:=List.mem_range.1 hk;refine⟨(x.2.2.1.take i)[k]'(by omega),List.getElem_mem _,?_⟩;rw[(tk k (by omega)).1];exact e
  have hL1:=qY (x.2.2.1.take i) (fun d=>(d.1==rpar x.2.2.1 i)&&(d.2.1==rmv x.2.2.1 i)) (qfb x (i:Int) nd ((),(dp,()))) (.inr (dp,7)) (.inl ((),())) (fun k hk=>by
    unfold qfb;simp only[Int.toNat_natCast,List.drop_zero,n1,n2];rw[htl];simp only[show decide ((k:Int)<((i:Nat):Int))=true by simp;omega,cond_true];rw[qso _ _ hk,Option.bind_some,(tk k hk).1,(tk k hk).2];rw[qf (n:=(k:Int)+1) (by omega) (by omega)];have:=eqMv_iff (rmv x.2.2.1 k) (rmv x.2.2.1 i);unfold eqMv at this;rw[this];cases e1:(rpar x.2.2.1 k==rpar x.2.2.1 i)
    · simp only[bne,e1,Bool.not_false,cond_true,Option.bind_some,Sum.elim_inl,Bool.false_and,cond_false];rfl
    · simp only[bne,e1,Bool.not_true,cond_false,Bool.true_and]
      cases (rmv x.2.2.1 k==rmv x.2.2.1 i)<;>rfl) (by
    unfold qfb;simp only[Int.toNat_natCast,List.drop_zero];rw[htl]
    simp)
  rw[hL1,anyT,Option.bind_some];cases htw:twinB x.2.2.1 i
  rotate_left
  · simp only[cond_true,Sum.elim_inr,if_true];exact⟨dp,rfl,fun h=>by cases h⟩
  simp only[cond_false,Sum.elim_inl,if_neg (show ¬(false=true) by decide)];have hway:qaF x (i:Int)=some (wayM x.2.2.1 (i:Int)):=way_rec x (by omega) (by omega) (by omega) (by rw[show((i:Int)+1).toNat=i+1 by omega];exact hd1);have hwl:(wayM x.2.2.1 (i:Int)).length≤1000:=by
    unfold wayM;rw[List.length_reverse,List.length_map];have:=qtx _ (i:Int) (Nat.le_refl _) (by rw[show((i:Int)+1).toNat=i+1 by omega];exact hd1);omega
  have hrun:=run_spec r (wayM x.2.2.1 (i:Int)) hr (by omega)
  have gm:∀z:List Int,z.length=x.2.2.1.length→2*z.getD i 0≤(i:Int)+1→(Option.bind (Option.bind (qaF x (i:Int)) fun r15=>Option.bind (qaK r r15) fun r16=>some ((r16.2.2.1,()),())) fun x27:((Int×Unit)×Unit) =>
      bif (x27.1.1 !=0) then some (z,x27.1.1) else req (inb (i:Int) z.length) (bif (decide ((getD' z (((i:Int)).toNat) 0)>20)) then some (z,2) else some (z,0)))=some (z,gErr r (wayM x.2.2.1 (i:Int))):=fun z hz h2=>by
    rw[hway,Option.bind_some,hrun,Option.bind_some,Option.bind_some,run_err];by_cases e:gErr r (wayM x.2.2.1 (i:Int))=0
    · simp only[e,bne_self_eq_false,cond_false];rw[inb_iff.2 ⟨by omega,by omega⟩,qb,Int.toNat_natCast,gdD,show decide (z.getD i 0>20)=false by simp only[decide_eq_false_iff_not];omega,cond_false]
    · simp only[bne_t e,cond_true]
  have hL2:=qY (x.2.2.1.take i) (fun d=>d.1==rpar x.2.2.1 i) (qfn x (i:Int) nd ((),(dp,())) r) (.inr ((dp.set i (dp.getD i 0+1)),gErr r (wayM x.2.2.1 (i:Int)))) (.inl ((),())) (fun k hk=>by
    unfold qfn;simp only[Int.toNat_natCast,List.drop_zero,n1,n2];rw[htl];simp only[show decide ((k:Int)<((i:Nat):Int))=true by simp;omega,cond_true];rw[qso _ _ hk,Option.bind_some,(tk k hk).1];rw[qf (n:=(k:Int)+1) (by omega) (by omega)];cases e1:(rpar x.2.2.1 k==rpar x.2.2.1 i)
    · rfl
    · have hs:sibB x.2.2.1 i=true:=by
        unfold sibB;rw[List.any_eq_true];exact⟨k,List.mem_range.2 (by omega),e1⟩
      have hgap:=sib_gap hd hs;have hq:=hdp2.1.all i hi;have hq2:=hdp2.2;have hdl2:=hdp2.1.len;simp only[cond_true,show decide ((k:Int)≥0)=true by simp];rw[inb_iff.2 ⟨by omega,by omega⟩,qb,qb,Option.bind_some];simp only[agree_self];have:=gm (dp.set i (dp.getD i 0+1)) (by rw[List.length_set];exact hdl2) (by rw[setD _ _ _ _ (by omega),if_pos rfl];omega);simp only[Int.toNat_natCast] at this;rw[gdD,qf (by omega) (by omega),this]
      rfl) (by
    unfold qfn;simp only[Int.toNat_natCast,List.drop_zero];rw[htl]
    simp)
  rw[hL2,anyS,Option.bind_some];have hq:=hdp2.1.all i hi;have hq2:=hdp2.2;have hdl2:=hdp2.1.len;cases hsb:sibB x.2.2.1 i
  · simp only[cond_false,Sum.elim_inl,agree_self];exact⟨dp,gm dp hdl2 (by omega),fun _=>hdp2.1⟩
  · have hgap:=sib_gap hd hsb;simp only[cond_true,Sum.elim_inr];refine⟨_,rfl,fun _=>⟨by rw[List.length_set];exact hdl2,fun j hj=>?_,fun j hj=>?_⟩⟩
    · rw[setD _ _ _ _ (by omega)];by_cases e:i=j
      · rw[if_pos e];omega
      · rw[if_neg e];exact hdp2.1.all j hj
    · rw[setD _ _ _ _ (by omega),if_neg (by omega)];exact hdp2.1.zero j hj
theorem scan_nz (e:Nat→Int) (i k:Nat):scan (fun i=>nz (e i)) 0 i (k+1)=if e i=0 then scan (fun i=>nz (e i)) 0 (i+1) k else e i:=by
  by_cases h:e i=0
  · rw[if_pos h]
    conv=>lhs;unfold scan
    simp only[nz,if_pos h]
  · rw[if_neg h]
    conv=>lhs;unfold scan
    simp only[nz,if_neg h]
def recErr (r:Rules) (x:Rec):Int:=if qad r≠0 then qad r else if 10<x.1.length then 2 else if qcm (tErr x.1) x.1.length≠0 then qcm (tErr x.1) x.1.length else if x.2.2.2.1<0∨3<x.2.2.2.1 then 4 else if cErr x.2.1≠0 then cErr x.2.1 else qcm (nErr r x.2.2.1) x.2.2.1.length
theorem nErr_ord {r:Rules} {ns:List RNode} {i:Nat} (h:nErr r ns i=0):ordB ns i=true:=by
  unfold nErr at h;split at h
  · contradiction
  · cases e:ordB ns i
    · rw[e,if_pos rfl] at h;cases h
    · rfl
theorem qx0 {r:Rules} (hr:Rng qbL r) (x:Rec) (hx:Rng tyRec x) (h30:x.2.2.1.length≤30):∀(k i:Nat) (deep:List Int),i+k=x.2.2.1.length→Ord x.2.2.1 i→qxc x.2.2.1 deep i →
    Option.bind (iterW (qcI x r) (((i:Int),()),(deep,()))) (Sum.elim (fun _=>some 0) some)=some (scan (fun i=>nz (nErr r x.2.2.1 i)) 0 i k):=by
  intro k
  induction k with
  | zero =>
    intro i deep hi ho hD
    have:i=x.2.2.1.length:=by omega
    subst this;rw[qm (r := .inl ((),(deep,()))) (by unfold qcI;simp)];rfl
  | succ k ih =>
    intro i deep hi ho hD;obtain⟨deep',h1,h2⟩:=node_spec hr x hx h30 (i:=i) (by omega) ho hD;have hs:=scan_nz (nErr r x.2.2.1) i k;rw[hs];by_cases e:nErr r x.2.2.1 i=0
    · rw[if_pos e,qo (y:=((((i+1:Nat):Int),()),(deep',())))]
      · exact ih (i+1) deep' (by omega) (ho.step (nErr_ord e)) (h2 e)
      · unfold qcI;simp only[show decide ((i:Int)<((x.2.2.1.length:Nat):Int))=true by simp;omega,cond_true];rw[h1,Option.bind_some];simp only[e,bne_self_eq_false,cond_false];rw[qf (by omega) (by omega)];rfl
    · rw[if_neg e,qm (r := .inr (nErr r x.2.2.1 i))]
      · rfl
      · unfold qcI;simp only[show decide ((i:Int)<((x.2.2.1.length:Nat):Int))=true by simp;omega,cond_true];rw[h1,Option.bind_some];simp only[bne_t e,cond_true]
theorem qwI {r:Rules} (hr:Rng qbL r) (x:Rec) (hx:Rng tyRec x) (h30:x.2.2.1.length≤30):qih r x=some (recErr r x):=by
  unfold qih recErr;rw[qn3 r hr,Option.bind_some];by_cases c:qad r=0
  rotate_left
  · rw[bne_t c,cond_true,if_pos c]
  rw[bne_f c,cond_false,if_neg (fun h=>h c)];rw[show decide (((x.2.2.1.length:Nat):Int)>200)=false by simp only[decide_eq_false_iff_not];omega,Bool.or_false];by_cases c1:10<x.1.length
  · rw[if_pos c1,show decide (((x.1.length:Nat):Int)>10)=true by simp only[decide_eq_true_eq];omega];rfl
  rw[if_neg c1,show decide (((x.1.length:Nat):Int)>10)=false by simp only[decide_eq_false_iff_not];omega,cond_false,tags_spec x hx,Option.bind_some];by_cases c2:qcm (tErr x.1) x.1.length=0
  rotate_left
  · rw[bne_t c2,cond_true,if_pos c2]
  rw[bne_f c2,cond_false,if_neg (fun h=>h c2)];by_cases c3:x.2.2.2.1<0∨3<x.2.2.2.1
  · rw[if_pos c3,show(decide (x.2.2.2.1<0)||decide (x.2.2.2.1>3))=true by simp only[Bool.or_eq_true,decide_eq_true_eq];omega];rfl
  rw[if_neg c3,show(decide (x.2.2.2.1<0)||decide (x.2.2.2.1>3))=false by simp only[Bool.or_eq_false_iff,decide_eq_false_iff_not];omega,cond_false];rw[qoV _ hx.2.1,Option.bind_some];by_cases c4:cErr x.2.1=0
  rotate_left
  · rw[bne_t c4,cond_true,if_pos c4]
  rw[bne_f c4,cond_false,if_neg (fun h=>h c4)]
  rw[show(decide (0≤((x.2.2.1.length:Nat):Int))&&((((x.2.2.1.length:Nat):Int)==((x.2.2.1.length:Nat):Int))&&room (((x.2.2.1.length:Nat):Int)).toNat 8))=true by
    rw[beq_self_eq_true,qS (by omega)];simp,qb]
  exact qx0 hr x hx h30 x.2.2.1.length 0 _ (by omega) (fun i hi=>by omega) ⟨by simp,fun j hj=>by simp[List.getD_eq_getElem?_getD,hj];omega,fun j _=>by
    rw[List.getD_eq_getElem?_getD,List.getElem?_replicate]
    split<;>rfl⟩

def kidsI (ns:List RNode) (p:Int):List Int:=(List.range ns.length).flatMap fun (k:Nat)=>bif rpar ns k==p then [(k:Int)] else []
theorem qu8 (x:Rec) (p:Int) (h30:x.2.2.1.length≤1000):qft x p=some (kidsI x.2.2.1 p):=by
  unfold qft kidsI
  have:=qhQ x.2.2.1.length 1 (qfa x p) (fun k=>bif rpar x.2.2.1 k==p then [(k:Int)] else []) (fun a=>((a,()),())) [] (fun k _=>by
    cases (rpar x.2.2.1 k==p)
    · exact Nat.zero_le _
    · exact Nat.le_refl _) (fun i hi a ha=>by
    simp only[List.length_nil] at ha;unfold qfa;simp only[show decide ((i:Int)<((x.2.2.1.length:Nat):Int))=true by simp;omega,cond_true];rw[qso _ _ hi,Option.bind_some,(qqe hi).1,qf (n:=(i:Int)+1) (by omega) (by omega)];cases (rpar x.2.2.1 i==p)
    · simp only[cond_false,Option.bind_some,List.append_nil]
    · simp only[cond_true];rw[qS (by simp only[List.length_cons,List.length_nil];omega),qb]
      rfl) (fun a=>by unfold qfa;simp)
  rw[this];rfl

theorem step_0 {r:Rules} {s:List Place×List Mv} {m:Mv} (c:stepG r s m=0):qae r s.1=0∧qI r (lastP s.1) m=true:=by
  unfold stepG at c;split at c
  · rename_i h1;split at c
    · rename_i h2;exact⟨h1,h2⟩
    · cases c
  · cases c
theorem gd_app2 (l:List Place) (q:Place):getD' (l++[q]) l.length dP=q:=by simp[getD']

abbrev CRule:=List (Int×Int×Unit)×Int×Int×Unit
abbrev Clk:=(Int×Int×Unit)×(Int×Int×Unit)×(Int×Int×Unit)×Int×Int×Bool×Int×Unit
def dPer:Int×Int×Unit:=(0,(0,()))
theorem qtJ {A:Type} (l:List A) (i:Nat) (d:A) (h:i<l.length):l.getD i d=l[i]:=by simp[List.getD_eq_getElem?_getD,h]
theorem qqp {A:Type} (xs:List A) (i:Nat) (h:i<xs.length):at? xs (i:Int)=some xs[i]:=by
  rw[at?_eq xs _ (Int.natCast_nonneg i) (Int.ofNat_lt.2 h)];simp only[Int.toNat_natCast]
theorem qd0 (n low high:Int):qh n low high=true↔low≤n∧n≤high:=by
  unfold qh;simp only[ge_iff_le,Bool.and_eq_true,decide_eq_true_eq]
def qwQ (cr:CRule) (i:Nat):Int:=if (!(qh (cr.1.getD i dPer).1 0 400) || !(qh (cr.1.getD i dPer).2.1 1 100000000))=true then 4 else if (!(((cr.1.getD i dPer).1==0)==((i:Int)==((cr.1.length:Nat):Int)-1)))=true then 3 else 0
def chkC (cr:CRule):Int:=if (!(qh ((cr.1.length:Nat):Int) 1 5))=true then 2 else if (!(qh cr.2.1 0 100000000) || !(qh cr.2.2.1 0 100000000))=true then 4 else qcm (qwQ cr) cr.1.length
theorem qp5 (cr:CRule) (hl:cr.1.length≤9223372036854775807):qhI cr=some (chkC cr):=by
  unfold qhI chkC
  cases (!(qh ((cr.1.length:Nat):Int) 1 5)) with
  | true=>rfl
  | false =>
  cases (!(qh cr.2.1 0 100000000) || !(qh cr.2.2.1 0 100000000)) with
  | true=>rfl
  | false =>
    simp only[cond_false,Bool.false_eq_true,if_false];rw[qut cr.1.length (qfm cr) (qwQ cr) ((),()) (some 0) (fun i hi=>?_) (by unfold qfm;simp)]
    · split
      · rename_i h;rw[h]
      · rfl
    · unfold qfm qwQ;simp only[ltd cr.1 i hi,cond_true];rw[qqp cr.1 i hi,Option.bind_some,qtJ cr.1 i dPer hi,qf (n:=(i:Int)+1) (by omega) (by omega),qf (n:=((cr.1.length:Nat):Int)-1) (by omega) (by omega)]
      cases (!(qh cr.1[i].1 0 400) || !(qh cr.1[i].2.1 1 100000000)) with
      | true=>simp
      | false =>
        simp only[cond_false,Bool.false_eq_true,if_false]
        cases (!((cr.1[i].1==0)==((i:Int)==((cr.1.length:Nat):Int)-1))) with
        | true=>simp
        | false=>simp
structure CROK (cr:CRule):Prop where
  len:1≤cr.1.length∧cr.1.length≤5
  inc:0≤cr.2.1∧cr.2.1≤100000000
  del:0≤cr.2.2.1∧cr.2.2.1≤100000000
  per:∀i (hi:i<cr.1.length),(0≤cr.1[i].1∧cr.1[i].1≤400)∧(1≤cr.1[i].2.1∧cr.1[i].2.1≤100000000)∧(cr.1[i].1=0↔i+1=cr.1.length)
theorem qlF {cr:CRule} (h:chkC cr=0):CROK cr:=by
  unfold chkC at h;split at h
  · cases h
  · rename_i h1;split at h
    · cases h
    · rename_i h2;simp only[Bool.or_eq_true,Bool.not_eq_true',not_or,Bool.not_eq_false,qd0] at h1 h2;refine⟨by omega,h2.1,h2.2,fun i hi=>?_⟩;have h3:=qgu h i hi;unfold qwQ at h3;rw[qtJ cr.1 i dPer hi] at h3;split at h3
      · cases h3
      · rename_i h4;split at h3
        · cases h3
        · rename_i h5;simp only[Bool.or_eq_true,Bool.not_eq_true',not_or,Bool.not_eq_false,qd0] at h4;refine⟨h4.1,h4.2,?_⟩;simp only[Bool.not_eq_true',Bool.not_eq_false,beq_iff_eq] at h5;by_cases c:cr.1[i].1=0
          · rw[beq_t c] at h5;have:=(beq_iff_eq.1 h5.symm)
            constructor<;>intro _<;>omega
          · rw[beq_f c] at h5;have h6:=beq_eq_false_iff_ne.1 h5.symm;constructor
            · intro e;exact absurd e c
            · intro e;exact absurd (by omega) h6
structure VC (cr:CRule) (c:Clk):Prop where
  turn:0≤c.2.2.2.1∧c.2.2.2.1≤1
  fallen : -1≤c.2.2.2.2.2.2.1∧c.2.2.2.2.2.2.1≤1
  since:0≤c.2.2.2.2.1∧c.2.2.2.2.1≤100000000
  p0:0≤c.2.2.1.1∧c.2.2.1.1≤((cr.1.length:Nat):Int)-1
  p1:0≤c.2.2.1.2.1∧c.2.2.1.2.1≤((cr.1.length:Nat):Int)-1
  m0:0≤c.2.1.1∧c.2.1.1≤400
  m1:0≤c.2.1.2.1∧c.2.1.2.1≤400
  l0:0≤c.1.1∧c.1.1≤100000000000
  l1:0≤c.1.2.1∧c.1.2.1≤100000000000
def vcB (cr:CRule) (c:Clk):Bool:=((((((((qh c.2.2.2.1 0 1&&qh c.2.2.2.2.2.2.1 (-1) 1)&&qh c.2.2.2.2.1 0 100000000)&&qh c.2.2.1.1 0 (((cr.1.length:Nat):Int)-1))&&qh c.2.1.1 0 400)&&qh c.1.1 0 100000000000)&&qh c.2.2.1.2.1 0 (((cr.1.length:Nat):Int)-1))&&qh c.2.1.2.1 0 400)&&qh c.1.2.1 0 100000000000)
theorem qtm (cr:CRule) (c:Clk):vcB cr c=true↔VC cr c:=by
  unfold vcB;simp only[Bool.and_eq_true,qd0];constructor
  · rintro ⟨⟨⟨⟨⟨⟨⟨⟨h1,h2⟩,h3⟩,h4⟩,h5⟩,h6⟩,h7⟩,h8⟩,h9⟩
    exact⟨h1,h2,h3,h4,h7,h5,h8,h6,h9⟩
  · rintro ⟨h1,h2,h3,h4,h7,h5,h8,h6,h9⟩
    exact⟨⟨⟨⟨⟨⟨⟨⟨h1,h2⟩,h3⟩,h4⟩,h5⟩,h6⟩,h7⟩,h8⟩,h9⟩
theorem qib (cr:CRule) (c:Clk) (hl:cr.1.length≤9223372036854775807):qkr cr c=some (if chkC cr=0 then if vcB cr c=true then 0 else 4 else chkC cr):=by
  unfold qkr;rw[qp5 cr hl,Option.bind_some];by_cases c0:chkC cr=0
  · rw[bne_f c0,cond_false,if_pos c0];have hw:=qf (n:=((cr.1.length:Nat):Int)-1) (by omega) (by omega);have s0:∀b:Bool,qcw c cr ((b,(0:Int),()),())=some (.inl ((((b&&qh c.2.2.1.1 0 (((cr.1.length:Nat):Int)-1))&&qh c.2.1.1 0 400)&&qh c.1.1 0 100000000000,(1:Int),()),())):=fun b=>by
      unfold qcw;simp only[hw,imp,show decide ((0:Int)<2)=true from rfl,cond_true,show inb (0:Int) 2=true from rfl];simp only[Bool.cond_self,qb];rfl
    have s1:∀b:Bool,qcw c cr ((b,(1:Int),()),())=some (.inl ((((b&&qh c.2.2.1.2.1 0 (((cr.1.length:Nat):Int)-1))&&qh c.2.1.2.1 0 400)&&qh c.1.2.1 0 100000000000,(2:Int),()),())):=fun b=>by
      unfold qcw;simp only[hw,imp,show decide ((1:Int)<2)=true from rfl,cond_true,show inb (1:Int) 2=true from rfl];simp only[Bool.cond_self,qb];rfl
    have s2:∀b:Bool,qcw c cr ((b,(2:Int),()),())=some (.inr ((b,()),())):=fun b=>rfl;rw[qo (s0 _),qo (s1 _),qm (s2 _),Option.bind_some];show(bif !vcB cr c then some (4:Int) else some 0)=_
    cases vcB cr c<;>rfl
  · rw[bne_t c0,cond_true,if_neg c0]
theorem qwy (cr:CRule) (c:Clk) (now:Int) (h1 : -1000000000≤now-c.2.2.2.2.1) (h2:now-c.2.2.2.2.1≤1000000000) (hd:0≤cr.2.2.1∧cr.2.2.1≤100000000):qz cr c now=bif c.2.2.2.2.2.1 then 0 else max 0 (now-c.2.2.2.2.1-cr.2.2.1):=by
  unfold qz;rw[qf (n:=now-c.2.2.2.2.1) (by omega) (by omega),qf (by omega) (by omega)];cases c.2.2.2.2.2.1
  · simp only[cond_false]
    split<;>omega
  · rfl
def leftT (c:Clk):Int:=if c.2.2.2.1=0 then c.1.1 else c.1.2.1
theorem look_some (cr:CRule) (c:Clk) (now:Int) (hl:cr.1.length≤9223372036854775807):∃c' e,qbd cr c now=some (c',e,())∧(e=0∨c'.2.2.2.2.2.2.1=0):=by
  unfold qbd;rw[qib cr c hl,Option.bind_some];by_cases c0:chkC cr=0
  · rw[if_pos c0];by_cases cv:vcB cr c=true
    · rw[if_pos cv,show((0:Int)!=0)=false from rfl,cond_false];have hv:=(qtm cr c).1 cv
      cases (!(qh now c.2.2.2.2.1 100000000)) with
      | true=>exact⟨_,_,rfl,.inr rfl⟩
      | false =>
        rw[cond_false];have hi:inb c.2.2.2.1 2=true:=inb_iff.2 ⟨hv.turn.1,by have:=hv.turn.2;omega⟩
        rw[hi,show imp (decide (c.2.2.2.2.2.2.1<0)) true=true by unfold imp;cases decide (c.2.2.2.2.2.2.1<0)<;>rfl,qb,qb]
        cases (decide (c.2.2.2.2.2.2.1<0)&&decide (qz cr c now>getD' [c.1.1,c.1.2.1] (c.2.2.2.1).toNat 0)) with
        | true=>exact⟨_,_,rfl,.inl rfl⟩
        | false=>exact⟨_,_,rfl,.inl rfl⟩
    · rw[if_neg cv];exact⟨_,_,rfl,.inr rfl⟩
  · rw[if_neg c0,bne_t c0,cond_true];exact⟨_,_,rfl,.inr rfl⟩
structure GoodC (cr:CRule) (c:Clk) (now:Int):Prop where
  ok:chkC cr=0
  v:VC cr c
  now0:c.2.2.2.2.1≤now
  now1:now≤100000000
  up:c.2.2.2.2.2.2.1 = -1
  run:c.2.2.2.2.2.1=false
  used:max 0 (now-c.2.2.2.2.1-cr.2.2.1)≤leftT c
theorem left_eq {cr:CRule} {c:Clk} (hv:VC cr c):getD' [c.1.1,c.1.2.1] (c.2.2.2.1).toNat 0=leftT c:=by
  have h:=hv.turn;unfold leftT;by_cases h0:c.2.2.2.1=0
  · rw[if_pos h0,h0];rfl
  · rw[if_neg h0,show c.2.2.2.1=1 by omega];rfl
theorem quf {cr:CRule} {c:Clk} {now:Int} (hl:cr.1.length≤9223372036854775807) (h:GoodC cr c now):qbd cr c now=some (c,0,()):=by
  unfold qbd;have hcr:=qlF h.ok;have hs:=h.v.since;have h0:=h.now0;have h1:=h.now1;rw[qib cr c hl,Option.bind_some,if_pos h.ok,if_pos ((qtm cr c).2 h.v),show((0:Int)!=0)=false from rfl,cond_false,(qd0 now _ _).2 ⟨h0,h1⟩,Bool.not_true,cond_false];have hi:inb c.2.2.2.1 2=true:=inb_iff.2 ⟨h.v.turn.1,by have:=h.v.turn.2;omega⟩
  rw[hi,show imp (decide (c.2.2.2.2.2.2.1<0)) true=true by unfold imp;cases decide (c.2.2.2.2.2.2.1<0)<;>rfl,qb,qb,left_eq h.v,qwy cr c now (by omega) (by omega) hcr.del,h.run,cond_false]
  have hu:=h.used;rw[show decide (max 0 (now-c.2.2.2.2.1-cr.2.2.1)>leftT c)=false by rw[decide_eq_false_iff_not];omega,Bool.and_false,cond_false,Option.bind_some]
theorem good_of {cr:CRule} {c c':Clk} {now e:Int} (hl:cr.1.length≤9223372036854775807) (h:qbd cr c now=some (c',e,())) (hf:c'.2.2.2.2.2.2.1<0) (hr:c.2.2.2.2.2.1=false):GoodC cr c now:=by
  unfold qbd at h;rw[qib cr c hl,Option.bind_some] at h;by_cases c0:chkC cr=0
  · rw[if_pos c0] at h;by_cases cv:vcB cr c=true
    · rw[if_pos cv,show((0:Int)!=0)=false from rfl,cond_false] at h;have hv:=(qtm cr c).1 cv;have hs:=hv.since;have hcr:=qlF c0
      cases hw:qh now c.2.2.2.2.1 100000000 with
      | false =>
        rw[hw,Bool.not_false,cond_true] at h;cases h;exact absurd hf (by decide)
      | true =>
        obtain⟨w0,w1⟩:=(qd0 _ _ _).1 hw;rw[hw,Bool.not_true,cond_false] at h;have hi:inb c.2.2.2.1 2=true:=inb_iff.2 ⟨hv.turn.1,by have:=hv.turn.2;omega⟩
        rw[hi,show imp (decide (c.2.2.2.2.2.2.1<0)) true=true by unfold imp;cases decide (c.2.2.2.2.2.2.1<0)<;>rfl,qb,qb,left_eq hv,qwy cr c now (by omega) (by omega) hcr.del,hr,cond_false] at h
        by_cases hc:c.2.2.2.2.2.2.1<0
        · by_cases hu:max 0 (now-c.2.2.2.2.1-cr.2.2.1)>leftT c
          · rw[decide_eq_true hc,decide_eq_true hu,Bool.and_self,cond_true,Option.bind_some] at h;cases h;have:c.2.2.2.1<0:=hf;have:=hv.turn.1;omega
          · exact⟨c0,hv,w0,w1,by have:=hv.fallen.1;omega,hr,by omega⟩
        · rw[decide_eq_false hc,Bool.false_and,cond_false,Option.bind_some] at h;cases h;exact absurd hf hc
    · rw[if_neg cv] at h;cases h;exact absurd hf (by decide)
  · rw[if_neg c0,bne_t c0,cond_true] at h;cases h;exact absurd hf (by decide)
theorem qyl {cr:CRule} {c:Clk} {now:Int} (hl:cr.1.length≤9223372036854775807) (h:GoodC cr c now):qko cr c now false=some (c,0,()):=by
  unfold qko;rw[quf hl h,Option.bind_some];simp only[show((0:Int)!=0)=false from rfl,cond_false,h.up,show decide ((-1:Int)≥0)=false from rfl,h.run,show(!(false==false))=false from rfl]
def perAt (cr:CRule) (k:Int):Int×Int×Unit:=cr.1.getD k.toNat dPer
def qg5 (cr:CRule) (c:Clk) (now:Int):Clk :=
  if c.2.2.2.1=0 then
    let L:=min 100000000000 (c.1.1-max 0 (now-c.2.2.2.2.1-cr.2.2.1)+cr.2.1)
    let M:=min 400 (c.2.1.1+1)
    if 0<(perAt cr c.2.2.1.1).1∧(perAt cr c.2.2.1.1).1≤M then((min 100000000000 (L+(perAt cr (c.2.2.1.1+1)).2.1),(c.1.2.1,())),((0,(c.2.1.2.1,())),((c.2.2.1.1+1,(c.2.2.1.2.1,())),(1,(now,(false,(-1,())))))))
    else((L,(c.1.2.1,())),((M,(c.2.1.2.1,())),((c.2.2.1.1,(c.2.2.1.2.1,())),(1,(now,(false,(-1,())))))))
  else
    let L:=min 100000000000 (c.1.2.1-max 0 (now-c.2.2.2.2.1-cr.2.2.1)+cr.2.1)
    let M:=min 400 (c.2.1.2.1+1)
    if 0<(perAt cr c.2.2.1.2.1).1∧(perAt cr c.2.2.1.2.1).1≤M then((c.1.1,(min 100000000000 (L+(perAt cr (c.2.2.1.2.1+1)).2.1),())),((c.2.1.1,(0,())),((c.2.2.1.1,(c.2.2.1.2.1+1,())),(0,(now,(false,(-1,())))))))
    else((c.1.1,(L,())),((c.2.1.1,(M,())),((c.2.2.1.1,(c.2.2.1.2.1,())),(0,(now,(false,(-1,())))))))
theorem qll {cr:CRule} (hcr:CROK cr) {k:Int} (h0:0≤k) (h1:k≤((cr.1.length:Nat):Int)-1):at? cr.1 k=some (perAt cr k)∧(0≤(perAt cr k).1∧(perAt cr k).1≤400)∧(1≤(perAt cr k).2.1∧(perAt cr k).2.1≤100000000)∧(0<(perAt cr k).1→k+1≤((cr.1.length:Nat):Int)-1):=by
  obtain⟨n,rfl⟩:∃n:Nat,k=(n:Int):=⟨k.toNat,by omega⟩
  have hn:n<cr.1.length:=by omega
  have e:perAt cr (n:Int)=cr.1[n]:=by unfold perAt;rw[Int.toNat_natCast,qtJ cr.1 n dPer hn]
  rw[qqp cr.1 n hn,e];obtain⟨p1,p2,p3⟩:=hcr.per n hn;refine⟨rfl,p1,p2,fun h=>?_⟩
  have:¬(n+1=cr.1.length):=fun q=>by rw[p3.2 q] at h;omega
  omega
theorem min_if (a b:Int):(if a<b then a else b)=min a b:=by omega
theorem left_nn {cr:CRule} {c:Clk} (hv:VC cr c):0≤leftT c:=by
  unfold leftT;have h0:=hv.l0;have h1:=hv.l1
  split<;>omega
theorem qsc {cr:CRule} {c:Clk} {now:Int} (hl:cr.1.length≤9223372036854775807) (h:GoodC cr c now):qkl cr c now=some (qg5 cr c now,0,())∧GoodC cr (qg5 cr c now) now∧(qg5 cr c now).2.2.2.1=1-c.2.2.2.1∧(qg5 cr c now).2.2.2.2.1=now:=by
  have hcr:=qlF h.ok;have hv:=h.v;have hs:=hv.since;have n0:=h.now0;have n1:=h.now1;have hi:=hcr.inc;have hd:=hcr.del;have hu:=h.used;have hlen:=hcr.len;have f1:GoodC cr (qg5 cr c now) now∧(qg5 cr c now).2.2.2.1=1-c.2.2.2.1∧(qg5 cr c now).2.2.2.2.1=now:=by
    have ht:=hv.turn;have a0:=hv.l0;have a1:=hv.l1;have b0:=hv.m0;have b1:=hv.m1;have c0:=hv.p0;have c1:=hv.p1;unfold leftT at hu;unfold qg5;by_cases t0:c.2.2.2.1=0
    · rw[if_pos t0] at hu ⊢;obtain⟨_,q1,q2,q3⟩:=qll hcr hv.p0.1 hv.p0.2;by_cases hm:0<(perAt cr c.2.2.1.1).1∧(perAt cr c.2.2.1.1).1≤min 400 (c.2.1.1+1)
      · rw[if_pos hm];have hq:=q3 hm.1;obtain⟨_,r1,r2,r3⟩:=qll hcr (k:=c.2.2.1.1+1) (by omega) (by omega);refine⟨⟨h.ok,⟨?_,?_,?_,?_,?_,?_,?_,?_,?_⟩,?_,n1,rfl,rfl,?_⟩,?_,rfl⟩
        all_goals try (unfold leftT)
        all_goals simp only
        all_goals omega
      · rw[if_neg hm];refine⟨⟨h.ok,⟨?_,?_,?_,?_,?_,?_,?_,?_,?_⟩,?_,n1,rfl,rfl,?_⟩,?_,rfl⟩
        all_goals try (unfold leftT)
        all_goals simp only
        all_goals omega
    · rw[if_neg t0] at hu ⊢;obtain⟨_,q1,q2,q3⟩:=qll hcr hv.p1.1 hv.p1.2;by_cases hm:0<(perAt cr c.2.2.1.2.1).1∧(perAt cr c.2.2.1.2.1).1≤min 400 (c.2.1.2.1+1)
      · rw[if_pos hm];have hq:=q3 hm.1;obtain⟨_,r1,r2,r3⟩:=qll hcr (k:=c.2.2.1.2.1+1) (by omega) (by omega);refine⟨⟨h.ok,⟨?_,?_,?_,?_,?_,?_,?_,?_,?_⟩,?_,n1,rfl,rfl,?_⟩,?_,rfl⟩
        all_goals try (unfold leftT)
        all_goals simp only
        all_goals omega
      · rw[if_neg hm];refine⟨⟨h.ok,⟨?_,?_,?_,?_,?_,?_,?_,?_,?_⟩,?_,n1,rfl,rfl,?_⟩,?_,rfl⟩
        all_goals try (unfold leftT)
        all_goals simp only
        all_goals omega
  refine⟨?_,f1⟩;unfold qkl;rw[qyl hl h,Option.bind_some];simp only[show((0:Int)!=0)=false from rfl,cond_false,qwy cr c now (by omega) (by omega) hd,h.run];obtain⟨⟨l0,l1,u1⟩,⟨m0,m1,u2⟩,⟨p0,p1,u3⟩,turn,since,stopped,fallen,u4⟩:=c;have ht:=hv.turn;have a0:=hv.l0;have a1:=hv.l1;have b0:=hv.m0;have b1:=hv.m1;have c0:=hv.p0;have c1:=hv.p1;have hup:=h.up;have hrun:=h.run;unfold leftT at hu;simp only at ht a0 a1 b0 b1 c0 c1 hup hrun hs n0 hu;by_cases t0:turn=0
  · subst t0;rw[if_pos rfl] at hu;obtain⟨q0,q1,q2,q3⟩:=qll hcr c0.1 c0.2
    have e1:w64 (w64 (l0-max 0 (now-since-cr.2.2.1))+cr.2.1)=l0-max 0 (now-since-cr.2.2.1)+cr.2.1:=by rw[qf (n:=l0-max 0 (now-since-cr.2.2.1)) (by omega) (by omega),qf (by omega) (by omega)]
    have e2:w64 (m0+1)=m0+1:=qf (by omega) (by omega);have e3:w64 (p0+1)=p0+1:=qf (by omega) (by omega);have g0:∀a b:Int,getD' [a,b] (0:Int).toNat 0=a:=fun a b=>rfl;have i0:inb (0:Int) 2=true:=rfl;have b00:((0:Int)==0)=true:=rfl;have b01:((0:Int)==1)=false:=rfl
    have him:∀b:Bool,imp b true=true:=fun b=>by cases b<;>rfl
    simp only[g0,i0,b00,b01,cond_true,cond_false,qb,q0,Option.bind_some,e1,e2,e3,min_if,him];unfold qg5;simp only[if_true];by_cases hm:0<(perAt cr p0).1∧(perAt cr p0).1≤min 400 (m0+1)
    · have hq:=q3 hm.1;obtain⟨r0,r1,r2,r3⟩:=qll hcr (k:=p0+1) (by omega) (by omega)
      have hb:(decide ((perAt cr p0).1>0)&&decide (min 400 (m0+1)≥(perAt cr p0).1))=true:=by simp only[Bool.and_eq_true,decide_eq_true_eq];omega
      have e4:w64 (min 100000000000 (l0-max 0 (now-since-cr.2.2.1)+cr.2.1)+(perAt cr (p0+1)).2.1)=min 100000000000 (l0-max 0 (now-since-cr.2.2.1)+cr.2.1)+(perAt cr (p0+1)).2.1:=qf (by omega) (by omega);rw[if_pos hm];simp only[hb,cond_true,r0,Option.bind_some,e4];subst hup hrun;rfl
    · have hb:(decide ((perAt cr p0).1>0)&&decide (min 400 (m0+1)≥(perAt cr p0).1))=false:=by
        rw[Bool.eq_false_iff];intro q;simp only[Bool.and_eq_true,decide_eq_true_eq] at q;omega
      rw[if_neg hm];simp only[hb,cond_false,Option.bind_some];subst hup hrun;rfl
  · obtain rfl:turn=1:=by omega
    rw[if_neg t0] at hu;obtain⟨q0,q1,q2,q3⟩:=qll hcr c1.1 c1.2
    have e1:w64 (w64 (l1-max 0 (now-since-cr.2.2.1))+cr.2.1)=l1-max 0 (now-since-cr.2.2.1)+cr.2.1:=by rw[qf (n:=l1-max 0 (now-since-cr.2.2.1)) (by omega) (by omega),qf (by omega) (by omega)]
    have e2:w64 (m1+1)=m1+1:=qf (by omega) (by omega);have e3:w64 (p1+1)=p1+1:=qf (by omega) (by omega);have g0:∀a b:Int,getD' [a,b] (1:Int).toNat 0=b:=fun a b=>rfl;have i0:inb (1:Int) 2=true:=rfl;have b00:((1:Int)==0)=false:=rfl;have b01:((1:Int)==1)=true:=rfl
    have him:∀b:Bool,imp b true=true:=fun b=>by cases b<;>rfl
    simp only[g0,i0,b00,b01,cond_true,cond_false,qb,q0,Option.bind_some,e1,e2,e3,min_if,him];unfold qg5;simp only[show((1:Int)=0)=False from by simp,if_false];by_cases hm:0<(perAt cr p1).1∧(perAt cr p1).1≤min 400 (m1+1)
    · have hq:=q3 hm.1;obtain⟨r0,r1,r2,r3⟩:=qll hcr (k:=p1+1) (by omega) (by omega)
      have hb:(decide ((perAt cr p1).1>0)&&decide (min 400 (m1+1)≥(perAt cr p1).1))=true:=by simp only[Bool.and_eq_true,decide_eq_true_eq];omega
      have e4:w64 (min 100000000000 (l1-max 0 (now-since-cr.2.2.1)+cr.2.1)+(perAt cr (p1+1)).2.1)=min 100000000000 (l1-max 0 (now-since-cr.2.2.1)+cr.2.1)+(perAt cr (p1+1)).2.1:=qf (by omega) (by omega);rw[if_pos hm];simp only[hb,cond_true,r0,Option.bind_some,e4];subst hup hrun;rfl
    · have hb:(decide ((perAt cr p1).1>0)&&decide (min 400 (m1+1)≥(perAt cr p1).1))=false:=by
        rw[Bool.eq_false_iff];intro q;simp only[Bool.and_eq_true,decide_eq_true_eq] at q;omega
      rw[if_neg hm];simp only[hb,cond_false,Option.bind_some];subst hup hrun;rfl

abbrev Offs:=(Int×Int×Unit)×((Int×Int×Unit)×(Int×Int×Unit)×Unit)×Unit
def offL (p:Int×Int×Unit):Bool:=(decide (p.1 < -1)||decide (p.1>400))||(decide (p.2.1 < -1)||decide (p.2.1>400))
theorem ocheckL2 (p:Int×Int×Unit):iterW (qcs ((p,(0:Int),()),())) (((0:Int),()),())=some (bif offL p then .inr (.inr (.inr (.inr 4))) else .inl ((),())):=by
  have s0:qcs ((p,(0:Int),()),()) (((0:Int),()),())=bif (decide (p.1 < -1)||decide (p.1>400)) then some (.inr (.inr (.inr (.inr (.inr 4))))) else some (.inl (((1:Int),()),())):=rfl;have s1:qcs ((p,(0:Int),()),()) (((1:Int),()),())=bif (decide (p.2.1 < -1)||decide (p.2.1>400)) then some (.inr (.inr (.inr (.inr (.inr 4))))) else some (.inl (((2:Int),()),())):=rfl;have s2:qcs ((p,(0:Int),()),()) (((2:Int),()),())=some (.inr (.inl ((),()))):=rfl;unfold offL;cases h0:(decide (p.1 < -1)||decide (p.1>400))
  · rw[h0,cond_false] at s0;rw[qo s0];cases h1:(decide (p.2.1 < -1)||decide (p.2.1>400))
    · rw[h1,cond_false] at s1;rw[qo s1,qm s2];rfl
    · rw[h1,cond_true] at s1;rw[qm s1];rfl
  · rw[h0,cond_true] at s0;rw[qm s0];rfl
def offK (p:Int×Int×Unit) (b:Int):Int:=if offL p=true then 4 else if (decide (b < -1)||decide (b>1))=true then 4 else if b=0∧p.1 = -1∨b=1∧p.2.1 = -1 then 3 else 0
def offE (o:Offs):Int:=if offK o.2.1.1 o.1.1=0 then offK o.2.1.2.1 o.1.2.1 else offK o.2.1.1 o.1.1
theorem him (b:Bool):imp b true=true:=by cases b<;>rfl
theorem qwL (o:Offs):qka o=some (offE o):=by
  have step:∀(i:Int) (p:Int×Int×Unit) (b:Int),(i=0∧p=o.2.1.1∧b=o.1.1∨i=1∧p=o.2.1.2.1∧b=o.1.2.1)→qfc o ((i,()),())=some (if offK p b=0 then .inl ((i+1,()),()) else .inr (.inr (offK p b))):=by
    intro i p b h
    have e:qfc o ((i,()),())=(Option.bind (α:=((Unit)×(Unit)) ⊕ (((Int×Unit)×(Unit)) ⊕ (((Unit)×(Unit)) ⊕ Int))) (Option.bind (α:=((Unit)×(Unit)) ⊕ (((Unit)×(Unit)) ⊕ (((Int×Unit)×(Unit)) ⊕ (((Unit)×(Unit)) ⊕ Int)))) (iterW (qcs ((p,(0:Int),()),())) (((0:Int),()),())) (Sum.elim (fun x4 =>
        bif ((decide (b<(-1:Int)))||(decide (b>(1:Int)))) then some (Sum.inr (Sum.inr (Sum.inr (4:Int))))
        else Option.bind (req (imp (decide (b≥(0:Int))) true) (req (imp (decide (b≥(0:Int))) (inb b 2)) (some ((((decide (b≥(0:Int)))&&((getD' [p.1,p.2.1] (b.toNat) 0)==(-1:Int))),()),())))) fun x5:(Bool×Unit)×Unit =>
        bif x5.1.1 then some (Sum.inr (Sum.inr (Sum.inr (3:Int))))
        else some (Sum.inl ((),()))) some)) (Sum.elim (fun x6=>some (Sum.inl ((w64 (i+(1:Int)),()),()))) some)):=by
      rcases h with ⟨rfl,rfl,rfl⟩ | ⟨rfl,rfl,rfl⟩
      · rfl
      · rfl
    have hi:w64 (i+1)=i+1:=by rcases h with ⟨rfl,_⟩ | ⟨rfl,_⟩<;>rfl
    rw[e,ocheckL2,hi];unfold offK;cases hL:offL p
    · simp only[cond_false,Bool.false_eq_true,if_false,Option.bind_some,Sum.elim_inl];cases hb:(decide (b < -1)||decide (b>1))
      · simp only[cond_false,Bool.false_eq_true,if_false];simp only[Bool.or_eq_false_iff,decide_eq_false_iff_not] at hb;by_cases b0:b = -1
        · subst b0;rfl
        · by_cases b1:b=0
          · subst b1;have hg:getD' [p.1,p.2.1] ((0:Int).toNat) 0=p.1:=rfl;rw[hg];simp only[show decide ((0:Int)≥0)=true from rfl,show inb (0:Int) 2=true from rfl,him,qb,Option.bind_some,Bool.true_and];by_cases q:p.1 = -1
            · rw[beq_t q];simp[q]
            · rw[beq_f q];simp[q]
          · obtain rfl:b=1:=by omega
            have hg:getD' [p.1,p.2.1] ((1:Int).toNat) 0=p.2.1:=rfl;rw[hg];simp only[show decide ((1:Int)≥0)=true from rfl,show inb (1:Int) 2=true from rfl,him,qb,Option.bind_some,Bool.true_and];by_cases q:p.2.1 = -1
            · rw[beq_t q];simp[q]
            · rw[beq_f q];simp[q]
      · rfl
    · rfl
  unfold qka offE;have s0:=step 0 o.2.1.1 o.1.1 (.inl ⟨rfl,rfl,rfl⟩);have s1:=step 1 o.2.1.2.1 o.1.2.1 (.inr ⟨rfl,rfl,rfl⟩);have s2:qfc o (((2:Int),()),())=some (.inr (.inl ((),()))):=rfl;by_cases c0:offK o.2.1.1 o.1.1=0
  · rw[if_pos c0] at s0 ⊢;rw[qo s0];by_cases c1:offK o.2.1.2.1 o.1.2.1=0
    · rw[if_pos c1] at s1;rw[show(0:Int)+1=1 from rfl,qo s1,show(1:Int)+1=2 from rfl,qm s2,c1];rfl
    · rw[if_neg c1] at s1;rw[show(0:Int)+1=1 from rfl,qm s1];rfl
  · rw[if_neg c0] at s0 ⊢;rw[qm s0];rfl
def offEi (o:Offs) (kind player moves:Int):Int:=if offE o=0 then if (((((kind !=0)&&(kind !=1))||((player !=0)&&(player !=1)))||decide (moves<0))||decide (moves>400))=true then 1 else 0 else offE o
theorem qgP (o:Offs) (kind player moves:Int):qcc o kind player moves=some (offEi o kind player moves):=by
  unfold qcc offEi;rw[qwL,Option.bind_some];by_cases c:offE o=0
  · rw[bne_f c,cond_false,if_pos c]
    cases (((((kind !=0)&&(kind !=1))||((player !=0)&&(player !=1)))||decide (moves<0))||decide (moves>400))<;>rfl
  · rw[bne_t c,cond_true,if_neg c]
theorem offEi_0 {o:Offs} {kind player moves:Int} (h:offEi o kind player moves=0):(kind=0∨kind=1)∧(player=0∨player=1)∧0≤moves∧moves≤400:=by
  unfold offEi at h;by_cases c:offE o=0
  · rw[if_pos c] at h;split at h
    · cases h
    · rename_i q;simp only[Bool.or_eq_true,Bool.and_eq_true,bne_iff_ne,ne_eq,decide_eq_true_eq] at q;omega
  · rw[if_neg c] at h;exact absurd h c
theorem qyF (o:Offs) (player:Int):∃o' e,qhr o player=some (o',e,()):=by
  unfold qhr;rw[qgP,Option.bind_some];by_cases c:offEi o 0 player 0=0
  · rw[bne_f c,cond_false]
    cases (o.1.1==w64 (1-player))<;>exact⟨_,_,rfl⟩
  · rw[bne_t c,cond_true];exact⟨_,_,rfl⟩
theorem in2 {k:Int} (h:k=0∨k=1):inb k 2=true:=by rcases h with rfl | rfl<;>rfl
theorem qsz (o:Offs) (kind player moves:Int):∃e,qjK o kind player moves=some e∧(e=0→(kind=0∨kind=1)∧(player=0∨player=1)∧0≤moves∧moves≤400):=by
  unfold qjK;rw[qgP,Option.bind_some];by_cases c:offEi o kind player moves=0
  · have h:=offEi_0 c;rw[bne_f c,cond_false,in2 h.1,qb];cases (getD' [o.1.1,o.1.2.1] kind.toNat 0 !=w64 (1-player))
    · exact⟨0,rfl,fun _=>h⟩
    · exact⟨10,rfl,fun q=>(by cases q)⟩
  · rw[bne_t c,cond_true];exact⟨_,rfl,fun q=>absurd q c⟩
theorem qvE (o:Offs) (kind player moves:Int):∃o' e,qd1 o kind player moves=some (o',e,())∧(e=0→(kind=0∨kind=1)∧(player=0∨player=1)∧0≤moves∧moves≤400):=by
  unfold qd1;obtain⟨e,he,h⟩:=qsz o kind player moves;rw[he,Option.bind_some];by_cases c:e=0
  · rw[bne_f c,cond_false];exact⟨_,_,rfl,fun _=>h c⟩
  · rw[bne_t c,cond_true];exact⟨_,_,rfl,fun q=>absurd q c⟩
theorem qtp (o:Offs) (kind player moves:Int):∃o' e,qaS o kind player moves=some (o',e,()):=by
  unfold qaS;obtain⟨e,he,h⟩:=qsz o kind player moves;rw[he,Option.bind_some];by_cases c:e=0
  · rw[bne_f c,cond_false,in2 (h c).1,qb];exact⟨_,_,rfl⟩
  · rw[bne_t c,cond_true];exact⟨_,_,rfl⟩
def qiK (player moves:Int):Int:=if (if (if 0>moves then 0 else moves).tmod 2=player then(2:Int) else 1)>moves∨player≠0∧player≠1 then 0 else if (if 0>moves then 0 else moves).tmod 2=player then 2 else 1
theorem qsh (player moves:Int):qd8 player moves=some (qiK player moves):=by
  unfold qd8 qiK qji;by_cases c:(if (0:Int)>moves then 0 else moves).tmod 2=player
  · rw[beq_t c,cond_true,Option.bind_some,if_pos c];by_cases d:(2:Int)>moves∨player≠0∧player≠1
    · rw[if_pos d,show(decide ((2:Int)>moves)||((player !=0)&&(player !=1)))=true by simpa using d,cond_true]
    · rw[if_neg d,show(decide ((2:Int)>moves)||((player !=0)&&(player !=1)))=false by
        rw[Bool.eq_false_iff];intro q;exact d (by simpa using q),cond_false]
  · rw[beq_f c,cond_false,Option.bind_some,if_neg c];by_cases d:(1:Int)>moves∨player≠0∧player≠1
    · rw[if_pos d,show(decide ((1:Int)>moves)||((player !=0)&&(player !=1)))=true by simpa using d,cond_true]
    · rw[if_neg d,show(decide ((1:Int)>moves)||((player !=0)&&(player !=1)))=false by
        rw[Bool.eq_false_iff];intro q;exact d (by simpa using q),cond_false]
theorem qyw (o:Offs) (kind player moves:Int):∃o' e,qdy o kind player moves=some (o',e,()):=by
  unfold qdy;rw[qgP,Option.bind_some];by_cases c:offEi o kind player moves=0
  · obtain⟨hk,hp,_,_⟩:=offEi_0 c;have i1:=in2 hk;have i2:=in2 hp;rw[bne_f c,cond_false,i1,qb];cases decide (getD' [o.1.1,o.1.2.1] kind.toNat 0≥0)
    · rw[cond_false,i2];simp only[qb];have:∃b:Bool,(bif (kind==0) then some ((((getD' [o.2.1.1.1,o.2.1.1.2.1] player.toNat 0)==moves,()),()):(Bool×Unit)×Unit) else some ((((getD' [o.2.1.2.1.1,o.2.1.2.1.2.1] player.toNat 0)==moves,()),()):(Bool×Unit)×Unit))=some ((b,()),()):=by
        cases (kind==0)<;>exact⟨_,rfl⟩
      obtain⟨b,hb⟩:=this;rw[hb,Option.bind_some];cases b
      · rw[cond_false];have:∃n,gopt (kind==1) 0 (qd8 player moves)=some n:=by
          rw[qsh]
          cases (kind==1)<;>exact⟨_,rfl⟩
        obtain⟨n,hn⟩:=this;rw[hn,Option.bind_some];cases ((kind==1)&&(n==0))
        · rw[cond_false]
          cases (kind==0)<;>exact⟨_,_,rfl⟩
        · exact⟨_,_,rfl⟩
      · exact⟨_,_,rfl⟩
    · exact⟨_,_,rfl⟩
  · rw[bne_t c,cond_true];exact⟨_,_,rfl⟩
theorem qyt (o:Offs) (moves:Int):∃o' e,qfN o moves=some (o',e,()):=by
  unfold qfN;rw[qgP,Option.bind_some];by_cases c:offEi o 0 0 moves=0
  · rw[bne_f c,cond_false];have l2:∀(i:Int),(i=0∨i=1)→∀(y:Int×Int×Int×Int×Int×Int×Unit) (x4:((Int×Int×Unit)×Int×Unit)×Unit),∃z,iterW (qeH ((i,()),(y,())) moves x4) (((0:Int),()),(y,()))=some ((),(z,())):=by
      intro i hi y x4;have s:∀(j:Int),(j=0∨j=1)→∀y2,∃y3,qeH ((i,()),(y,())) moves x4 ((j,()),(y2,()))=some (.inl ((j+1,()),(y3,()))):=by
        intro j hj y2
        rcases hi with rfl | rfl<;>rcases hj with rfl | rfl<;>exact⟨_,rfl⟩
      obtain⟨y1,h1⟩:=s 0 (.inl rfl) y;obtain⟨y2,h2⟩:=s 1 (.inr rfl) y1;refine⟨y2,?_⟩;rw[qo h1,show(0:Int)+1=1 from rfl,qo h2,show(1:Int)+1=2 from rfl];exact qm rfl
    have l1:∀(i:Int),(i=0∨i=1)→∀y,∃z,qjN moves ((i,()),(y,()))=some (.inl ((i+1,()),(z,()))):=by
      intro i hi y;rcases hi with rfl | rfl
      · obtain⟨z,hz⟩:=l2 0 (.inl rfl) y ((((y.2.2.1,(y.2.2.2.1,())),(0:Int),())),());refine⟨z,?_⟩;show(Option.bind (Option.bind (iterW (qeH (((0:Int),()),(y,())) moves ((((y.2.2.1,(y.2.2.2.1,())),(0:Int),())),())) (((0:Int),()),(y,()))) fun x7=>some ((),(x7.2.1,()))) fun x8=>some (Sum.inl (((w64 ((0:Int)+1)),()),(x8.2.1,()))))=_;rw[hz];rfl
      · obtain⟨z,hz⟩:=l2 1 (.inr rfl) y (((y.2.2.2.2,(0:Int),())),());refine⟨z,?_⟩;show(Option.bind (Option.bind (iterW (qeH (((1:Int),()),(y,())) moves (((y.2.2.2.2,(0:Int),())),())) (((0:Int),()),(y,()))) fun x7=>some ((),(x7.2.1,()))) fun x8=>some (Sum.inl (((w64 ((1:Int)+1)),()),(x8.2.1,()))))=_;rw[hz];rfl
    obtain⟨y1,h1⟩:=l1 0 (.inl rfl) ((-1:Int),((-1:Int),(o.2.1.1.1,(o.2.1.1.2.1,o.2.1.2.1))));obtain⟨y2,h2⟩:=l1 1 (.inr rfl) y1;have h3:qjN moves (((2:Int),()),(y2,()))=some (.inr ((),(y2,()))):=rfl;rw[qo h1,show(0:Int)+1=1 from rfl,qo h2,show(1:Int)+1=2 from rfl,qm h3,Option.bind_some];exact⟨_,_,rfl⟩
  · rw[bne_t c,cond_true];exact⟨_,_,rfl⟩

theorem qi9 {a b:ByteArray} (h:a.data.toList=b.data.toList):a=b:=by
  obtain⟨⟨l⟩⟩:=a;obtain⟨⟨k⟩⟩:=b;simp only at h;rw[h]
theorem qg3 (a b:ByteArray):(a++b).data.toList=a.data.toList++b.data.toList:=by simp[ByteArray.data_append]
theorem qaO (a:ByteArray):a.size=a.data.toList.length:=by
  rw[Array.length_toList];rfl
theorem qm8 (s:ByteArray) (a b:Nat):(s.extract a b).data.toList=(s.data.toList.take b).drop a:=by
  rw[ByteArray.data_extract,Array.toList_extract];rw[List.extract_eq_take_drop,List.drop_take]
def oneT (c:UInt8):ByteArray:=ByteArray.mk #[c]
def joinB (c:UInt8) (l:List ByteArray):ByteArray:=⟨(Go.Lib.join (l.map (·.data.toList)) [c]).toArray⟩
theorem qvM (c:UInt8):joinB c []=ByteArray.mk #[]:=rfl
theorem qqF (c:UInt8) (x:ByteArray):joinB c [x]=x:=qi9 (by
  show Go.Lib.join [x.data.toList] [c]=_
  exact Go.Lib.join_one _ _)
theorem qn4 (c:UInt8) (x y:ByteArray) (l:List ByteArray):joinB c (x::y::l)=(x++oneT c)++joinB c (y::l):=qi9 (by
  rw[qg3,qg3];show Go.Lib.join (x.data.toList::y.data.toList::l.map (·.data.toList)) [c]=(x.data.toList++[c])++Go.Lib.join (y.data.toList::l.map (·.data.toList)) [c]
  simp[Go.Lib.join,List.intercalate,List.intersperse])
theorem qr5 (c:UInt8) (m:Nat):∀l:List ByteArray,(∀x∈l,x.size≤m)→(joinB c l).size≤l.length*(m+1)
  | [],_=>by rw[qvM];exact Nat.zero_le _
  | [x],h=>by rw[qqF];have:=h x (by simp);simp;omega
  | x::y::l,h=>by
    have ih:=qr5 c m (y::l) (fun z hz=>h z (List.mem_cons_of_mem _ hz));have:=h x (by simp);rw[qn4,qaO,qg3,qg3,List.length_append,List.length_append,←qaO,←qaO];have:(oneT c).size=1:=rfl;rw[this,←qaO];simp only[List.length_cons,Nat.add_mul] at ih ⊢;omega
theorem qyu (c:UInt8) (l:List ByteArray) (h1:l.length≤140737488355328) (h2:(joinB c l).size≤140737488355328):joinS l (ByteArray.mk #[c])=some (joinB c l):=by
  unfold joinS
  have e:(Go.Lib.join (l.map (·.data.toList)) (ByteArray.mk #[c]).data.toList).length=(joinB c l).size:=by rw[qaO];rfl
  rw[e,Nat.ble_eq_true_of_le h1,Nat.ble_eq_true_of_le h2];rfl
theorem qvO (c:UInt8):∀l:List UInt8,c∉l→Go.Lib.indexByte l c = -1
  | [],_=>rfl
  | b::l,h=>by
    have hb:(b==c)=false:=by rw[beq_eq_false_iff_ne];exact fun e=>h (by simp[e])
    unfold Go.Lib.indexByte;rw[hb,qvO c l (fun e=>h (List.mem_cons_of_mem _ e))];rfl
theorem qtb (c:UInt8) (r:List UInt8):∀l:List UInt8,c∉l→Go.Lib.indexByte (l++c::r) c=l.length
  | [],_=>by simp[Go.Lib.indexByte]
  | b::l,h=>by
    have hb:(b==c)=false:=by rw[beq_eq_false_iff_ne];exact fun e=>h (by simp[e])
    rw[List.cons_append];unfold Go.Lib.indexByte;rw[hb,qtb c r l (fun e=>h (List.mem_cons_of_mem _ e))]
    have:((l.length:Int) == -1)=false:=by rw[beq_eq_false_iff_ne];omega
    rw[this,if_neg (by decide),if_neg (by decide),List.length_cons];omega
theorem qsF (s:ByteArray) (c:UInt8):Go.Lib.indexB s (oneT c)=Go.Lib.indexByte s.data.toList c:=Go.Lib.index_one s.data.toList c
theorem qsf (c:UInt8):∀l:List ByteArray,l≠[]→(∀x∈l,c∉x.data.toList)→Go.Lib.countB (joinB c l) (oneT c)=l.length-1∧Go.Lib.splitB (oneT c) 0 (l.length-1) (joinB c l)=l
  | [],h,_=>absurd rfl h
  | [x],_,h=>by
    rw[qqF];exact⟨Go.Lib.countB_miss _ _ (by rw[qsF];exact qvO c _ (h x (by simp))),rfl⟩
  | x::y::l,_,h=>by
    have ih:=qsf c (y::l) (by simp) (fun z hz=>h z (List.mem_cons_of_mem _ hz));have hs:(joinB c (x::y::l)).data.toList=x.data.toList++c::(joinB c (y::l)).data.toList:=by
      rw[qn4,qg3,qg3];simp[oneT]
    have hi:Go.Lib.indexB (joinB c (x::y::l)) (oneT c)=(x.data.toList.length:Nat):=by
      rw[qsF,hs];exact qtb c _ _ (h x (by simp))
    have hrest:(joinB c (x::y::l)).extract (x.data.toList.length+(oneT c).size) (joinB c (x::y::l)).size=joinB c (y::l):=qi9 (by
      rw[qm8,List.take_of_length_le (by rw[qaO];exact Nat.le_refl _),hs];show List.drop (x.data.toList.length+1) _=_;rw[←List.drop_drop,List.drop_left]
      rfl)
    have hfst:(joinB c (x::y::l)).extract 0 (x.data.toList.length+0)=x:=qi9 (by
      rw[qm8,hs,Nat.add_zero,List.drop_zero,List.take_left])
    constructor
    · rw[Go.Lib.countB_hit _ (oneT c) _ (show 1≤(oneT c).size from Nat.le_refl 1) hi,hrest,ih.1];simp only[List.length_cons];omega
    · have hl:(x::y::l).length-1=((y::l).length-1)+1:=by simp only[List.length_cons];omega
      rw[hl,Go.Lib.splitB_hit _ _ _ _ _ hi,hrest,hfst,ih.2]
theorem qwj (c:UInt8) (l:List ByteArray) (h0:l≠[]) (h1:(joinB c l).size≤4294967280) (h:∀x∈l,c∉x.data.toList):qse (joinB c l) (ByteArray.mk #[c])=some l:=by
  have:=qsf c l h0 h;unfold qse;rw[Nat.ble_eq_true_of_le h1];show some (Go.Lib.splitB (oneT c) 0 (Go.Lib.countB (joinB c l) (oneT c)) (joinB c l))=some l;rw[this.1,this.2]

theorem qpI {u:Nat} (h:u<10):(UInt8.ofNat (48+u)).toNat=48+u:=by
  rw[UInt8.toNat_ofNat'];omega
theorem qwp (u:Nat):∀c∈Go.Lib.decDigits u,48≤c.toNat∧c.toNat≤57:=by
  induction u using Nat.strongRecOn with
  | _ u ih =>
    intro c hc;rw[Go.Lib.decDigits] at hc;split at hc
    · rename_i h;rw[List.mem_singleton.1 hc,qpI h];omega
    · rename_i h;rcases List.mem_append.1 hc with hc | hc
      · exact ih (u / 10) (by omega) c hc
      · rw[List.mem_singleton.1 hc,qpI (by omega)];omega
theorem dec_ne (u:Nat):Go.Lib.decDigits u≠[]:=by
  rw[Go.Lib.decDigits]
  split<;>simp
theorem parse_dec (u:Nat) (hu:u<18446744073709551616):∀r,Go.Lib.parseUint10 0 (Go.Lib.decDigits u++r)=Go.Lib.parseUint10 u r:=by
  induction u using Nat.strongRecOn with
  | _ u ih =>
    intro r;rw[Go.Lib.decDigits];split
    · rename_i h;rw[List.singleton_append]
      conv=>lhs;unfold Go.Lib.parseUint10
      rw[qpI h,if_pos (by omega),if_neg (by omega),if_neg (by omega)];congr 1;omega
    · rename_i h;rw[List.append_assoc,ih (u / 10) (by omega) (by omega),List.singleton_append]
      conv=>lhs;unfold Go.Lib.parseUint10
      rw[qpI (by omega),if_pos (by omega),if_neg (by omega),if_neg (by omega)];congr 1;omega
theorem mag_dec (u:Nat) (hu:u<18446744073709551616):Go.Lib.parseMag (Go.Lib.decDigits u) = .ok u:=by
  unfold Go.Lib.parseMag;rw[if_neg (dec_ne u)];have:=parse_dec u hu [];rw[List.append_nil] at this;rw[this];rfl
def I64 (n:Int):Prop := -9223372036854775808≤n∧n≤9223372036854775807
theorem atoi_itoa {n:Int} (h:I64 n):Go.Lib.atoiAll (Go.Lib.itoa n) = .ok n:=by
  unfold Go.Lib.itoa;obtain⟨h0,h1⟩:=h;by_cases c:n<0
  · rw[if_pos c];unfold Go.Lib.atoiAll;simp only[show(45:UInt8).toNat=45 from rfl];rw[if_pos (by simp),mag_dec _ (by omega)];simp only[not_true_eq_false,false_and,if_false,true_and];rw[if_neg (by omega)];simp only[if_true];congr 1;omega
  · rw[if_neg c]
    cases hd:Go.Lib.decDigits n.toNat with
    | nil=>exact absurd hd (dec_ne _)
    | cons a r =>
      have ha:=qwp n.toNat a (by rw[hd];exact List.mem_cons_self);unfold Go.Lib.atoiAll;simp only;rw[if_neg (by omega),←hd,mag_dec _ (by omega)];simp only;rw[if_neg (by omega),if_neg (by omega),if_neg (by omega)];congr 1;omega
def numS (n:Int):ByteArray:=⟨(Go.Lib.itoa n).toArray⟩
theorem qmj {n:Int} (h:I64 n):itoaS n=some (numS n):=by
  unfold itoaS;rw[decide_eq_true h.1,decide_eq_true h.2];rfl
theorem qtV (n:Int):(numS n).data.toList=Go.Lib.itoa n:=by unfold numS;simp
theorem qwf (n:Int):∀c∈(numS n).data.toList,c.toNat=45∨48≤c.toNat∧c.toNat≤57:=by
  rw[qtV];intro c hc;unfold Go.Lib.itoa at hc;split at hc
  · rcases List.mem_cons.1 hc with rfl | hc
    · exact .inl rfl
    · exact .inr (qwp _ c hc)
  · exact .inr (qwp _ c hc)
theorem qsR {n:Int} (h:I64 n):(numS n).size≤21:=by
  rw[qaO,qtV];exact Go.Lib.itoa_length_le n h.1 h.2
theorem atoi_num {n:Int} (h:I64 n):atoiS (numS n)=some (n,(false,())):=by
  unfold atoiS;rw[Nat.ble_eq_true_of_le (by have:=qsR h;omega),qtV,atoi_itoa h];rfl
def OKT (s:ByteArray):Prop:=s.size≤200∧∀c∈s.data.toList,32≤c.toNat∧c.toNat≤126
theorem qtF {s:ByteArray} (h:OKT s):qat s=0:=by
  unfold qat;rw[if_neg (by have:=h.1;omega)];have:∀(f pos:Nat),Go.Lib.idxFuncFrom qjm true s f pos = -1:=by
    intro f
    induction f with
    | zero=>intro pos;rfl
    | succ f ih =>
      intro pos;unfold Go.Lib.idxFuncFrom;by_cases hp:pos<s.size
      · have hm:=h.2 s[pos] (by
          rw[List.mem_iff_getElem]
          exact⟨pos,by rw[←qaO];exact hp,rfl⟩)
        have hd:=decode_ascii s pos hp (by omega);rw[if_pos hp,hd,ih];have:qjm (s[pos]'hp).toNat=false:=by
          unfold qjm;simp only[Bool.or_eq_false_iff,decide_eq_false_iff_not];omega
        rw[this];rfl
      · rw[if_neg hp]
  unfold Go.Lib.idxFunc;rw[this];rfl
abbrev Ev:=Int×Int×Int×Int×Mv×Unit
structure EvR (e:Ev):Prop where
  kind:I64 e.1
  player:I64 e.2.1
  n:I64 e.2.2.1
  now:I64 e.2.2.2.1
  a:I64 e.2.2.2.2.1.1
  b:I64 e.2.2.2.2.1.2.1
  c:I64 e.2.2.2.2.1.2.2.1
def evL (e:Ev):List Int:=[e.1,e.2.1,e.2.2.1,e.2.2.2.1,e.2.2.2.2.1.1,e.2.2.2.2.1.2.1,e.2.2.2.2.1.2.2.1]
theorem EvR.all {e:Ev} (h:EvR e):∀n∈evL e,I64 n:=by
  intro n hn;simp only[evL,List.mem_cons,List.not_mem_nil,or_false] at hn;rcases hn with rfl | rfl | rfl | rfl | rfl | rfl | rfl
  · exact h.kind
  · exact h.player
  · exact h.n
  · exact h.now
  · exact h.a
  · exact h.b
  · exact h.c
def qb2 (e:Ev):ByteArray:=joinB 32 ((evL e).map numS)
theorem qlY (e:Ev) (h:EvR e):((evL e).map numS).length=7∧∀x∈(evL e).map numS,x.size≤21:=by
  refine⟨rfl,fun x hx=>?_⟩;obtain⟨n,hn,rfl⟩:=List.mem_map.1 hx;exact qsR (h.all n hn)
theorem qot (e:Ev) (h:EvR e):(qb2 e).size≤154:=by
  have:=qr5 32 21 ((evL e).map numS) (qlY e h).2;rw[(qlY e h).1] at this;exact this
theorem qys (e:Ev) (h:EvR e):qkb e=some (qb2 e):=by
  unfold qkb;have step:∀(i:Nat) (hi:i<7) (l:List ByteArray),l.length≤7→qdv e ((l,(i:Int),()),())=some (.inl ((l++[numS ((evL e)[i]'hi)],((i+1:Nat):Int),()),())):=by
    intro i hi l hl;unfold qdv;have hg:getD' [e.1,e.2.1,e.2.2.1,e.2.2.2.1,e.2.2.2.2.1.1,e.2.2.2.2.1.2.1,e.2.2.2.2.1.2.2.1] ((i:Int)).toNat (0:Int)=(evL e)[i]'hi:=by
      rw[Int.toNat_natCast];show getD' (evL e) i 0=_;rw[gd_eq (evL e) i hi]
    have hn:I64 ((evL e)[i]'hi):=h.all _ (List.getElem_mem (l:=evL e) hi);simp only[show decide ((i:Int)<7)=true by simp;omega,cond_true];rw[show inb (i:Int) 7=true from inb_iff.2 ⟨by omega,by omega⟩,qb,hg,qmj hn,Option.bind_some,qS (by simp only[List.length_cons,List.length_nil];omega),qb,qf (by omega) (by omega)];rfl
  have all:∀(k i:Nat),i+k=7→iterW (qdv e) ((((evL e).take i).map numS,(i:Int),()),())=some (((evL e).map numS,()),()):=by
    intro k
    induction k with
    | zero =>
      intro i hi
      have:i=7:=by omega
      subst this;refine qm ?_;rw[List.take_of_length_le (by exact Nat.le_refl _)];rfl
    | succ k ih =>
      intro i hi
      have hi7:i<7:=by omega
      rw[qo (step i hi7 _ (by rw[List.length_map,List.length_take];show min i 7≤7;omega))];have:=ih (i+1) (by omega);rw[List.take_succ_eq_append_getElem (show i<(evL e).length from hi7),List.map_append] at this;exact this
  have h0:=all 7 0 (by omega);rw[List.take_zero] at h0;have h0':iterW (qdv e) ((([]:List ByteArray),(0:Int),()),())=_:=h0;rw[h0',Option.bind_some];have hsz:=qot e h;have hj:=qyu 32 ((evL e).map numS) (by rw[(qlY e h).1];omega) (by unfold qb2 at hsz;omega);have hj':joinS ((((evL e).map numS,()),()):(List ByteArray×Unit)×Unit).1.1 (ByteArray.mk #[32])=some (qb2 e):=hj;rw[hj'];rfl
theorem qxi (c d:UInt8):∀l:List ByteArray,d∈(joinB c l).data.toList→d=c∨∃x∈l,d∈x.data.toList
  | [],h=>by rw[qvM] at h;cases h
  | [x],h=>by rw[qqF] at h;exact .inr ⟨x,by simp,h⟩
  | x::y::l,h=>by
    rw[qn4,qg3,qg3] at h;rcases List.mem_append.1 h with h | h
    · rcases List.mem_append.1 h with h | h
      · exact .inr ⟨x,by simp,h⟩
      · exact .inl (List.mem_singleton.1 h)
    · rcases qxi c d (y::l) h with h | ⟨z,hz,h⟩
      · exact .inl h
      · exact .inr ⟨z,List.mem_cons_of_mem _ hz,h⟩
theorem entry_ok (e:Ev) (h:EvR e):OKT (qb2 e):=by
  refine⟨by have:=qot e h;omega,fun c hc=>?_⟩;rcases qxi 32 c _ hc with rfl | ⟨x,hx,hc⟩
  · decide
  · obtain⟨n,_,rfl⟩:=List.mem_map.1 hx;have:=qwf n c hc;omega
abbrev Jn:=List (ByteArray×Int×Unit)
noncomputable def sumJ (b:Int) (s:ByteArray):Int:=(qc1 b s).getD 0
theorem qpC (b:Int) (s:ByteArray) (hs:s.size≤1000000):qc1 b s=some (sumJ b s):=by
  have:∃v,qc1 b s=some v:=by
    unfold qc1;have key:∀(k i:Nat) (h:Int),i+k=s.size→∃h',iterW (qcx s) ((h,(i:Int),()),())=some ((h',()),()):=by
      intro k
      induction k with
      | zero =>
        intro i h hi
        have:i=s.size:=by omega
        subst this;refine⟨h,qm ?_⟩;unfold qcx;simp
      | succ k ih =>
        intro i h hi;obtain⟨c,hc⟩:∃c,strAt s (i:Int)=some c:=by
          have hi2:i<s.size:=by omega
          refine⟨s[i],?_⟩;unfold strAt;rw[show decide ((0:Int)≤(i:Int))=true by simp,cond_true,Int.toNat_natCast];simp[hi2]
        have e:qcx s ((h,(i:Int),()),())=some (.inl ((wu64 ((ixor .u64 h (wu64 ((c.toNat:Nat):Int)))*1099511628211),((i+1:Nat):Int),()),())):=by
          unfold qcx;simp only[show decide ((i:Int)<((s.size:Nat):Int))=true by simp;omega,cond_true];rw[hc,Option.bind_some,qf (by omega) (by omega)];rfl
        rw[qo e];exact ih (i+1) _ (by omega)
    obtain⟨h',hh⟩:=key s.size 0 (ixor .u64 b 14695981039346656037) (by omega);have hh':iterW (qcx s) (((ixor .u64 b 14695981039346656037),(0:Int),()),())=_:=hh;rw[hh',Option.bind_some];exact⟨_,rfl⟩
  obtain⟨v,hv⟩:=this;unfold sumJ;rw[hv];rfl
def lastJ (l:Jn):Int:=match l.getLast? with
  | some x=>x.2.1
  | none=>0
theorem qn2 (l:Jn) (hl:l.length≤1000000):qcV l=some (lastJ l):=by
  unfold qcV lastJ;by_cases h:l=[]
  · subst h;rfl
  · have h0:0<l.length:=List.length_pos_iff.2 h;rw[beq_f (by omega),cond_false,qf (by omega) (by omega),show((l.length:Nat):Int)-1=((l.length-1:Nat):Int) by omega,qqp l _ (by omega),Option.bind_some,List.getLast?_eq_getElem?,List.getElem?_eq_getElem (by omega)]
def JOK (l:Jn):Prop:=l.length≤1000∧∀i (hi:i<l.length),OKT l[i].1∧l[i].2.1=sumJ (lastJ (l.take i)) l[i].1
theorem good_ok {l:Jn} (h:JOK l):qh1 l=some ((l.length:Nat):Int):=by
  unfold qh1;have hlen:=h.1;have step:∀i (hi:i<l.length),qbG l (((i:Int),()),())=some (.inl ((((i+1:Nat):Int),()),())):=by
    intro i hi;obtain⟨h1,h2⟩:=h.2 i hi;unfold qbG;have hne:((i:Int)==1000)=false:=beq_f (by omega);simp only[ltd l i hi,cond_true];rw[qqp l i hi,Option.bind_some];have hb:qe 0 (i:Int) l.length=true:=by
      simp only[qe,Bool.and_eq_true,decide_eq_true_eq];omega
    simp only[hne,Bool.not_false,imp,cond_true,hb,qb,gopt,Int.toNat_natCast,List.drop_zero];rw[qn2 _ (by rw[List.length_take];omega),Option.bind_some];have hw:qbl (lastJ (l.take i)) l[i]=some 0:=by
      unfold qbl;rw[qtF h1,show((0:Int)!=0)=false from rfl,cond_false,qpC _ _ (by have:=h1.1;omega),Option.bind_some,h2,bne_f rfl,cond_false]
    rw[hw,Option.bind_some,qf (by omega) (by omega)];rfl
  have key:∀(k i:Nat),i+k=l.length→iterW (qbG l) (((i:Int),()),())=some (.inl ((),())):=by
    intro k
    induction k with
    | zero =>
      intro i hi
      have:i=l.length:=by omega
      subst this;refine qm ?_;unfold qbG;simp
    | succ k ih =>
      intro i hi;rw[qo (step i (by omega))];exact ih (i+1) (by omega)
  have h0:=key l.length 0 (by omega);have h0':iterW (qbG l) (((0:Int),()),())=_:=h0;rw[h0',Option.bind_some,Sum.elim_inl]
theorem qmT {l:Jn} (h:JOK l):qcd l=some 0:=by
  unfold qcd;have:=h.1;rw[show decide (((l.length:Nat):Int)>1000)=false by rw[decide_eq_false_iff_not];omega,cond_false,good_ok h,Option.bind_some,show decide (((l.length:Nat):Int)<((l.length:Nat):Int))=false by simp,cond_false]
theorem cloneJ (s:Jn) (h:s.length≤1000000):qg s=some s:=by
  unfold qg;have:room (([]:Jn).length+s.length) 24=true:=qS (by simp;omega);rw[this]
  cases s with
  | nil=>simp[qb,agree_self]
  | cons a l=>simp[qb]
noncomputable def nextJ (l:Jn) (s:ByteArray):Jn:=l++[(s,(sumJ (lastJ l) s,()))]
theorem qsB {l:Jn} (h:JOK l) (hl:l.length<1000) {s:ByteArray} (hs:OKT s):qM l s=some (nextJ l s,(0,()))∧JOK (nextJ l s):=by
  have hlen:=h.1;constructor
  · unfold qM;rw[qmT h,Option.bind_some,show((0:Int)!=0)=false from rfl,cond_false,qtF hs,show((0:Int)!=0)=false from rfl,cond_false,beq_f (by omega),cond_false,cloneJ l (by omega),Option.bind_some,qn2 l (by omega),Option.bind_some,qpC _ _ (by have:=hs.1;omega),Option.bind_some,qS (by simp only[List.length_cons,List.length_nil];omega),qb];rfl
  · refine⟨by unfold nextJ;rw[List.length_append,List.length_singleton];omega,fun i hi=>?_⟩;unfold nextJ at hi ⊢;rw[List.length_append,List.length_singleton] at hi;by_cases c:i<l.length
    · rw[List.getElem_append_left c,List.take_append_of_le_length (by omega)];exact h.2 i c
    · have:i=l.length:=by omega
      subst this;rw[List.getElem_append_right (by omega),List.take_left']
      · simp only[Nat.sub_self,List.getElem_cons_zero];exact⟨hs,trivial⟩
      · rfl

abbrev PM:=Int×Mv×Unit
abbrev dPM:PM:=(0,((0,(0,(0,()))),()))
theorem qim {A:Type} (xs:List A) (i:Nat) (h:i<xs.length):at? xs (i:Int)=some xs[i]:=by
  rw[at?_eq xs _ (Int.natCast_nonneg i) (Int.ofNat_lt.2 h)];simp only[Int.toNat_natCast]
theorem qvB {A C:Type} (l:List A) (G:A→List C):∀n,n≤l.length→(List.range n).flatMap (fun i=>(l[i]?).toList.flatMap G)=(l.take n).flatMap G
  | 0,_=>by simp
  | n+1,h=>by
    rw[List.range_succ,List.flatMap_append,qvB l G n (by omega),List.take_succ_eq_append_getElem (by omega),List.flatMap_append];simp[List.getElem?_eq_getElem (show n<l.length by omega)]
theorem qyk {A C R:Type} (xs:List A) (B:Nat) (f:(((List C)×Int×Unit)×Unit)→Option ((((List C)×Int×Unit)×Unit) ⊕ R)) (G:A→List C) (fin:List C→R) (a0:List C) (hG:∀x∈xs,(G x).length≤B)
    (hs:∀i (hi:i<xs.length) (a:List C),a.length≤a0.length+i*B→f ((a,(i:Int),()),())=some (.inl ((a++G xs[i],((i:Int)+1),()),()))) (he:∀a,f ((a,(xs.length:Int),()),())=some (.inr (fin a))) :
    iterW f ((a0,(0:Int),()),())=some (fin (a0++xs.flatMap G)):=by
  have:=qhQ xs.length B f (fun i=>(xs[i]?).toList.flatMap G) fin a0 (fun i hi=>by
    simp only[List.getElem?_eq_getElem hi,Option.toList_some,List.flatMap_cons,List.flatMap_nil,List.append_nil];exact hG _ (List.getElem_mem hi)) (fun i hi a ha=>by
    simp only[List.getElem?_eq_getElem hi,Option.toList_some,List.flatMap_cons,List.flatMap_nil,List.append_nil]
    exact hs i hi a ha) he
  rw[this,qvB xs G _ (Nat.le_refl _),List.take_length]
def ofL (l:List PM) (pl:Int):List Mv:=l.flatMap fun x=>bif x.1==pl then [x.2.1] else []
def woL (l:List PM) (pl:Int):List PM:=l.filter fun x=>!(x.1==pl)
def odd1 (x:PM):Bool:=(x.1 !=0)&&(x.1 !=1)
def pmErr (l:List PM):Int:=if 4<(ofL l 0).length∨4<(ofL l 1).length then 2 else if l.any odd1=true then 4 else 0
theorem qvT (l:List PM) (pl:Int) (hl:l.length≤1000000):qho l pl=some (ofL l pl):=by
  unfold qho
  have:=qyk l 1 (qgh l pl) (fun x=>bif x.1==pl then [x.2.1] else []) (fun a=>((a,()),())) [] (fun x _=>by
    cases (x.1==pl)
    · exact Nat.zero_le _
    · exact Nat.le_refl _) (fun i hi a ha=>by
    simp only[List.length_nil] at ha;unfold qgh;simp only[show decide ((i:Int)<((l.length:Nat):Int))=true by simp;omega,cond_true];rw[qim l i hi,Option.bind_some,qf (n:=(i:Int)+1) (by omega) (by omega)];cases (l[i].1==pl)
    · simp only[cond_false,Option.bind_some,List.append_nil]
    · simp only[cond_true];rw[qS (by simp only[List.length_cons,List.length_nil];omega),qb]
      rfl) (fun a=>by unfold qgh;simp)
  rw[this,Option.bind_some];rfl
theorem qpQ (l:List PM) (hl:l.length≤1000000):qev l=some (pmErr l):=by
  unfold qev pmErr;rw[qvT l 0 hl,Option.bind_some,qvT l 1 hl,Option.bind_some]
  have hL:=qY l odd1 (qdi l) (.inr 4) (.inl ((),())) (fun i hi=>by
    unfold qdi odd1;simp only[show decide ((i:Int)<((l.length:Nat):Int))=true by simp;omega,cond_true];rw[qim l i hi,Option.bind_some,qf (n:=(i:Int)+1) (by omega) (by omega),show decide ((i:Int)≥0)=true by simp]
    cases ((l[i].1 !=0)&&(l[i].1 !=1))<;>rfl) (by unfold qdi;simp)
  rw[hL];by_cases h:4<(ofL l 0).length∨4<(ofL l 1).length
  · rw[if_pos h];by_cases h0:4<(ofL l 0).length
    · rw[show decide ((((ofL l 0).length:Nat):Int)>4)=true by simp only[decide_eq_true_eq];omega];rfl
    · rw[show decide ((((ofL l 0).length:Nat):Int)>4)=false by simp only[decide_eq_false_iff_not];omega,show decide ((((ofL l 1).length:Nat):Int)>4)=true by simp only[decide_eq_true_eq];omega];rfl
  · rw[if_neg h,show decide ((((ofL l 0).length:Nat):Int)>4)=false by simp only[decide_eq_false_iff_not];omega,show decide ((((ofL l 1).length:Nat):Int)>4)=false by simp only[decide_eq_false_iff_not];omega];simp only[cond_false,Option.bind_some]
    cases l.any odd1<;>rfl
theorem qwc (s:List PM) (h:s.length≤1000000):qx s=some s:=by
  unfold qx;have:room (([]:List PM).length+s.length) 32=true:=qS (by simp;omega);rw[this]
  cases s with
  | nil=>simp[qb,agree_self]
  | cons a l=>simp[qb]
theorem concatPM (a b:List PM) (ha:a.length≤1000) (hb:b.length≤1000):qar [a,b]=some (a++b):=by
  have w1:w64 (0+((a.length:Nat):Int))=(a.length:Int):=by rw[Int.zero_add];exact qf (by omega) (by omega)
  have w2:w64 ((a.length:Int)+((b.length:Nat):Int))=((a.length+b.length:Nat):Int):=by rw[qf (by omega) (by omega)];omega
  have w3:w64 ((0:Int)+1)=1:=by decide
  have w4:w64 ((1:Int)+1)=2:=by decide
  have g0:at? [a,b] 0=some a:=rfl;have g1:at? [a,b] 1=some b:=rfl;have l1:iterW (qB [a,b]) (((0:Int),(0:Int),()),())=some (((((a.length+b.length:Nat):Int)),()),()):=by
    have s0:qB [a,b] (((0:Int),(0:Int),()),())=some (.inl ((((a.length:Nat):Int),(1:Int),()),())):=by
      unfold qB;simp only[g0,w1,w3,Option.bind_some];rw[show decide (((a.length:Nat):Int)<0)=false by simp];rfl
    have s1:qB [a,b] ((((a.length:Nat):Int),(1:Int),()),())=some (.inl ((((a.length+b.length:Nat):Int),(2:Int),()),())):=by
      unfold qB;simp only[g1,w2,w4,Option.bind_some];rw[show decide (((a.length+b.length:Nat):Int)<0)=false by simp;omega];rfl
    have s2:qB [a,b] ((((a.length+b.length:Nat):Int),(2:Int),()),())=some (.inr ((((a.length+b.length:Nat):Int),()),())):=rfl;rw[qo s0,qo s1,qm s2]
  have l2:iterW (qA [a,b]) ((([]:List PM),(0:Int),()),())=some ((a++b,()),()):=by
    have s0:qA [a,b] ((([]:List PM),(0:Int),()),())=some (.inl ((a,(1:Int),()),())):=by
      unfold qA;simp only[g0,w3,Option.bind_some];rw[qS (by simp;omega)];rfl
    have s1:qA [a,b] ((a,(1:Int),()),())=some (.inl ((a++b,(2:Int),()),())):=by
      unfold qA;simp only[g1,w4,Option.bind_some];rw[qS (by omega)];rfl
    have s2:qA [a,b] ((a++b,(2:Int),()),())=some (.inr ((a++b,()),())):=rfl;rw[qo s0,qo s1,qm s2]
  unfold qar;simp only[l1,Option.bind_some];rw[show decide (((a.length+b.length:Nat):Int)<0)=false by simp;omega]
  have w5:w64 (((a.length+b.length:Nat):Int)-0)=((a.length+b.length:Nat):Int):=by rw[Int.sub_zero];exact qf (by omega) (by omega)
  simp only[w5,cond_false];by_cases c:a.length+b.length=0
  · rw[c];simp only[Int.natCast_zero,show decide ((0:Int)>0)=false by decide,cond_false,Option.bind_some];rw[l2];rfl
  · have c1:decide (((a.length+b.length:Nat):Int)>0)=true:=by simp;omega
    have c2:decide (0<((a.length+b.length:Nat):Int))=true:=by simp;omega
    have c3:room ((((a.length+b.length:Nat):Int)).toNat) 32=true:=qS (by omega)
    have c4:∀l:List PM,qe 0 0 l.length=true:=fun l=>by simp[qe]
    simp only[c1,c2,c3,c4,cond_true,Bool.and_self,qb,Option.bind_some,List.take_zero];rw[l2];rfl
def fstI (p:Nat→Bool):Nat→Nat→Nat
  | i,0=>i
  | i,k+1=>bif p i then i else fstI p (i+1) k
theorem fst_rng (p:Nat→Bool):∀(k i:Nat),i≤fstI p i k∧fstI p i k≤i+k∧(fstI p i k<i+k→p (fstI p i k)=true)∧∀j,i≤j→j<fstI p i k→p j=false
  | 0,i=>⟨Nat.le_refl _,Nat.le_refl _,fun h=>absurd h (Nat.lt_irrefl _),fun j h1 h2=>absurd h2 (Nat.not_lt.2 h1)⟩
  | k+1,i=>by
    have ih:=fst_rng p k (i+1);unfold fstI;cases h:p i
    · simp only[cond_false];refine⟨by omega,by omega,fun hl=>ih.2.2.1 (by omega),fun j h1 h2=>?_⟩;by_cases e:j=i
      · subst e;exact h
      · exact ih.2.2.2 j (by omega) h2
    · simp only[cond_true];exact⟨Nat.le_refl _,by omega,fun _=>h,fun j h1 h2=>absurd h2 (Nat.not_lt.2 h1)⟩
theorem qxa {β:Type} (p:Nat→Bool) (g:Nat→β) (B:β):∀(k i:Nat),scan (fun i=>bif p i then some (g i) else none) B i k=if fstI p i k<i+k then g (fstI p i k) else B
  | 0,i=>by
    unfold fstI scan;rw[if_neg (show ¬i<i+0 by omega)]
  | k+1,i=>by
    conv=>lhs;unfold scan
    unfold fstI;cases h:p i
    · simp only[cond_false];rw[qxa p g B k (i+1),show i+1+k=i+(k+1) by omega]
    · simp only[cond_true];rw[if_pos (by omega)]
def fstP (l:List PM) (pl:Int):Nat:=fstI (fun i=>(l.getD i dPM).1==pl) 0 l.length
theorem qtP (l:List PM) (i:Nat) (h:i<l.length):l.getD i dPM=l[i]:=by simp[List.getD_eq_getElem?_getD,h]
theorem wo_L2 (l:List PM) (pl:Int) (hl:l.length≤1000000):∀(k w j:Nat) (ys:List PM),j+k=l.length→w≤j→ys.length=l.length→ys.take w=(l.take j).filter (fun x=>!(x.1==pl))→ys.drop j=l.drop j →
    ∃(w':Nat) (zs:List PM),iterW (qbe pl) (((w:Int),(j:Int),()),(ys,()))=some (((w':Int),()),(zs,()))∧w'≤l.length∧zs.length=l.length∧zs.take w'=woL l pl:=by
  intro k
  induction k with
  | zero =>
    intro w j ys hj hw hy h1 h2
    have:j=l.length:=by omega
    subst this;refine⟨w,ys,qm ?_,hw,hy,by rw[h1,List.take_length];rfl⟩;unfold qbe;simp only[show decide (((l.length:Nat):Int)<((ys.length:Nat):Int))=false by simp;omega,cond_false]
  | succ k ih =>
    intro w j ys hj hw hy h1 h2
    have hjl:j<l.length:=by omega
    have hjy:j<ys.length:=by omega
    have hyj:ys[j]=l[j]:=by
      have e1:(ys.drop j)[0]?=(l.drop j)[0]?:=by rw[h2]
      rw[List.getElem?_drop,List.getElem?_drop,Nat.add_zero,List.getElem?_eq_getElem hjy,List.getElem?_eq_getElem hjl] at e1;exact Option.some.inj e1
    have hdr:∀zs:List PM,zs.drop j=l.drop j→zs.drop (j+1)=l.drop (j+1):=fun zs h=>by
      rw[←List.drop_drop,←List.drop_drop,h]
    have hg:getD' ys j dPM=l[j]:=by unfold getD';rw[qtP ys j hjy,hyj]
    have htk:(l.take (j+1)).filter (fun x=>!(x.1==pl))=(l.take j).filter (fun x=>!(x.1==pl))++(if (!(l[j].1==pl))=true then [l[j]] else []):=by
      rw[List.take_succ_eq_append_getElem hjl,List.filter_append,List.filter_cons,List.filter_nil]
    by_cases hk:(l[j].1==pl)=true
    · obtain⟨w',zs,q1,q2⟩:=ih w (j+1) ys (by omega) (by omega) hy (by rw[htk,hk,h1];simp) (hdr ys h2);refine⟨w',zs,?_,q2⟩;rw[qo (y:=(((w:Int),((j+1:Nat):Int),()),(ys,())))]
      · exact q1
      · unfold qbe;simp only[show decide ((j:Int)<((ys.length:Nat):Int))=true by simp;omega,cond_true];rw[inb_iff.2 ⟨by omega,by omega⟩,qb,Int.toNat_natCast];rw[hg,hk,Bool.not_true,cond_false,Option.bind_some,qf (n:=(j:Int)+1) (by omega) (by omega)];rfl
    · have hk:=Bool.eq_false_iff.2 hk
      have hws:w<ys.length:=by omega
      obtain⟨w',zs,q1,q2⟩:=ih (w+1) (j+1) (ys.set w l[j]) (by omega) (by omega) (by rw[List.length_set];exact hy) (by
        rw[htk,hk,←h1,List.take_succ_eq_append_getElem (by rw[List.length_set];exact hws),List.getElem_set_self,List.take_set_of_le (Nat.le_refl _)]
        simp) (by
        rw[List.drop_set_of_lt (by omega)]
        exact hdr ys h2)
      refine⟨w',zs,?_,q2⟩;rw[qo (y:=((((w+1:Nat):Int),((j+1:Nat):Int),()),(ys.set w l[j],())))]
      · exact q1
      · unfold qbe;simp only[show decide ((j:Int)<((ys.length:Nat):Int))=true by simp;omega,cond_true];rw[inb_iff.2 ⟨by omega,by omega⟩,qb,Int.toNat_natCast];rw[hg,hk,Bool.not_false,cond_true,inb_iff.2 ⟨by omega,by omega⟩,qb,Option.bind_some,qf (n:=(j:Int)+1) (by omega) (by omega),qf (n:=(w:Int)+1) (by omega) (by omega),Int.toNat_natCast];rfl
theorem qpd (l:List PM) (pl:Int) (hl:l.length≤1000000):qcJ l pl=some (woL l pl):=by
  unfold qcJ;rw[qwc l hl,Option.bind_some];have key:∀k i:Nat,i+k=l.length→(∀j,j<i→((l.getD j dPM).1==pl)=false)→Option.bind (iterW (qaB l pl) (((i:Int),()),())) (Sum.elim (fun _=>some l) some)=some (woL l pl):=by
    have pre:∀i,i≤l.length→(∀j,j<i→((l.getD j dPM).1==pl)=false)→(l.take i).filter (fun x=>!(x.1==pl))=l.take i:=fun i hi h=>by
      rw[List.filter_eq_self];intro x hx;obtain⟨j,hj,rfl⟩:=List.mem_iff_getElem.1 hx;rw[List.length_take] at hj;rw[List.getElem_take,←qtP l j (by omega),h j (by omega)];rfl
    intro k
    induction k with
    | zero =>
      intro i hi h
      have:i=l.length:=by omega
      subst this;rw[qm (r := .inl ((),())) (by unfold qaB;simp)];have:=pre l.length (Nat.le_refl _) h;rw[List.take_length] at this;show some l=some (woL l pl);unfold woL;rw[this]
    | succ k ih =>
      intro i hi h
      have hil:i<l.length:=by omega
      have hg:getD' l i dPM=l.getD i dPM:=rfl;cases hp:((l.getD i dPM).1==pl)
      · rw[qo (y:=((((i+1:Nat):Int),()),()))]
        · exact ih (i+1) (by omega) fun j hj=>by
            by_cases e:j=i
            · subst e;exact hp
            · exact h j (by omega)
        · unfold qaB;simp only[show decide ((i:Int)<((l.length:Nat):Int))=true by simp;omega,cond_true];rw[inb_iff.2 ⟨by omega,by omega⟩,qb,Int.toNat_natCast,hg,hp,cond_false,qf (n:=(i:Int)+1) (by omega) (by omega)];rfl
      · obtain⟨w',zs,q1,q2,q3,q4⟩:=wo_L2 l pl hl (l.length-(i+1)) i (i+1) l (by omega) (by omega) rfl (by
          rw[List.take_succ_eq_append_getElem hil,List.filter_append,List.filter_cons,List.filter_nil,←qtP l i hil,hp,pre i (by omega) h]
          simp) rfl
        have hf:qaB l pl (((i:Int),()),())=some (.inr (.inr (woL l pl))):=by
          unfold qaB;simp only[show decide ((i:Int)<((l.length:Nat):Int))=true by simp;omega,cond_true];rw[inb_iff.2 ⟨by omega,by omega⟩,qb,Int.toNat_natCast,hg,hp,cond_true,beq_f (show ¬(i:Int) = -1 by omega),cond_false,qf (n:=(i:Int)+1) (by omega) (by omega)];rw[show((i:Int)+1)=((i+1:Nat):Int) by omega,q1,Option.bind_some];simp only[Int.toNat_natCast];rw[show qe (w':Int) ((zs.length:Nat):Int) zs.length=true by simp only[qe,Bool.and_eq_true,decide_eq_true_eq];omega,qb];rw[show ∀ys:List PM,qe 0 (w':Int) (zs.take w'++ys).length=true from fun ys=>by
            simp only[qe,Bool.and_eq_true,decide_eq_true_eq,List.length_append,List.length_take]
            omega,qb,←q4]
          rw[show ∀ys:List PM,(zs.take w'++ys).take w'=zs.take w' from fun ys=>by
            rw[List.take_append_of_le_length (by rw[List.length_take];omega),List.take_take,Nat.min_self]]
          rfl
        rw[qm hf];rfl
  exact key l.length 0 (by omega) (fun j hj=>by omega)
def openM (r:Rules) (p:Place):List Mv:=if qdN r p=0 then qjJ r p else []
theorem qsk {r:Rules} {p:Place} (h:Valid r p):qhy r p=some (openM r p):=by
  unfold qhy openM;rw[qqT h,Option.bind_some];by_cases c:qdN r p=0
  · rw[bne_f c,cond_false,if_pos c,qm2 h];rfl
  · rw[bne_t c,cond_true,if_neg c]
theorem openM_mem {r:Rules} {p:Place} {m:Mv}:m∈openM r p↔qdN r p=0∧qI r p m=true:=by
  unfold openM;by_cases c:qdN r p=0
  · rw[if_pos c,qlU];exact⟨fun h=>⟨c,h⟩,fun h=>h.2⟩
  · rw[if_neg c];exact⟨fun h=>(by cases h),fun h=>absurd h.1 c⟩
theorem qt9 {r:Rules} {p:Place} (h:Valid r p):(openM r p).length≤100000:=by
  unfold openM;split
  · exact qqh h
  · simp
def resN (r:Rules) (p:Place) (l:List PM) (i:Nat):Mv×Bool×List PM×Unit :=
  if (l.getD i dPM).2.1∈openM r p then((l.getD i dPM).2.1,(true,(l.take i++l.drop (i+1),()))) else((0,(0,(0,()))),(false,(woL l p.turn,())))
def nextP (r:Rules) (p:Place) (l:List PM):Mv×Bool×List PM×Unit :=
  if fstP l p.turn<l.length then resN r p l (fstP l p.turn) else((0,(0,(0,()))),(false,(woL l p.turn,())))
theorem next_spec {r:Rules} {p:Place} (h:Valid r p) (l:List PM) (hl:l.length≤1000):qh8 r p l=some (nextP r p l):=by
  unfold qh8
  have hL:=qov l.length (qer l p r) (fun i=>bif (l.getD i dPM).1==p.turn then some (Sum.inr (resN r p l i)) else none) (.inl ((),())) (fun i hi=>by
    unfold qer resN;simp only[show decide ((i:Int)<((l.length:Nat):Int))=true by simp;omega,cond_true];rw[qim l i hi,Option.bind_some,qf (n:=(i:Int)+1) (by omega) (by omega),qtP l i hi];show(bif (l[i].1==p.turn) then _ else _)=_;cases hp:(l[i].1==p.turn)
    · rfl
    · simp only[cond_true];rw[show decide ((i:Int)<0)=false by simp];simp only[Bool.not_false,cond_false,qao,agree_self]
      have hgat:∀z,gat true z l (i:Int)=some l[i]:=fun z=>by show at? l (i:Int)=_;exact qim l i hi
      rw[hgat,Option.bind_some,qsk h,Option.bind_some,qoq _ _ (by have:=qt9 h;omega),Option.bind_some,Option.bind_some];simp only;by_cases hm:l[i].2.1∈openM r p
      · rw[decide_eq_true hm,if_pos hm];simp only[Bool.not_true,cond_false];rw[show qe 0 (i:Int) l.length=true by simp only[qe,Bool.and_eq_true,decide_eq_true_eq];omega,show qe ((i:Int)+1) ((l.length:Nat):Int) l.length=true by simp only[qe,Bool.and_eq_true,decide_eq_true_eq];omega];simp only[qb,qao,agree_self,Option.bind_some,Int.toNat_natCast,List.drop_zero,List.take_length];rw[concatPM _ _ (by rw[List.length_take];omega) (by rw[List.length_drop];omega)];rw[show((i:Int)+1).toNat=i+1 by omega];rfl
      · rw[decide_eq_false hm,if_neg hm];simp only[Bool.not_false,cond_true];rw[show p.2.2.1=p.turn from rfl,qpd l _ (by omega)]
        rfl) (by unfold qer;simp)
  rw[hL,qxa,Nat.zero_add];unfold nextP;show Option.bind (some (if fstP l p.turn<l.length then Sum.inr (resN r p l (fstP l p.turn)) else Sum.inl ((),()))) _=_;by_cases c:fstP l p.turn<l.length
  · rw[if_pos c,if_pos c];rfl
  · rw[if_neg c,if_neg c];simp only[Option.bind_some,Sum.elim_inl];have hg:∀z:PM,gat false z l (-1)=some z:=fun z=>rfl;rw[hg,Option.bind_some];rw[show p.2.2.1=p.turn from rfl,qpd l _ (by omega)];rfl
theorem addP_spec (l:List PM) (hl:l.length≤1000) (pl:Int) (m:Mv):qkn l pl m=some (if pmErr l≠0 then([],(pmErr l,())) else if pl≠0∧pl≠1 then([],(1,())) else if (ofL l pl).length=4 then([],(9,())) else(l++[(pl,(m,()))],(0,()))):=by
  unfold qkn;rw[qpQ l (by omega),Option.bind_some];by_cases c:pmErr l=0
  rotate_left
  · rw[bne_t c,cond_true,if_pos c]
  rw[bne_f c,cond_false,if_neg (fun h=>h c)];by_cases c1:pl≠0∧pl≠1
  · rw[if_pos c1,bne_t c1.1,bne_t c1.2];rfl
  rw[if_neg c1,show((pl !=0)&&(pl !=1))=false by
    rw[Bool.and_eq_false_iff];by_cases e:pl=0
    · exact .inl (bne_f e)
    · exact .inr (bne_f (by omega)),cond_false,qvT l pl (by omega),Option.bind_some]
  by_cases c2:(ofL l pl).length=4
  · rw[if_pos c2,c2];rfl
  rw[if_neg c2,beq_f (show ¬(((ofL l pl).length:Nat):Int)=4 by omega),cond_false];simp only[qao,agree_self];rw[qwc l (by omega),Option.bind_some,qS (by simp only[List.length_cons,List.length_nil];omega),qb,Option.bind_some]
def faultP (r:Rules) (p:Place) (l:List PM):Int:=if qcU r p≠0 then qcU r p else pmErr l
theorem qvR (r:Rules) (p:Place) (l:List PM) (hr:Rng qbL r) (hn:p.1.length≤9223372036854775807) (hl:l.length≤1000):qef r p l=some (faultP r p l):=by
  unfold qef faultP;rw[qsJ r p hr hn,Option.bind_some];by_cases c:qcU r p=0
  · rw[bne_f c,cond_false,if_neg (fun h=>h c),qpQ l (by omega),Option.bind_some]
  · rw[bne_t c,cond_true,if_pos c]
theorem qyI (r:Rules) (p:Place) (hr:Rng qbL r) (hv:Valid r p) (c:qad r=0) (l:List PM) (hl:l.length≤1000):qbC r p l=some (if pmErr l≠0 then((0,(0,(0,()))),(false,([],(pmErr l,())))) else((nextP r p l).1,((nextP r p l).2.1,((nextP r p l).2.2.1,(0,()))))):=by
  unfold qbC;rw[qvR r p l hr (by have:=qcS hv;omega) hl,Option.bind_some];unfold faultP;rw[qxe c hv];simp only[ne_eq,not_true_eq_false,if_false];by_cases h:pmErr l=0
  · rw[bne_f h,cond_false,next_spec hv l hl,Option.bind_some,if_neg (by simp[h])]
  · rw[bne_t h,cond_true,if_pos h]

theorem qc0 {r:Rules} {s:List Place×List Mv} (h:OKG r s):qv (r,(s.1,(s.2,())))=some s.2:=by
  have hm:=h.most;have hc:qcR s.2=some s.2:=by
    unfold qcR
    cases hs:s.2 with
    | nil =>
      rw[show(([]:List Mv).isEmpty)=true from rfl,cond_true,qS (by simp),qb];exact agree_self _
    | cons m l =>
      rw[hs] at hm;rw[show(m::l).isEmpty=false from rfl,cond_false,qS (by simp at hm ⊢;omega),qb,List.nil_append]
  unfold qv;simp only[hc,Option.bind_some]
structure RG (r:Rules) (s:List Place×List Mv):Prop where
  ok:OKG r s
  reach:qr8 r s.2 = .inl s
theorem qt0 {r:Rules} (m:Mv):∀(k:List Mv) (s:List Place×List Mv),runG r (k++[m]) s=match runG r k s with
    | .inl s'=>if stepG r s' m=0 then .inl (nextG r s' m) else .inr (stepG r s' m)
    | .inr e => .inr e
  | [],s=>rfl
  | x::k,s=>by
    rw[List.cons_append];unfold runG;split
    · exact qt0 m k _
    · rfl
theorem RG.next {r:Rules} {s:List Place×List Mv} {m:Mv} (h:RG r s) (c:stepG r s m=0):RG r (nextG r s m):=⟨qv4 h.ok c,by
  show runG r (s.2++[m]) _=_;have:runG r s.2 ([qaH r],[]) = .inl s:=h.reach;rw[qt0,this]
  simp only[c,if_true]⟩
theorem RG.begin {r:Rules} (c:qad r=0):RG r ([qaH r],[]):=⟨qms c,rfl⟩
def backG (s:List Place×List Mv):List Place×List Mv:=(s.1.dropLast,s.2.dropLast)
theorem back_next (r:Rules) (s:List Place×List Mv) (m:Mv):backG (nextG r s m)=s:=by
  unfold backG nextG;simp
theorem RG.last_step {r:Rules} {s:List Place×List Mv} (h:RG r s) (h0:0<s.2.length):RG r (backG s)∧∃m,s=nextG r (backG s) m∧stepG r (backG s) m=0:=by
  have hne:s.2≠[]:=fun e=>by rw[e] at h0;simp at h0
  have hk:s.2=s.2.dropLast++[s.2.getLast hne]:=(List.dropLast_concat_getLast hne).symm;have hr:=h.reach;unfold qr8 at hr;rw[hk,qt0] at hr
  cases hq:runG r s.2.dropLast ([qaH r],[]) with
  | inr e=>rw[hq] at hr;cases hr
  | inl s' =>
    rw[hq] at hr;simp only at hr;split at hr
    · rename_i c;have e:nextG r s' (s.2.getLast hne)=s:=Sum.inl.inj hr
      have hb:backG s=s':=by rw[←e];exact back_next r s' _
      obtain⟨o1,o2⟩:=run_ok _ _ _ (qms h.ok.ok) hq;rw[List.nil_append] at o2;refine⟨⟨by rw[hb];exact o1,?_⟩,_,by rw[hb];exact e.symm,by rw[hb];exact c⟩;rw[hb,o2];exact hq
    · cases hr
theorem RG.back {r:Rules} {s:List Place×List Mv} (h:RG r s) (h0:0<s.2.length):RG r (backG s):=(h.last_step h0).1
theorem RG.back_open {r:Rules} {s:List Place×List Mv} (h:RG r s) (h0:0<s.2.length):qae r (backG s).1=0:=by
  obtain⟨_,m,_,c⟩:=h.last_step h0;exact(step_0 c).1
theorem qpL (s:List Place×List Mv):(backG s).2.length=s.2.length-1:=by unfold backG;simp
def par (n:Nat):Int:=((n % 2:Nat):Int)
theorem qxm (n:Nat):par (n+1)=1-par n:=by unfold par;omega
theorem par_rng (n:Nat):0≤par n∧par n≤1:=by unfold par;omega
theorem qx2 (r:Rules) (s:List Place×List Mv) (m:Mv):lastP (nextG r s m).1=qlE r (lastP s.1) m:=by
  unfold nextG lastP;simp only[List.length_append,List.length_singleton,Nat.add_sub_cancel];exact gd_app2 _ _
theorem RG.turn {r:Rules}:∀(n:Nat) {s:List Place×List Mv},RG r s→s.2.length=n→(lastP s.1).turn=par n
  | 0,s,h,hn=>by
    have he:s.2=[]:=List.length_eq_zero_iff.1 hn;have hr:=h.reach;rw[he] at hr;have:s=([qaH r],[]):=(Sum.inl.inj hr).symm;rw[this];rfl
  | n+1,s,h,hn=>by
    obtain⟨hb,m,e,_⟩:=h.last_step (by omega);have:=RG.turn n hb (by rw[qpL];omega);rw[e,qx2,qxm,←this];rfl
theorem back_spec {r:Rules} {s:List Place×List Mv} (h:OKG r s):qdt (r,(s.1,(s.2,())))=some (if s.2.length=0 then((r,(s.1,(s.2,()))),8) else((r,((backG s).1,((backG s).2,()))),0)):=by
  obtain⟨l,ms⟩:=s;have hl:l.length=ms.length+1:=h.len;have hm:ms.length≤400:=h.most;unfold qdt;simp only;by_cases c:ms.length=0
  · rw[if_pos c,c];rfl
  · rw[if_neg c,beq_f (show ¬((ms.length:Nat):Int)=0 by omega),cond_false]
    have w1:w64 (((l.length:Nat):Int)-1)=((l.length-1:Nat):Int):=by rw[qf (by omega) (by omega)];omega
    have w2:w64 (((ms.length:Nat):Int)-1)=((ms.length-1:Nat):Int):=by rw[qf (by omega) (by omega)];omega
    have b1:qe 0 ((l.length-1:Nat):Int) l.length=true:=by simp only[qe,Bool.and_eq_true,decide_eq_true_eq];omega
    have b2:qe 0 ((ms.length-1:Nat):Int) ms.length=true:=by simp only[qe,Bool.and_eq_true,decide_eq_true_eq];omega
    simp only[w1,w2,b1,b2,qb,qao,agree_self,Option.bind_some,Int.toNat_natCast];unfold backG;rw[List.dropLast_eq_take,List.dropLast_eq_take]

def bec (pr:Nat→Nat) (g:Nat):Nat→Nat→Bool
  | 0,_=>false
  | m+1,k=>k==g||(decide (0<pr k)&&bec pr g m (pr k-1))
def passG (pr:Nat→Nat) (f:Nat→Bool) (k:Nat):Nat→Bool:=fun j=>if j=k then(f k||(decide (0<pr k)&&f (pr k-1))) else f j
def passL (pr:Nat→Nat) (l:List Nat) (f:Nat→Bool):Nat→Bool:=l.foldl (passG pr) f
def closN (pr:Nat→Nat) (n g:Nat):Nat→Nat→Bool
  | 0=>fun j=>j==g
  | t+1=>passL pr (List.range n) (closN pr n g t)
def sumN (f:Nat→Int):Nat→Int
  | 0=>0
  | n+1=>sumN f n+f n
theorem qx9 {f g:Nat→Int}:∀n,(∀i,i<n→f i=g i)→sumN f n=sumN g n
  | 0,_=>rfl
  | n+1,h=>by unfold sumN;rw[qx9 n (fun i hi=>h i (by omega)),h n (by omega)]
theorem qwR (f:Nat→Int) (B:Int):∀n,(∀i,i<n→0≤f i∧f i≤B)→0≤sumN f n∧sumN f n≤n*B
  | 0,_=>by simp[sumN]
  | n+1,h=>by
    have h1:=qwR f B n (fun i hi=>h i (by omega));have h2:=h n (by omega);unfold sumN;rw[show((n+1:Nat):Int)*B=(n:Int)*B+B by rw[Int.natCast_add,Int.add_mul];simp];omega
def tup {A:Type} (f:Nat→A):A×A×A×A×A×A×Unit:=(f 0,f 1,f 2,f 3,f 4,f 5,())
end Go.Proofs.YtlfpfiplndkofaaGreatDoor
