/- Several texts in one: CoreM, CoreP, CoreN, CoreO, CoreR, CoreS2, CoreA, CoreB, GameP, BookA, BookB, GameT, CoreK, BookE, HtenM, RecA, RecB, RecC, RecD, MatchA, MatchB, JoinT, MatchD. -/
import Derived.Test.YtijkabgijfdpfaaGreatDoorMAE
import Derived.Test.YtijkabgijfdpfaaGreatDoorMAD
import Derived.Test.YtijkabgijfdpfaaGreatDoorMAA
import Derived.Lib.IndexLaws
import Derived.Lib.IndexBytes
import Derived.Lib.CountLaws
import Derived.Lib.ItoaLen
import Derived.Lib.AtoiAll
import Derived.Lib.ItoaMem
import Derived.Laws.RangeString
namespace Go.Proofs.YtijkabgijfdpfaaGreatDoor
open Go.Den
set_option linter.unusedVariables false
set_option linter.unusedSimpArgs false
set_option maxRecDepth 100000

abbrev RWay:=Int×Int×Int×Int×Unit
def cellI (p:Place) (s:Int):Int:=p.cells.getD s.toNat 0
def onB (r:Rules) (x y:Int):Bool:=decide (0≤x∧x<r.width∧0≤y∧y<r.height)
def sq (r:Rules) (x y:Int):Int:=y*r.width+x
def enemy (p:Place) (c:Int):Bool:=decide (c>0)&&((c-1).tmod 2 !=p.turn)
def mineB (p:Place) (c:Int):Bool:=decide (c>0)&&((c-1).tmod 2==p.turn)
def takes (p:Place) (w:RWay) (c:Int):Bool:=((c==0)&&(w.2.2.2.1 !=2))||(enemy p c&&(w.2.2.2.1 !=0))
def dyOf (p:Place) (w:RWay):Int:=if p.turn=1 then-w.2.1 else w.2.1
def wayL (r:Rules) (p:Place) (w:RWay):Nat→Int→Int→List Int
  | 0,_,_=>[]
  | n+1,x,y=>bif onB r (x+w.1) (y+dyOf p w) then(bif takes p w (cellI p (sq r (x+w.1) (y+dyOf p w))) then [sq r (x+w.1) (y+dyOf p w)] else [])++(bif cellI p (sq r (x+w.1) (y+dyOf p w))==0 then wayL r p w n (x+w.1) (y+dyOf p w) else []) else []
def wayS (r:Rules) (p:Place) (s:Int) (w:RWay):List Int:=wayL r p w w.2.2.1.toNat (s.tmod r.width) (s.tdiv r.width)

def WayOk (w:RWay):Prop:=(-7≤w.1∧w.1≤7)∧(-7≤w.2.1∧w.2.1≤7)∧¬(w.1=0∧w.2.1=0)∧(1≤w.2.2.1∧w.2.2.1≤7)∧(0≤w.2.2.2.1∧w.2.2.2.1≤2)
theorem Valid.wayOk {r:Rules} {p:Place} (h:Valid r p) {q:Piece} (hq:q∈r.pieces) {w:RWay} (hw:w∈q.2.2.2.1):WayOk w:=h.r0.way q hq w hw
theorem dyOf_rng {p:Place} {w:RWay} (h:WayOk w) : -7≤dyOf p w∧dyOf p w≤7:=by
  unfold dyOf;obtain⟨_,h1,_⟩:=h;split<;>omega
theorem onB_iff {r:Rules} {x y:Int}:onB r x y=true↔0≤x∧x<r.width∧0≤y∧y<r.height:=by simp[onB]
theorem qtE {y W H:Int} (hW:0≤W) (h0:0≤y) (h1:y<H):0≤y*W∧y*W≤W*H-W:=by
  refine⟨Int.mul_nonneg h0 hW,?_⟩;have:=Int.mul_le_mul_of_nonneg_right (show y≤H-1 by omega) hW;rw[Int.sub_mul,Int.one_mul,Int.mul_comm H W] at this;exact this
theorem qxH {r:Rules} (hr:VR0 r) {x y:Int} (h:onB r x y=true):0≤sq r x y∧sq r x y<r.width*r.height:=by
  obtain⟨h1,h2,h3,h4⟩:=onB_iff.1 h;have:=qtE (show 0≤r.width by have:=hr.w1;omega) h3 h4;unfold sq;omega
theorem qis {p:Place} {s:Int} (h0:0≤s) (h1:s<((p.cells.length:Nat):Int)):at? p.1 s=some (cellI p s):=by
  rw[at?_eq p.1 s h0 h1];unfold cellI;have h1':s<((p.1.length:Nat):Int):=h1;rw[List.getD_eq_getElem?_getD,List.getElem?_eq_getElem (by show s.toNat<p.1.length;omega)];rfl
theorem qxT {r:Rules} {p:Place} (h:Valid r p) (s:Int):0≤cellI p s∧cellI p s≤2*((r.pieces.length:Nat):Int):=by
  unfold cellI;rw[List.getD_eq_getElem?_getD]
  cases e:p.cells[s.toNat]? with
  | none=>simp;omega
  | some c=>exact h.cell c (List.mem_of_getElem? e)
theorem qjM {r:Rules} {p:Place} (h:Valid r p) (s:Int):0≤cellI p s∧cellI p s≤12:=by
  have:=qxT h s;have:=h.r0.t6;omega
theorem qxW (r:Rules) (p:Place) (w:RWay):∀(n:Nat) (x y:Int),(wayL r p w n x y).length≤n
  | 0,x,y=>by simp[wayL]
  | n+1,x,y=>by
    unfold wayL;have:=qxW r p w n (x+w.1) (y+dyOf p w);cases onB r (x+w.1) (y+dyOf p w)
    · simp
    · cases takes p w (cellI p (sq r (x+w.1) (y+dyOf p w)))<;>cases (cellI p (sq r (x+w.1) (y+dyOf p w))==0)<;>simp<;>omega
theorem qxi {r:Rules} {p:Place} {w:RWay} {t:Int}:∀ {n:Nat} {x y:Int},t∈wayL r p w n x y→∃j:Int,1≤j∧onB r (x+j*w.1) (y+j*dyOf p w)=true∧t=sq r (x+j*w.1) (y+j*dyOf p w)
  | 0,x,y,h=>by simp[wayL] at h
  | n+1,x,y,h=>by
    unfold wayL at h
    cases hb:onB r (x+w.1) (y+dyOf p w) with
    | false=>simp[hb] at h
    | true =>
      rw[hb,cond_true] at h;rcases List.mem_append.1 h with h | h
      · refine⟨1,by omega,by simpa using hb,?_⟩
        cases ht:takes p w (cellI p (sq r (x+w.1) (y+dyOf p w)))<;>simp[ht] at h
        simpa using h
      · cases hc:(cellI p (sq r (x+w.1) (y+dyOf p w))==0)<;>simp[hc] at h
        obtain⟨j,h1,h2,h3⟩:=qxi h
        have e1:x+w.1+j*w.1=x+(j+1)*w.1:=by rw[Int.add_mul];omega
        have e2:y+dyOf p w+j*dyOf p w=y+(j+1)*dyOf p w:=by rw[Int.add_mul];omega
        rw[e1,e2] at h2 h3;exact⟨j+1,by omega,h2,h3⟩
theorem qp6 {r:Rules} {p:Place} (h:VR0 r) {w:RWay} {n:Nat} {x y t:Int} (ht:t∈wayL r p w n x y):0≤t∧t<r.width*r.height:=by
  obtain⟨j,h1,h2,h3⟩:=qxi ht;rw[h3];exact qxH h h2
theorem qtq {r:Rules} (hr:VR0 r) {s:Int} (h0:0≤s) (h1:s<r.width*r.height):(0≤s.tmod r.width∧s.tmod r.width<r.width)∧0≤s.tdiv r.width∧s.tdiv r.width<r.height:=by
  have hw:=hr.w1;rw[Int.tmod_eq_emod_of_nonneg h0,Int.tdiv_eq_ediv_of_nonneg h0];refine⟨⟨Int.emod_nonneg _ (by omega),Int.emod_lt_of_pos _ (by omega)⟩,Int.ediv_nonneg h0 (by omega),Int.ediv_lt_of_lt_mul (by omega) (by rw[Int.mul_comm];exact h1)⟩
theorem qyk {r:Rules} {p:Place} (h:Valid r p) {w:RWay} (hw:WayOk w) (s:Int) :
    ((((w.2.2.2.1==(0:Int))&&(cellI p s==(0:Int)))||((w.2.2.2.1==(1:Int))&&((cellI p s==(0:Int))||((decide (cellI p s>(0:Int)))&&(((w64 (cellI p s-(1:Int))).tmod (2:Int))!=p.2.2.1)))))||((w.2.2.2.1==(2:Int))&&((decide (cellI p s>(0:Int)))&&(((w64 (cellI p s-(1:Int))).tmod (2:Int))!=p.2.2.1))))=takes p w (cellI p s):=by
  have hc:=qjM h s;rw[qe (n:=cellI p s-1) (by omega) (by omega)];obtain⟨_,_,_,_,h5⟩:=hw
  have h6:w.2.2.2.1=0∨w.2.2.2.1=1∨w.2.2.2.1=2:=by omega
  unfold takes enemy;rw[show p.turn=p.2.2.1 from rfl];generalize hA:(cellI p s==0)=A;have hA':A=true→decide (cellI p s>0)=false:=fun h=>by
    subst hA;rw[beq_iff_eq] at h;simp[h]
  generalize decide (cellI p s>0)=B at hA';generalize ((cellI p s-1).tmod 2 !=p.2.2.1)=C
  rcases h6 with h6 | h6 | h6<;>rw[h6]<;>cases A<;>cases B<;>cases C<;>simp_all
theorem qxg {r:Rules} {p:Place} (h:Valid r p) {w:RWay} (hw:WayOk w):∀(n:Nat) (out:List Int) (x y k:Int),0≤k→k+n=w.2.2.1→out.length≤k.toNat→(0≤x∧x<r.width)→(0≤y∧y<r.height) →
    iterW (qdG w r ((dyOf p w,()),()) p) ((out,x,y,k,()),())=some ((out++wayL r p w n x y,()),())
  | 0,out,x,y,k,h0,hk,ho,hx,hy=>by
    refine qh ?_;unfold qdG
    have:decide (k<w.2.2.1)=false:=by simp;omega
    simp only[this,cond_false,wayL,List.append_nil]
  | n+1,out,x,y,k,h0,hk,ho,hx,hy=>by
    have hr:=h.r0;have hd:=dyOf_rng (p:=p) hw;obtain⟨hdx,_,_,hm,_⟩:=hw;have:=hr.w8;have:=hr.h8;have:=hr.w1;have:=hr.h1;have ha:=hr.area
    have hlt:decide (k<w.2.2.1)=true:=by simp;omega
    have wx:w64 (x+w.1)=x+w.1:=qe (by omega) (by omega);have wy:w64 (y+dyOf p w)=y+dyOf p w:=qe (by omega) (by omega);have wk:w64 (k+1)=k+1:=qe (by omega) (by omega);have hoff:((((decide (x+w.1<(0:Int)))||(decide (x+w.1≥r.2.1)))||(decide (y+dyOf p w<(0:Int))))||(decide (y+dyOf p w≥r.2.2.1))) = !onB r (x+w.1) (y+dyOf p w):=by
      rw[Bool.eq_iff_iff];simp only[Bool.or_eq_true,decide_eq_true_eq,Bool.not_eq_true',onB,decide_eq_false_iff_not];show((x+w.1<0∨x+w.1≥r.width)∨y+dyOf p w<0)∨y+dyOf p w≥r.height↔_;omega
    unfold wayL
    cases hb:onB r (x+w.1) (y+dyOf p w) with
    | false =>
      refine qh ?_;unfold qdG;simp only[hlt,cond_true,wx,wy,hoff,hb,Bool.not_false,cond_false,List.append_nil]
    | true =>
      have hs:=qxH hr hb;obtain⟨b1,b2,b3,b4⟩:=onB_iff.1 hb;have hmul:=qtE (show 0≤r.width by omega) b3 b4;have w1:w64 ((y+dyOf p w)*r.2.1)=(y+dyOf p w)*r.2.1:=qe (by show _≤(y+dyOf p w)*r.width;omega) (by show(y+dyOf p w)*r.width≤_;omega);have w2:w64 ((y+dyOf p w)*r.2.1+(x+w.1))=sq r (x+w.1) (y+dyOf p w):=qe (by show _≤sq r (x+w.1) (y+dyOf p w);omega) (by show sq r (x+w.1) (y+dyOf p w)≤_;omega);have hat:=qis (p:=p) hs.1 (by rw[h.cells];exact hs.2);have hlen:=h.cells
      have hstep:qdG w r ((dyOf p w,()),()) p ((out,x,y,k,()),())=(bif cellI p (sq r (x+w.1) (y+dyOf p w))!=0 then some (.inr ((out++(bif takes p w (cellI p (sq r (x+w.1) (y+dyOf p w))) then [sq r (x+w.1) (y+dyOf p w)] else []),()),())) else some (.inl ((out++(bif takes p w (cellI p (sq r (x+w.1) (y+dyOf p w))) then [sq r (x+w.1) (y+dyOf p w)] else []),x+w.1,y+dyOf p w,k+1,()),()))):=by
        unfold qdG
        simp only[hlt,cond_true,wx,wy,hoff,hb,Bool.not_true,cond_false,w1,w2,wk,hat,Option.bind_some,qyk h ⟨hdx,‹_›,‹_›,hm,‹_›⟩,show ∀b,imp b true=true from fun b=>by cases b<;>rfl,qc]
        have hroom:room (out.length+[sq r (x+w.1) (y+dyOf p w)].length) 8=true:=qI (by simp;omega);cases takes p w (cellI p (sq r (x+w.1) (y+dyOf p w)))
        · simp
        · simp only[cond_true,hroom,qc,Option.bind_some]
      cases hc:(cellI p (sq r (x+w.1) (y+dyOf p w))==0) with
      | true =>
        have hne:(cellI p (sq r (x+w.1) (y+dyOf p w))!=0)=false:=by simp only[bne,hc];rfl
        rw[hne,cond_false] at hstep
        rw[ql hstep,qxg h ⟨hdx,‹_›,‹_›,hm,‹_›⟩ n _ (x+w.1) (y+dyOf p w) (k+1) (by omega) (by omega) (by
          have:(bif takes p w (cellI p (sq r (x+w.1) (y+dyOf p w))) then [sq r (x+w.1) (y+dyOf p w)] else []).length≤1:=by cases takes p w (cellI p (sq r (x+w.1) (y+dyOf p w)))<;>simp
          rw[List.length_append];omega) ⟨b1,b2⟩ ⟨b3,b4⟩]
        simp[List.append_assoc]
      | false =>
        have hne:(cellI p (sq r (x+w.1) (y+dyOf p w))!=0)=true:=by simp only[bne,hc];rfl
        rw[hne,cond_true] at hstep;rw[qh hstep];simp
theorem way_spec {r:Rules} {p:Place} (h:Valid r p) {w:RWay} (hw:WayOk w) {s:Int} (h0:0≤s) (h1:s<r.width*r.height):qpr r p s w=some (wayS r p s w):=by
  have hr:=h.r0;have hd:=qtq hr h0 h1;have:=hr.w8;have:=hr.h8;have:=hr.w1;have:=hr.h1;obtain⟨hdx,hdy,hnz,hm,htk⟩:=id hw;unfold qpr wayS;have hq:(r.2.1 !=0)=true:=bne_t (by show ¬r.width=0;omega);have wdy:(bif (p.2.2.1==(1:Int)) then some (((w64 (0-w.2.1)),()),()) else some ((w.2.1,()),()))=some ((dyOf p w,()),()):=by
    unfold dyOf;by_cases e:p.turn=1
    · rw[if_pos e,beq_t e,cond_true,qe (by omega) (by omega)];simp
    · rw[if_neg e,beq_f e,cond_false]
  have wq:w64 (s.tdiv r.2.1)=s.tdiv r.2.1:=qe (by show _≤s.tdiv r.width;omega) (by show s.tdiv r.width≤_;omega);rw[wdy,Option.bind_some,hq,qc,qc,wq,qxg h hw w.2.2.1.toNat [] _ _ 0 (by omega) (by omega) (by simp) hd.1 hd.2];simp

theorem qpX (x y:Mv):mvLt x y=true↔x.1<y.1∨x.1=y.1∧(x.2.1<y.2.1∨x.2.1=y.2.1∧x.2.2.1<y.2.2.1):=by simp[mvLt]
theorem lt_f (x y:Mv):mvLt x y=false↔¬(x.1<y.1∨x.1=y.1∧(x.2.1<y.2.1∨x.2.1=y.2.1∧x.2.2.1<y.2.2.1)):=by rw[←qpX,Bool.not_eq_true]
theorem mv_eq {x y:Mv} (h1:x.1=y.1) (h2:x.2.1=y.2.1) (h3:x.2.2.1=y.2.2.1):x=y:=by
  obtain⟨a,b,c,⟨⟩⟩:=x;obtain⟨a',b',c',⟨⟩⟩:=y;simp only at h1 h2 h3;subst h1 h2 h3;rfl
theorem qwP (x y:Mv):((x.1==y.1)&&((x.2.1==y.2.1)&&((x.2.2.1==y.2.2.1)&&true)))=decide (x=y):=by
  rw[Bool.eq_iff_iff];simp only[Bool.and_eq_true,beq_iff_eq,decide_eq_true_eq,and_true];constructor
  · rintro ⟨h1,h2,h3⟩;exact mv_eq h1 h2 h3
  · rintro rfl;exact⟨rfl,rfl,rfl⟩

def dd1 (a:Mv):List Mv→List Mv
  | []=>[]
  | x::xs=>if x=a then dd1 a xs else x::dd1 x xs
def dd:List Mv→List Mv
  | []=>[]
  | x::xs=>x::dd1 x xs
theorem qtI (y:Mv):∀(l:List Mv) (a:Mv),dd1 a (l++[y])=dd1 a l++(if (a::l).getLast (by simp)=y then [] else [y])
  | [],a=>by simp only[List.nil_append,dd1,List.getLast_singleton];by_cases h:y=a<;>simp[h,eq_comm]
  | x::xs,a=>by
    simp only[List.cons_append,dd1];by_cases h:x=a
    · subst h;rw[if_pos rfl,if_pos rfl,qtI y xs x];congr 2
    · rw[if_neg h,if_neg h,qtI y xs x,List.cons_append];congr 2
theorem dd_snoc {l:List Mv} (hl:l≠[]) (y:Mv):dd (l++[y])=dd l++(if l.getLast hl=y then [] else [y]):=by
  cases l with
  | nil=>exact absurd rfl hl
  | cons x xs=>simp only[List.cons_append,dd,qtI]
theorem qsO (z:Mv):∀(l:List Mv) (a:Mv),z∈a::dd1 a l↔z∈a::l
  | [],a=>by simp[dd1]
  | x::xs,a=>by
    simp only[dd1];by_cases h:x=a
    · subst h;rw[if_pos rfl,qsO z xs x];simp
    · rw[if_neg h,List.mem_cons,qsO z xs x,←List.mem_cons]
theorem dd_mem (z:Mv) (l:List Mv):z∈dd l↔z∈l:=by
  cases l with
  | nil=>simp[dd]
  | cons x xs=>exact qsO z xs x
theorem dd1_lt:∀(l:List Mv) (a:Mv),(a::l).Pairwise (fun x y=>(!mvLt y x)=true)→(a::dd1 a l).Pairwise (fun x y=>mvLt x y=true)
  | [],a,h=>by simp[dd1]
  | x::xs,a,h=>by
    simp only[dd1];rw[List.pairwise_cons] at h;by_cases e:x=a
    · subst e;rw[if_pos rfl];exact dd1_lt xs x h.2
    · rw[if_neg e,List.pairwise_cons];refine⟨fun z hz=>?_,dd1_lt xs x h.2⟩;have hz':=(qsO z xs x).1 hz;have h1:=h.1 x (by simp);have hax:mvLt a x=true:=by
        rw[Bool.not_eq_true',lt_f] at h1;rw[qpX];by_cases c1:a.1=x.1
        · by_cases c2:a.2.1=x.2.1
          · by_cases c3:a.2.2.1=x.2.2.1
            · exact absurd (mv_eq c1 c2 c3).symm e
            · omega
          · omega
        · omega
      rcases List.mem_cons.1 hz' with rfl | hz2
      · exact hax
      · have h2:=(List.pairwise_cons.1 h.2).1 z hz2;rw[Bool.not_eq_true',lt_f] at h2;rw[qpX] at hax ⊢;omega
theorem dd_lt {l:List Mv} (h:l.Pairwise (fun x y=>(!mvLt y x)=true)):(dd l).Pairwise (fun x y=>mvLt x y=true):=by
  cases l with
  | nil=>simp[dd]
  | cons x xs=>exact dd1_lt xs x h
theorem sort_pw (l:List Mv):(qbU l).Pairwise (fun x y=>(!mvLt y x)=true):=by
  unfold qbU;apply List.pairwise_mergeSort
  · intro a b c h1 h2;rw[Bool.not_eq_true',lt_f] at *;omega
  · intro a b;rw[Bool.or_eq_true,Bool.not_eq_true',Bool.not_eq_true',lt_f,lt_f];omega
theorem sort_mem (z:Mv) (l:List Mv):z∈qbU l↔z∈l:=(List.mergeSort_perm l _).mem_iff
theorem sort_len (l:List Mv):(qbU l).length=l.length:=List.length_mergeSort l
theorem lt_irrefl (x:Mv):mvLt x x=false:=by rw[lt_f];omega
theorem qvg:∀ {l m:List Mv},l.Pairwise (fun x y=>mvLt x y=true)→m.Pairwise (fun x y=>mvLt x y=true)→(∀z,z∈l↔z∈m)→l=m
  | [],[],_,_,_=>rfl
  | [],y::m,_,_,h=>by have:=(h y).2 (by simp);simp at this
  | x::l,[],_,_,h=>by have:=(h x).1 (by simp);simp at this
  | x::l,y::m,hl,hm,h=>by
    rw[List.pairwise_cons] at hl hm;have e:x=y:=by
      rcases List.mem_cons.1 ((h x).1 (by simp)) with e | e
      · exact e
      · rcases List.mem_cons.1 ((h y).2 (by simp)) with e2 | e2
        · exact e2.symm
        · have a:=hm.1 x e;have b:=hl.1 y e2;rw[qpX] at a b;omega
    subst e;congr 1;refine qvg hl.2 hm.2 fun z=>⟨fun hz=>?_,fun hz=>?_⟩
    · rcases List.mem_cons.1 ((h z).1 (by simp[hz])) with e | e
      · subst e;have:=hl.1 z hz;rw[lt_irrefl] at this;cases this
      · exact e
    · rcases List.mem_cons.1 ((h z).2 (by simp[hz])) with e | e
      · subst e;have:=hm.1 z hz;rw[lt_irrefl] at this;cases this
      · exact e

abbrev d0:Mv:=((0:Int),((0:Int),((0:Int),())))
theorem qwU {xs:List Mv} {j:Nat} (h:j<xs.length):xs.take (j+1)=xs.take j++[getD' xs j d0]:=by
  rw[List.take_succ_eq_append_getElem h];simp[getD',h]
theorem dd_take {xs:List Mv} {j:Nat} (h:j<xs.length) (hj:1≤j):dd (xs.take (j+1))=dd (xs.take j)++(if getD' xs (j-1) d0=getD' xs j d0 then [] else [getD' xs j d0]):=by
  have hne:xs.take j≠[]:=by
    intro e;have:=congrArg List.length e;rw[List.length_take] at this;simp only[List.length_nil] at this;omega
  rw[qwU h,dd_snoc hne];have:(xs.take j).getLast hne=getD' xs (j-1) d0:=by
    rw[List.getLast_eq_getElem];simp only[List.getElem_take,List.length_take,getD'];rw[List.getD_eq_getElem?_getD,List.getElem?_eq_getElem (by omega)];simp only[Option.getD_some];congr 1;omega
  rw[this]
theorem compact5 (xs:List Mv) (k0:Nat) (hk0:1≤k0) (hk1:k0<xs.length) (hx:xs.length≤1000000) (hd:dd (xs.take (k0+1))=xs.take k0) :
    ∃r,iterW (qiY (((k0:Int),()),(xs,()))) (((k0:Int),(1:Int),()),(xs,()))=some r∧(∃k:Nat,r.1.1=(k:Int)∧k≤xs.length∧r.2.1.length=xs.length∧r.2.1.take k=dd xs):=by
  refine qr3 (fun x=>∃(k k2:Nat),x.1.1=(k:Int)∧x.1.2.1=(k2:Int)∧1≤k2∧k0+k2≤xs.length∧k0≤k∧k+1≤k0+k2∧x.2.1.length=xs.length∧(∀j,k0+k2≤j+1→getD' x.2.1 j d0=getD' xs j d0)∧x.2.1.take k=dd (xs.take (k0+k2))) (fun x=>xs.length-x.1.2.1.toNat) _ ?_ _ ⟨k0,1,rfl,rfl,by omega,by omega,by omega,by omega,rfl,fun _ _=>rfl,by rw[hd]⟩
  rintro ⟨⟨k,k2,⟨⟩⟩,ys,⟨⟩⟩ ⟨K,K2,e1,e2,h1,h2,h3,h4,h5,h6,h7⟩
  simp only at e1 e2 h5 h6 h7;subst e1 e2;unfold qiY;simp only[Int.toNat_natCast];by_cases hlt:K2<xs.length-k0
  · left
    have c1:decide ((K2:Int)<((xs.length-k0:Nat):Int))=true:=by simp;omega
    have c2:inb (K2:Int) (xs.length-k0)=true:=inb_iff.2 ⟨by omega,by omega⟩
    have w1:w64 ((K2:Int)-1)=((K2-1:Nat):Int):=by rw[qe (by omega) (by omega)];omega
    have c3:inb ((K2-1:Nat):Int) (xs.length-k0)=true:=inb_iff.2 ⟨by omega,by omega⟩
    have w2:w64 ((K2:Int)+1)=((K2+1:Nat):Int):=by rw[qe (by omega) (by omega)];omega
    have w3:w64 ((K:Int)+1)=((K+1:Nat):Int):=by rw[qe (by omega) (by omega)];omega
    have c4:inb (K:Int) ys.length=true:=inb_iff.2 ⟨by omega,by omega⟩;have g1:getD' ys (k0+K2) d0=getD' xs (k0+K2) d0:=h6 _ (by omega);have g2:getD' ys (k0+(K2-1)) d0=getD' xs (k0+(K2-1)) d0:=h6 _ (by omega);have hdd:=dd_take (xs:=xs) (j:=k0+K2) (by omega) (by omega);simp only[c1,cond_true,c2,qc,w1,Int.toNat_natCast,c3,w2,w3,c4,qwP,g1,g2];by_cases he:getD' xs (k0+K2) d0=getD' xs (k0+(K2-1)) d0
    · refine⟨(((K:Int),((K2+1:Nat):Int),()),(ys,())),by simp[he],⟨K,K2+1,rfl,rfl,by omega,by omega,by omega,by omega,h5,fun j hj=>h6 j (by omega),?_⟩,by simp;omega⟩;rw[show k0+(K2+1)=k0+K2+1 by omega,hdd,if_pos (by rw[he];congr 1;omega),List.append_nil];exact h7
    · refine⟨((((K+1:Nat):Int),((K2+1:Nat):Int),()),(ys.set K (getD' xs (k0+K2) d0),())),by simp[he],⟨K+1,K2+1,rfl,rfl,by omega,by omega,by omega,by omega,by simp[h5],fun j hj=>?_,?_⟩,by simp;omega⟩
      · rw[←h6 j (by omega)];simp only[getD'];simp only[List.getD_eq_getElem?_getD];rw[List.getElem?_set_ne (by omega)]
      · rw[show k0+(K2+1)=k0+K2+1 by omega,hdd,if_neg (by intro e;apply he;rw[←e];congr 1;omega),←h7];rw[List.take_succ_eq_append_getElem (by simp;omega)];simp[List.take_set_of_le]
  · right
    have c1:decide ((K2:Int)<((xs.length-k0:Nat):Int))=false:=by simp;omega
    refine⟨(((K:Int),()),(ys,())),by simp only[c1,cond_false],K,rfl,by omega,h5,?_⟩;rw[h7,show k0+K2=xs.length by omega,List.take_length]
theorem compact4 (xs:List Mv) (hx:xs.length≤1000000) (h2:2≤xs.length) :
    (Option.bind (α:=((Unit)×((List Mv)×Unit)) ⊕ (((List Mv)×Unit)×(Unit))) (iterW qgb (((1:Int),()),(xs,()))) (Sum.elim (fun x23=>some ((x23.2.1,()),())) some))=some ((dd xs,()),()):=by
  obtain⟨r,hr,hq⟩:=qr3 (f:=qgb) (fun x=>∃k:Nat,x=(((k:Int),()),(xs,()))∧1≤k∧k≤xs.length∧dd (xs.take k)=xs.take k) (fun x=>xs.length-x.1.1.toNat) (fun r=>r = .inl ((),(xs,()))∧dd xs=xs∨r = .inr ((dd xs,()),())) (by
    rintro x ⟨k,rfl,h1,h3,h4⟩
    unfold qgb;simp only[Int.toNat_natCast];by_cases hlt:k<xs.length
    · have c1:decide ((k:Int)<((xs.length:Nat):Int))=true:=by simp;omega
      have c2:inb (k:Int) xs.length=true:=inb_iff.2 ⟨by omega,by omega⟩
      have w1:w64 ((k:Int)-1)=((k-1:Nat):Int):=by rw[qe (by omega) (by omega)];omega
      have c3:inb ((k-1:Nat):Int) xs.length=true:=inb_iff.2 ⟨by omega,by omega⟩
      have w2:w64 ((k:Int)+1)=((k+1:Nat):Int):=by rw[qe (by omega) (by omega)];omega
      have c4:qo (k:Int) ((xs.length:Nat):Int) xs.length=true:=by simp[qo];omega
      have hdd:=dd_take hlt h1;simp only[c1,cond_true,c2,qc,w1,Int.toNat_natCast,c3,c4,qwP];by_cases he:getD' xs k d0=getD' xs (k-1) d0
      · right;rw[if_pos he.symm,List.append_nil,h4] at hdd;obtain⟨r,hr,K,e1,e2,e3,e4⟩:=compact5 xs k h1 hlt hx hdd;obtain⟨⟨k',⟨⟩⟩,ys,⟨⟩⟩:=r;simp only at e1 e3 e4;subst e1;refine⟨.inr ((dd xs,()),()),?_,.inr rfl⟩;rw[hr]
        have c5:qo (K:Int) ((ys.length:Nat):Int) ys.length=true:=by simp[qo];omega
        have c6:∀l:List Mv,K≤l.length→qo 0 (K:Int) l.length=true:=fun l hl=>by simp[qo];omega
        simp only[he,decide_true,cond_true,Option.bind_some,c5,qc,Int.toNat_natCast];rw[c6 _ (by simp;omega),qc,Option.bind_some,Sum.elim_inr,List.take_append_of_le_length (by simp;omega),List.take_take,Nat.min_self,e4]
      · left;refine⟨((((k+1:Nat):Int),()),(xs,())),?_,⟨k+1,rfl,by omega,by omega,?_⟩,by simp;omega⟩
        · simp only[he,decide_false,cond_false,Option.bind_some,Sum.elim_inl,w2]
        · rw[hdd,if_neg (fun e=>he e.symm),h4,←qwU hlt]
    · right
      have c1:decide ((k:Int)<((xs.length:Nat):Int))=false:=by simp;omega
      refine⟨.inl ((),(xs,())),by simp only[c1,cond_false],.inl ⟨rfl,?_⟩⟩
      have:k=xs.length:=by omega
      rw[this,List.take_length] at h4
      exact h4) (((1:Int),()),(xs,())) ⟨1,rfl,by omega,by omega,by
        cases xs with
        | nil=>rfl
        | cons x l=>rfl⟩
  rw[hr];rcases hq with ⟨rfl,e⟩ | rfl
  · rw[e];rfl
  · rfl

def qcz (p:Place):List Int:=getD' [p.2.1.1,p.2.1.2.1] (p.2.2.1).toNat []
theorem qnl {r:Rules} {p:Place} (h:Valid r p):qcz p=if p.turn=0 then p.h0 else p.h1:=by
  unfold qcz;rcases h.turn with e | e
  · rw[if_pos e,show p.2.2.1=0 from e];rfl
  · rw[if_neg (by omega),show p.2.2.1=1 from e];rfl
theorem qpi {r:Rules} {p:Place} (h:Valid r p):(qcz p).length=r.pieces.length:=by
  rw[qnl h];split
  · exact h.l0
  · exact h.l1
theorem qwQ {r:Rules} {p:Place} (h:Valid r p):∀c∈qcz p,0≤c∧c≤1000:=by
  rw[qnl h];split
  · exact h.hand0
  · exact h.hand1
def handI (p:Place) (k:Int):Int:=(qcz p).getD k.toNat 0
theorem at_hand {p:Place} {k:Int} (h0:0≤k) (h1:k<(((qcz p).length:Nat):Int)):at? (getD' [p.2.1.1,p.2.1.2.1] (p.2.2.1).toNat []) k=some (handI p k):=by
  show at? (qcz p) k=_;rw[at?_eq _ k h0 h1];unfold handI;rw[List.getD_eq_getElem?_getD,List.getElem?_eq_getElem (by omega)];rfl
def colF (p:Place) (W x0:Int):Nat→Bool
  | 0=>true
  | y+1=>colF p W x0 y&&(cellI p (x0+(y:Int)*W)!=0)
def qk3 (r:Rules) (p:Place) (s:Int):Bool:=colF p r.width (s.tmod r.width) (s.tdiv r.width).toNat
theorem div_eq {W s:Int} (hW:1≤W) (h0:0≤s):s=s.tmod W+((s.tdiv W).toNat:Int)*W:=by
  have h1:=Int.tmod_add_tdiv_mul s W
  have h2:0≤s.tdiv W:=by rw[Int.tdiv_eq_ediv_of_nonneg h0];exact Int.ediv_nonneg h0 (by omega)
  rw[Int.toNat_of_nonneg h2];exact h1.symm
theorem qpI {r:Rules} {p:Place} (h:Valid r p) {x0:Int} (hx:0≤x0∧x0<r.width):∀(y:Nat),(y:Int)≤r.height →
    (Option.bind (α:=((Unit)×(Unit)) ⊕ Bool) (iterW (qb9 p r) ((x0+(y:Int)*r.width-r.width,()),())) (Sum.elim (fun x3=>some true) some))=some (colF p r.width x0 y)
  | 0,hy=>by
    rw[qh (r := .inl ((),())) (by
      unfold qb9
      have:decide (x0+((0:Nat):Int)*r.width-r.width≥0)=false:=by simp;omega
      simp only[this,cond_false])]
    rfl
  | y+1,hy=>by
    have hr:=h.r0;have:=hr.w8;have:=hr.h8;have:=hr.w1;have:=hr.h1;have ha:=hr.area;have hb:onB r x0 (y:Int)=true:=onB_iff.2 ⟨hx.1,hx.2,by omega,by omega⟩;have hs:=qxH hr hb;have hm:=qtE (show 0≤r.width by omega) (show(0:Int)≤(y:Int) by omega) (show(y:Int)<r.height by omega);have e:x0+((y+1:Nat):Int)*r.width-r.width=x0+(y:Int)*r.width:=by
      rw[show((y+1:Nat):Int)=(y:Int)+1 by omega,Int.add_mul];omega
    rw[e];have hat:=qis (p:=p) (s:=x0+(y:Int)*r.width) (by omega) (by rw[h.cells];omega)
    have hge:decide (x0+(y:Int)*r.width≥0)=true:=by simp;omega
    cases hc:(cellI p (x0+(y:Int)*r.width)==0) with
    | true =>
      rw[qh (r := .inr false) (by
        unfold qb9
        simp only[hge,cond_true,hat,Option.bind_some,hc])]
      simp[colF,bne,hc]
    | false =>
      rw[ql (y:=((x0+(y:Int)*r.width-r.width,()),())) (by
        unfold qb9;simp only[hge,cond_true,hat,Option.bind_some,hc,cond_false]
        rw[qe (n:=x0+(y:Int)*r.width-r.2.1) (by show _≤x0+(y:Int)*r.width-r.width;omega) (by show x0+(y:Int)*r.width-r.width≤_;omega)]),qpI h hx y (by omega)]
      simp[colF,bne,hc]
theorem qwf {r:Rules} {p:Place} (h:Valid r p) {s:Int} (h0:0≤s) (h1:s<r.width*r.height):qhz r p s=some (qk3 r p s):=by
  have hr:=h.r0;have:=hr.w8;have:=hr.h8;have:=hr.w1;have:=hr.h1;have ha:=hr.area;have hd:=qtq hr h0 h1;have e:=div_eq hr.w1 h0;unfold qhz qk3;rw[qe (n:=s-r.2.1) (by show _≤s-r.width;omega) (by show s-r.width≤_;omega)];have:=qpI h hd.1 (s.tdiv r.width).toNat (by omega);rw[←e] at this;exact this
def putOk (r:Rules) (p:Place) (s:Int):Bool:=(cellI p s==0)&&(!r.falls||qk3 r p s)
def qh7 (r:Rules) (p:Place) (s:Nat):List Mv:=bif putOk r p (s:Int) then(List.range (qcz p).length).flatMap (fun k:Nat=>bif decide (handI p (k:Int)>0) then [((-1:Int),((s:Int),((k:Int),())))] else []) else []
theorem fm_len1 {A:Type} (n:Nat) (F:Nat→List A) (h:∀k,(F k).length≤1):((List.range n).flatMap F).length≤n:=by
  have:=qbT F 1 (List.range n) (fun k _=>h k);simpa using this
theorem qnQ {r:Rules} {p:Place} (h:Valid r p) (s:Nat):(qh7 r p s).length≤6:=by
  unfold qh7;cases putOk r p (s:Int)
  · simp
  · rw[cond_true];refine Nat.le_trans (fm_len1 _ _ fun k=>?_) (by rw[qpi h];exact h.r0.t6)
    cases decide (handI p (k:Int)>0)<;>simp
theorem qbw {r:Rules} {p:Place} (h:Valid r p):p.1.length≤64:=by
  have:=h.cells;have:=h.r0.area;have h1:((p.1.length:Nat):Int)=r.width*r.height:=h.cells;omega
theorem puts_spec {r:Rules} {p:Place} (h:Valid r p):qmD r p=some ((List.range p.1.length).flatMap (qh7 r p)):=by
  have hr:=h.r0;have:=hr.w8;have:=hr.h8;have:=hr.w1;have:=hr.h1;have ha:=hr.area;have hlen:((p.1.length:Nat):Int)=r.width*r.height:=h.cells;have h64:=qbw h
  have hh:(qcz p).length≤6:=by rw[qpi h];exact hr.t6
  unfold qmD;rw[qhN (A:=Mv) p.1.length 6 (qgm p r) (qh7 r p) (fun a=>((a,()),())) [] (fun i _=>qnQ h i) (fun i hi a hal=>?_) (fun a=>?_)]
  · simp
  · unfold qgm
    have c1:decide ((i:Int)<((p.1.length:Nat):Int))=true:=by simp;omega
    have hat:=qis (p:=p) (s:=(i:Int)) (by omega) (by show(i:Int)<((p.1.length:Nat):Int);omega);simp only[c1,cond_true,hat,Option.bind_some];have hf:=qwf h (s:=(i:Int)) (by omega) (by omega);have hfil:(i:Int)<r.width→qk3 r p (i:Int)=true:=fun hlt=>by
      unfold qk3;rw[Int.tdiv_eq_ediv_of_nonneg (by omega),Int.ediv_eq_zero_of_lt (by omega) hlt];rfl
    rw[hf]
    have hg:∀b c:Bool,gopt b false (some c)=some (b&&c):=fun b c=>by cases b<;>rfl
    rw[hg,Option.bind_some];have hcond:((cellI p (i:Int)!=(0:Int))||((r.2.2.2.2.2.1&&(decide ((i:Int)≥r.2.1)))&&(!(((r.2.2.2.2.2.1&&(decide ((i:Int)≥r.2.1)))&&(!(cellI p (i:Int)!=(0:Int))))&&qk3 r p (i:Int))))) = !putOk r p (i:Int):=by
      unfold putOk;rw[show r.2.2.2.2.2.1=r.falls from rfl];by_cases hlt:(i:Int)<r.width
      · rw[hfil hlt,show decide ((i:Int)≥r.2.1)=false by simp;exact hlt];simp only[bne]
        cases (cellI p (i:Int)==0)<;>cases r.falls<;>rfl
      · rw[show decide ((i:Int)≥r.2.1)=true by simp;show r.width≤(i:Int);omega];simp only[bne]
        cases (cellI p (i:Int)==0)<;>cases r.falls<;>cases qk3 r p (i:Int)<;>rfl
    rw[hcond,qe (n:=(i:Int)+1) (by omega) (by omega)];unfold qh7
    cases hp:putOk r p (i:Int) with
    | false=>simp
    | true =>
      have hin:inb p.2.2.1 2=true:=inb_iff.2 (by have:=h.turn;show 0≤p.turn∧p.turn<((2:Nat):Int);omega);simp only[Bool.not_true,cond_false,cond_true,hin,qc]
      rw[qhN (A:=Mv) (qcz p).length 1 (qf3 p ((a,(i:Int),()),())) (fun k=>bif decide (handI p (k:Int)>0) then [((-1:Int),((i:Int),((k:Int),())))] else []) (fun a=>((a,()),())) a (fun k _=>by cases decide (handI p (k:Int)>0)<;>simp) (fun k hk a2 ha2=>?_) (fun a2=>?_)]
      · rfl
      · unfold qf3;have c2:decide ((k:Int)<(((getD' [p.2.1.1,p.2.1.2.1] (p.2.2.1).toNat []).length:Nat):Int))=true:=by
          have:k<(getD' [p.2.1.1,p.2.1.2.1] (p.2.2.1).toNat []).length:=hk;simp;exact this
        have hat2:=at_hand (p:=p) (k:=(k:Int)) (by omega) (by omega);simp only[c2,cond_true,hat2,Option.bind_some];rw[qe (n:=(k:Int)+1) (by omega) (by omega)];cases decide (handI p (k:Int)>0)
        · simp
        · have hroom:room (a2.length+[((-1:Int),((i:Int),((k:Int),())))].length) 24=true:=qI (by
            simp only[List.length_singleton,List.length_nil] at *;have:i*6≤64*6:=Nat.mul_le_mul_right _ (by omega)
            omega)
          simp only[cond_true,hroom,qc,Option.bind_some]
      · unfold qf3;have c2:decide ((((qcz p).length:Nat):Int)<(((getD' [p.2.1.1,p.2.1.2.1] (p.2.2.1).toNat []).length:Nat):Int))=false:=by
          show decide ((((qcz p).length:Nat):Int)<(((qcz p).length:Nat):Int))=false;simp
        simp only[c2,cond_false]
  · unfold qgm;simp

def lastB (r:Rules) (pl t:Int):Bool:=bif pl==0 then t.tdiv r.width==r.height-1 else t.tdiv r.width==0
theorem qqH {r:Rules} (hr:VR0 r) (pl:Int) {t:Int} (h0:0≤t) (h1:t<r.width*r.height):qfo r pl t=some (lastB r pl t):=by
  have:=hr.w8;have:=hr.h8;have:=hr.w1;have:=hr.h1;have hd:=qtq hr h0 h1;have hq:(r.2.1 !=0)=true:=bne_t (by show ¬r.width=0;omega);have w1:w64 (t.tdiv r.2.1)=t.tdiv r.width:=qe (by show _≤t.tdiv r.width;omega) (by show t.tdiv r.width≤_;omega);have w2:w64 (r.2.2.1-1)=r.height-1:=qe (by show _≤r.height-1;omega) (by show r.height-1≤_;omega);unfold qfo lastB;rw[hq,qc,qc,w1,w2];exact qY _ _ _
def qch (r:Rules) (k:Int):Piece:=r.pieces.getD k.toNat (0,0,0,[],())
theorem qtF {r:Rules} {k:Int} (h0:0≤k) (h1:k<((r.pieces.length:Nat):Int)):at? r.2.2.2.1 k=some (qch r k)∧qch r k∈r.pieces:=by
  have h1':k<((r.2.2.2.1.length:Nat):Int):=h1;rw[at?_eq r.2.2.2.1 k h0 h1];unfold qch;rw[List.getD_eq_getElem?_getD,List.getElem?_eq_getElem (by show k.toNat<r.2.2.2.1.length;omega)];exact⟨rfl,List.getElem_mem _⟩
def qbW (c:Int):Int:=(c-1).tdiv 2
theorem qmq {r:Rules} {p:Place} (h:Valid r p) {s:Int} (hm:cellI p s>0):w64 ((w64 (cellI p s-1)).tdiv 2)=qbW (cellI p s)∧0≤qbW (cellI p s)∧qbW (cellI p s)<((r.pieces.length:Nat):Int):=by
  have hc:=qxT h s;have ht:=h.r0.t6;rw[qe (n:=cellI p s-1) (by omega) (by omega)];unfold qbW;rw[Int.tdiv_eq_ediv_of_nonneg (by omega)];refine⟨qe (by omega) (by omega),by omega,by omega⟩
def becomes (r:Rules) (p:Place) (k t:Int):Int:=bif decide ((qch r k).2.2.1>0)&&lastB r p.turn t then(qch r k).2.2.1-1 else k
def goAt (r:Rules) (p:Place) (s:Nat):List Mv:=bif mineB p (cellI p (s:Int)) then(qch r (qbW (cellI p (s:Int)))).2.2.2.1.flatMap (fun w=>(wayS r p (s:Int) w).map fun t=>((s:Int),(t,(becomes r p (qbW (cellI p (s:Int))) t,())))) else []
theorem qna {A C:Type} (l:List C) (F:C→List A) (d:C):(List.range l.length).flatMap (fun i=>F (l.getD i d))=l.flatMap F:=by
  induction l with
  | nil=>rfl
  | cons x l ih =>
    rw[List.length_cons,List.range_succ_eq_map,List.flatMap_cons,List.flatMap_cons,List.flatMap_map]
    have e:(fun a=>F ((x::l).getD a.succ d))=fun i=>F (l.getD i d):=by funext i;simp
    rw[e,ih];rfl
theorem map_range {A C:Type} (l:List C) (F:C→A) (d:C):(List.range l.length).flatMap (fun i=>[F (l.getD i d)])=l.map F:=by
  rw[qna l (fun x=>[F x]) d]
  induction l with
  | nil=>rfl
  | cons x l ih=>rw[List.flatMap_cons,List.map_cons,ih];rfl
theorem qwj {r:Rules} {p:Place} {s:Int} {w:RWay} (hw:WayOk w):(wayS r p s w).length≤7:=by
  obtain⟨_,_,_,h4,_⟩:=hw;exact Nat.le_trans (qxW _ _ _ _ _ _) (by omega)
theorem qxM {r:Rules} {p:Place} (h:Valid r p) (s:Nat):(goAt r p s).length≤112:=by
  unfold goAt
  cases hm:mineB p (cellI p (s:Int)) with
  | false=>simp
  | true =>
    have hc:cellI p (s:Int)>0:=by unfold mineB at hm;simp at hm;exact hm.1
    have hk:=qmq h hc;have hmem:=(qtF (r:=r) hk.2.1 hk.2.2).2;rw[cond_true];refine Nat.le_trans (qbT _ 7 _ fun w hw=>?_) ?_
    · rw[List.length_map];exact qwj (h.wayOk hmem hw)
    · have:=h.r0.ways _ hmem;omega
def qdS (r:Rules) (p:Place):List Mv:=(List.range p.1.length).flatMap (qh7 r p)++(List.range p.1.length).flatMap (goAt r p)
theorem list_raw {r:Rules} {p:Place} (h:Valid r p):iterW (qdY p r) (((List.range p.1.length).flatMap (qh7 r p),(0:Int),()),())=some ((qdS r p,()),()):=by
  have hr:=h.r0;have:=hr.w8;have:=hr.h8;have:=hr.w1;have:=hr.h1;have ha:=hr.area;have hlen:((p.1.length:Nat):Int)=r.width*r.height:=h.cells;have h64:=qbw h;have hpl:((List.range p.1.length).flatMap (qh7 r p)).length≤64*6:=by
    refine Nat.le_trans (qbT _ 6 _ fun i _=>qnQ h i) ?_;rw[List.length_range];exact Nat.mul_le_mul_right _ h64
  unfold qdS;generalize (List.range p.1.length).flatMap (qh7 r p)=pl at hpl;refine qhN (A:=Mv) p.1.length 112 (qdY p r) (goAt r p) (fun a=>((a,()),())) pl (fun i _=>qxM h i) (fun i hi a hal=>?_) (fun a=>?_)
  · have hal2:a.length≤64*6+64*112:=by
      have:i*112≤64*112:=Nat.mul_le_mul_right _ (by omega);omega
    unfold qdY
    have c1:decide ((i:Int)<((p.1.length:Nat):Int))=true:=by simp;omega
    have hat:=qis (p:=p) (s:=(i:Int)) (by omega) (by show(i:Int)<((p.1.length:Nat):Int);omega);have hc:=qjM h (i:Int)
    have hi2:(i:Int)<r.width*r.height:=by omega
    simp only[c1,cond_true,hat,Option.bind_some,show ∀b,imp b true=true from fun b=>by cases b<;>rfl,qc]
    have hcond:((cellI p (i:Int)==(0:Int))||(((w64 (cellI p (i:Int)-(1:Int))).tmod (2:Int))!=p.2.2.1)) = !mineB p (cellI p (i:Int)):=by
      rw[qe (n:=cellI p (i:Int)-1) (by omega) (by omega)];unfold mineB;rw[show p.turn=p.2.2.1 from rfl];by_cases hz:cellI p (i:Int)=0
      · simp[hz]
      · rw[beq_f hz,show decide (cellI p (i:Int)>0)=true by simp;omega];simp[bne]
    rw[hcond,qe (n:=(i:Int)+1) (by omega) (by omega)];unfold goAt
    cases hm:mineB p (cellI p (i:Int)) with
    | false=>simp
    | true =>
      have hcp:cellI p (i:Int)>0:=by unfold mineB at hm;simp at hm;exact hm.1
      have hk:=qmq h hcp;obtain⟨hpa,hmem⟩:=qtF (r:=r) hk.2.1 hk.2.2;simp only[Bool.not_true,cond_false,hk.1,hpa,Option.bind_some,cond_true];generalize hK:qbW (cellI p (i:Int))=K at *;have hways:=h.r0.ways _ hmem;have hWl:(qch r K).2.2.2.1.length≤16:=hways;rw[qhN (A:=Mv) (qch r K).2.2.2.1.length 7 (qfV (qch r K) r p ((a,(i:Int),()),()) (cellI p (i:Int))) (fun j=>(wayS r p (i:Int) ((qch r K).2.2.2.1.getD j (0,0,0,0,()))).map fun t=>((i:Int),(t,(becomes r p K t,())))) (fun a=>((a,()),())) a (fun j hj=>?_) (fun j hj a2 ha2=>?_) (fun a2=>?_)]
      · rw[qna (qch r K).2.2.2.1 (fun w=>(wayS r p (i:Int) w).map fun t=>((i:Int),(t,(becomes r p K t,())))) (0,0,0,0,())];rfl
      · rw[List.length_map,List.getD_eq_getElem?_getD,List.getElem?_eq_getElem hj];exact qwj (h.wayOk hmem (List.getElem_mem hj))
      · have ha22:a2.length≤64*6+64*112+112:=by
          have:j*7≤16*7:=Nat.mul_le_mul_right _ (by omega);omega
        unfold qfV
        have c2:decide ((j:Int)<(((qch r K).2.2.2.1.length:Nat):Int))=true:=by simp;omega
        have hatw:at? (qch r K).2.2.2.1 (j:Int)=some ((qch r K).2.2.2.1.getD j (0,0,0,0,())):=by
          rw[at?_eq _ _ (by omega) (by omega),List.getD_eq_getElem?_getD,List.getElem?_eq_getElem hj];rfl
        have hwm:(qch r K).2.2.2.1.getD j (0,0,0,0,())∈(qch r K).2.2.2.1:=by
          rw[List.getD_eq_getElem?_getD,List.getElem?_eq_getElem hj];exact List.getElem_mem hj
        have hwo:=h.wayOk hmem hwm;simp only[c2,cond_true,hatw,Option.bind_some];generalize (qch r K).2.2.2.1.getD j (0,0,0,0,())=w at *;rw[way_spec h hwo (by omega) hi2,Option.bind_some];have hwl:=qwj (r:=r) (p:=p) (s:=(i:Int)) hwo;have hwr:∀t∈wayS r p (i:Int) w,0≤t∧t<r.width*r.height:=fun t ht=>qp6 hr ht;generalize wayS r p (i:Int) w=T at *;rw[qhN (A:=Mv) T.length 1 (qgc T r (cellI p (i:Int)) p ((a,(i:Int),()),())) (fun t=>[((i:Int),(T.getD t 0,(becomes r p K (T.getD t 0),())))]) (fun a=>((a,()),())) a2 (fun _ _=>by simp) (fun t ht a3 ha3=>?_) (fun a3=>?_)]
        · rw[map_range T (fun t=>((i:Int),(t,(becomes r p K t,())))) 0];simp only[Option.bind_some];rw[qe (n:=(j:Int)+1) (by omega) (by omega)]
        · unfold qgc
          have c3:decide ((t:Int)<((T.length:Nat):Int))=true:=by simp;omega
          have c4:inb (t:Int) T.length=true:=inb_iff.2 ⟨by omega,by omega⟩;have hg:getD' T t (0:Int)=T.getD t 0:=rfl;have htr:=hwr (T.getD t 0) (by rw[List.getD_eq_getElem?_getD,List.getElem?_eq_getElem ht];exact List.getElem_mem ht);simp only[c3,cond_true,c4,qc,hk.1,hpa,Option.bind_some,Int.toNat_natCast,hg];generalize T.getD t 0=tt at *;rw[qqH hr p.2.2.1 htr.1 htr.2];have hpr:=h.r0.prom _ hmem;have ht6:=h.r0.t6
          have hgo:∀b c:Bool,gopt b false (some c)=some (b&&c):=fun b c=>by cases b<;>rfl
          rw[hgo,Option.bind_some,qe (n:=(qch r K).2.2.1-1) (by omega) (by omega),qe (n:=(t:Int)+1) (by omega) (by omega)];unfold becomes;rw[show p.turn=p.2.2.1 from rfl];have hroom:room (a3.length+1) 24=true:=qI (by omega)
          cases decide ((qch r K).2.2.1>0)<;>cases lastB r p.2.2.1 tt<;>simp[hroom,qc]
        · unfold qgc;simp
      · unfold qfV;simp
  · unfold qdY;simp
theorem raw_len {r:Rules} {p:Place} (h:Valid r p):(qdS r p).length≤10000:=by
  have h64:=qbw h;unfold qdS;rw[List.length_append];have h1:((List.range p.1.length).flatMap (qh7 r p)).length≤64*6:=by
    refine Nat.le_trans (qbT _ 6 _ fun i _=>qnQ h i) ?_;rw[List.length_range];exact Nat.mul_le_mul_right _ h64
  have h2:((List.range p.1.length).flatMap (goAt r p)).length≤64*112:=by
    refine Nat.le_trans (qbT _ 112 _ fun i _=>qxM h i) ?_;rw[List.length_range];exact Nat.mul_le_mul_right _ h64
  omega
theorem list_dd {r:Rules} {p:Place} (h:Valid r p):qap r p=some (dd (qbU (qdS r p))):=by
  unfold qap;rw[puts_spec h,Option.bind_some,list_raw h,Option.bind_some];have hl:=raw_len h;have hb:Nat.blt (qdS r p).length 4611686018427387904=true:=by
    rw[Nat.blt_eq];omega
  simp only[hb,qc];have hs:=sort_len (qdS r p);generalize qbU (qdS r p)=xs at hs;by_cases h2:xs.length<2
  · have c:decide (((xs.length:Nat):Int)<2)=true:=by simp;omega
    rw[c,cond_true];have:dd xs=xs:=by
      match xs,h2 with
      | [],_=>rfl
      | [x],_=>rfl
    rw[this];rfl
  · have c:decide (((xs.length:Nat):Int)<2)=false:=by simp;omega
    rw[c,cond_false,compact4 xs (by omega) (by omega)];rfl

def mvOk (r:Rules) (p:Place) (m:Mv):Bool:=decide ((-1≤m.1∧m.1<((p.1.length:Nat):Int))∧(0≤m.2.1∧m.2.1<((p.1.length:Nat):Int))∧(0≤m.2.2.1∧m.2.2.1<((r.pieces.length:Nat):Int)))
def goOk (r:Rules) (p:Place) (m:Mv):Bool:=mineB p (cellI p m.1)&&((becomes r p (qbW (cellI p m.1)) m.2.1==m.2.2.1)&&(qch r (qbW (cellI p m.1))).2.2.2.1.any (fun w=>decide (m.2.1∈wayS r p m.1 w)))
def qE (r:Rules) (p:Place) (m:Mv):Bool:=mvOk r p m&&(bif m.1 == -1 then decide (handI p m.2.2.1>0)&&putOk r p m.2.1 else goOk r p m)
def at3 (r:Rules) (p:Place) (i j k:Nat):List Mv:=bif qE r p ((i:Int)-1,((j:Int),((k:Int),()))) then [((i:Int)-1,((j:Int),((k:Int),())))] else []
def at2 (r:Rules) (p:Place) (i j:Nat):List Mv:=(List.range r.2.2.2.1.length).flatMap (at3 r p i j)
def at1 (r:Rules) (p:Place) (i:Nat):List Mv:=(List.range p.1.length).flatMap (at2 r p i)
def qan (r:Rules) (p:Place):List Mv:=(List.range (p.1.length+1)).flatMap (at1 r p)
theorem at3_len (r:Rules) (p:Place) (i j k:Nat):(at3 r p i j k).length≤1:=by unfold at3;cases qE r p ((i:Int)-1,((j:Int),((k:Int),())))<;>simp
theorem at2_len {r:Rules} {p:Place} (h:Valid r p) (i j:Nat):(at2 r p i j).length≤6:=Nat.le_trans (fm_len1 _ _ (at3_len r p i j)) h.r0.t6
theorem at1_len {r:Rules} {p:Place} (h:Valid r p) (i:Nat):(at1 r p i).length≤384:=by
  refine Nat.le_trans (qbT _ 6 _ fun j _=>at2_len h i j) ?_;have:=qbw h;rw[List.length_range];omega
theorem qtr (n:Nat) (F:Nat→List Mv) (h1:∀i,i<n→(F i).Pairwise (fun x y=>mvLt x y=true)) (h2:∀i j,i<j→∀x∈F i,∀y∈F j,mvLt x y=true):((List.range n).flatMap F).Pairwise (fun x y=>mvLt x y=true):=by
  rw[List.pairwise_flatMap];exact⟨fun i hi=>h1 i (List.mem_range.1 hi),List.pairwise_lt_range.imp fun hij=>h2 _ _ hij⟩
theorem qwL {r:Rules} {p:Place} {i j k:Nat} {x:Mv} (h:x∈at3 r p i j k):x=((i:Int)-1,((j:Int),((k:Int),())))∧qE r p x=true:=by
  unfold at3 at h
  cases hb:qE r p ((i:Int)-1,((j:Int),((k:Int),()))) with
  | false=>simp[hb] at h
  | true =>
    rw[hb,cond_true,List.mem_singleton] at h;rw[h];exact⟨rfl,hb⟩
theorem qvI {r:Rules} {p:Place} {i j:Nat} {x:Mv} (h:x∈at2 r p i j):x.1=(i:Int)-1∧x.2.1=(j:Int)∧qE r p x=true:=by
  obtain⟨k,_,hk⟩:=List.mem_flatMap.1 h;obtain⟨e,h2⟩:=qwL hk;refine⟨by rw[e],by rw[e],h2⟩
theorem qv8 {r:Rules} {p:Place} {i:Nat} {x:Mv} (h:x∈at1 r p i):x.1=(i:Int)-1∧qE r p x=true:=by
  obtain⟨j,_,hj⟩:=List.mem_flatMap.1 h;obtain⟨h1,_,h3⟩:=qvI hj;exact⟨h1,h3⟩
theorem qhG {r:Rules} {p:Place} (x:Mv):x∈qan r p↔qE r p x=true:=by
  constructor
  · intro h;obtain⟨i,_,hi⟩:=List.mem_flatMap.1 h;exact(qv8 hi).2
  · intro h
    have hok:mvOk r p x=true:=by unfold qE at h;simp only[Bool.and_eq_true] at h;exact h.1
    unfold mvOk at hok;rw[decide_eq_true_eq] at hok;obtain⟨⟨a1,a2⟩,⟨b1,b2⟩,c1,c2⟩:=hok;have c2':x.2.2.1<((r.2.2.2.1.length:Nat):Int):=c2;have e:(((((x.1+1).toNat:Nat):Int)-1,(((x.2.1.toNat:Nat):Int),(((x.2.2.1.toNat:Nat):Int),()))):Mv)=x:=mv_eq (by show(((x.1+1).toNat:Nat):Int)-1=x.1;omega) (by show((x.2.1.toNat:Nat):Int)=x.2.1;omega) (by show((x.2.2.1.toNat:Nat):Int)=x.2.2.1;omega);refine List.mem_flatMap.2 ⟨(x.1+1).toNat,List.mem_range.2 (by omega),List.mem_flatMap.2 ⟨x.2.1.toNat,List.mem_range.2 (by omega),List.mem_flatMap.2 ⟨x.2.2.1.toNat,List.mem_range.2 (by omega),?_⟩⟩⟩;unfold at3;rw[e,h,cond_true,List.mem_singleton]
theorem qyz (r:Rules) (p:Place):(qan r p).Pairwise (fun x y=>mvLt x y=true):=by
  refine qtr _ _ (fun i _=>qtr _ _ (fun j _=>qtr _ _ (fun k _=>?_) fun k k' hk x hx y hy=>?_) fun j j' hj x hx y hy=>?_) fun i i' hi x hx y hy=>?_
  · unfold at3
    cases qE r p ((i:Int)-1,((j:Int),((k:Int),())))<;>simp
  · obtain⟨ex,_⟩:=qwL hx;obtain⟨ey,_⟩:=qwL hy
    have e1:x.1=(i:Int)-1:=by rw[ex]
    have e2:x.2.1=(j:Int):=by rw[ex]
    have e3:x.2.2.1=(k:Int):=by rw[ex]
    have f1:y.1=(i:Int)-1:=by rw[ey]
    have f2:y.2.1=(j:Int):=by rw[ey]
    have f3:y.2.2.1=(k':Int):=by rw[ey]
    rw[qpX];omega
  · obtain⟨e1,e2,_⟩:=qvI hx;obtain⟨f1,f2,_⟩:=qvI hy;rw[qpX];omega
  · obtain⟨e1,_⟩:=qv8 hx;obtain⟨f1,_⟩:=qv8 hy;rw[qpX];omega
theorem raw_mem {r:Rules} {p:Place} (h:Valid r p) (x:Mv):x∈qdS r p↔qE r p x=true:=by
  have hr:=h.r0;have hlen:((p.1.length:Nat):Int)=r.width*r.height:=h.cells;have hh:=qpi h;unfold qdS;rw[List.mem_append];constructor
  · rintro (hx | hx)
    · obtain⟨s,hs,hx⟩:=List.mem_flatMap.1 hx;rw[List.mem_range] at hs;unfold qh7 at hx
      cases hp:putOk r p (s:Int) with
      | false=>simp[hp] at hx
      | true =>
        rw[hp,cond_true] at hx;obtain⟨k,hk,hx⟩:=List.mem_flatMap.1 hx;rw[List.mem_range] at hk
        cases hd:decide (handI p (k:Int)>0) with
        | false=>simp[hd] at hx
        | true =>
          rw[hd,cond_true,List.mem_singleton] at hx;have hok:mvOk r p x=true:=by
            unfold mvOk;rw[decide_eq_true_eq,hx];simp only;omega
          unfold qE;rw[hok,Bool.true_and,hx];simp only[beq_t rfl,cond_true,hd,hp,Bool.and_self]
    · obtain⟨s,hs,hx⟩:=List.mem_flatMap.1 hx;rw[List.mem_range] at hs;unfold goAt at hx
      cases hm:mineB p (cellI p (s:Int)) with
      | false=>simp[hm] at hx
      | true =>
        have hcp:cellI p (s:Int)>0:=by unfold mineB at hm;simp at hm;exact hm.1
        have hk:=qmq h hcp;obtain⟨hpa,hmem⟩:=qtF (r:=r) hk.2.1 hk.2.2;rw[hm,cond_true] at hx;obtain⟨w,hw,hx⟩:=List.mem_flatMap.1 hx;obtain⟨t,ht,hx⟩:=List.mem_map.1 hx;have htr:0≤t∧t<r.width*r.height:=qp6 hr ht;have hpr:=hr.prom _ hmem;have hbr:0≤becomes r p (qbW (cellI p (s:Int))) t∧becomes r p (qbW (cellI p (s:Int))) t<((r.pieces.length:Nat):Int):=by
          unfold becomes
          cases hb:(decide ((qch r (qbW (cellI p (s:Int)))).2.2.1>0)&&lastB r p.turn t) with
          | false=>exact hk.2
          | true =>
            simp only[Bool.and_eq_true,decide_eq_true_eq] at hb;rw[cond_true];omega
        have hok:mvOk r p x=true:=by
          unfold mvOk;rw[decide_eq_true_eq,←hx];simp only;omega
        unfold qE goOk;rw[hok,Bool.true_and,←hx];simp only;rw[beq_f (by omega),cond_false,hm,Bool.true_and,beq_t rfl,Bool.true_and,List.any_eq_true];exact⟨w,hw,by simpa using ht⟩
  · intro hx;unfold qE at hx;rw[Bool.and_eq_true] at hx;obtain⟨hok,hx⟩:=hx;unfold mvOk at hok;rw[decide_eq_true_eq] at hok;obtain⟨⟨a1,a2⟩,⟨b1,b2⟩,c1,c2⟩:=hok;by_cases hm:x.1 = -1
    · rw[beq_t hm,cond_true,Bool.and_eq_true] at hx;left
      have e1:((x.2.1.toNat:Nat):Int)=x.2.1:=by omega
      have e2:((x.2.2.1.toNat:Nat):Int)=x.2.2.1:=by omega
      refine List.mem_flatMap.2 ⟨x.2.1.toNat,List.mem_range.2 (by omega),?_⟩;unfold qh7;rw[e1,hx.2,cond_true];refine List.mem_flatMap.2 ⟨x.2.2.1.toNat,List.mem_range.2 (by omega),?_⟩;rw[e2,hx.1,cond_true,List.mem_singleton];exact mv_eq hm rfl rfl
    · rw[beq_f hm,cond_false] at hx;unfold goOk at hx;simp only[Bool.and_eq_true,beq_iff_eq,List.any_eq_true,decide_eq_true_eq] at hx;obtain⟨h1,h2,w,hw,ht⟩:=hx;right
      have e1:((x.1.toNat:Nat):Int)=x.1:=by omega
      refine List.mem_flatMap.2 ⟨x.1.toNat,List.mem_range.2 (by omega),?_⟩;unfold goAt;rw[e1,h1,cond_true];refine List.mem_flatMap.2 ⟨w,hw,List.mem_map.2 ⟨x.2.1,ht,?_⟩⟩;exact mv_eq rfl rfl h2
theorem qjp {r:Rules} {p:Place} (h:Valid r p):qap r p=some (qan r p):=by
  rw[list_dd h];congr 1;refine qvg (dd_lt (sort_pw _)) (qyz r p) fun z=>?_;rw[dd_mem,sort_mem,raw_mem h,qhG]

def own (r:Rules) (p:Place) (pl x y:Int):Bool:=onB r x y&&(decide (cellI p (sq r x y)>0)&&((cellI p (sq r x y)-1).tmod 2==pl))
def runB (r:Rules) (p:Place) (pl:Int) (n:Nat) (x y dx dy:Int):Bool:=(List.range n).all fun i=>own r p pl (x+(i:Int)*dx) (y+(i:Int)*dy)
theorem runB_cons (r:Rules) (p:Place) (pl:Int) (n:Nat) (x y dx dy:Int):runB r p pl (n+1) x y dx dy=(own r p pl x y&&runB r p pl n (x+dx) (y+dy) dx dy):=by
  unfold runB;rw[List.range_succ_eq_map,List.all_cons,List.all_map];have e:((fun i:Nat=>own r p pl (x+(i:Int)*dx) (y+(i:Int)*dy))∘Nat.succ)=fun i:Nat=>own r p pl (x+dx+(i:Int)*dx) (y+dy+(i:Int)*dy):=by
    funext i;simp only[Function.comp]
    have e1:x+((i.succ:Nat):Int)*dx=x+dx+(i:Int)*dx:=by rw[show((i.succ:Nat):Int)=(i:Int)+1 by omega,Int.add_mul];omega
    have e2:y+((i.succ:Nat):Int)*dy=y+dy+(i:Int)*dy:=by rw[show((i.succ:Nat):Int)=(i:Int)+1 by omega,Int.add_mul];omega
    rw[e1,e2]
  rw[e];simp
theorem own_on {r:Rules} {p:Place} {pl x y:Int} (h:own r p pl x y=true):onB r x y=true:=by unfold own at h;rw[Bool.and_eq_true] at h;exact h.1
abbrev dX (d:Nat):Int:=getD' [(1:Int),(0:Int),(1:Int),(1:Int)] d 0
abbrev dY (d:Nat):Int:=getD' [(0:Int),(1:Int),(1:Int),(-1:Int)] d 0
def lineB (r:Rules) (p:Place) (pl c:Int):Bool:=(List.range p.1.length).any fun s=>(List.range 4).any fun d=>runB r p pl c.toNat ((s:Int).tmod r.width) ((s:Int).tdiv r.width) (dX d) (dY d)
theorem dX_rng (d:Nat) : -1≤dX d∧dX d≤1:=by
  match d with
  | 0=>decide
  | 1=>decide
  | 2=>decide
  | 3=>decide
  | n+4=>simp[dX,getD']
theorem dY_rng (d:Nat) : -1≤dY d∧dY d≤1:=by
  match d with
  | 0=>decide
  | 1=>decide
  | 2=>decide
  | 3=>decide
  | n+4=>simp[dY,getD']
theorem line3 {r:Rules} {p:Place} (h:Valid r p) {pl c:Int} (d:Nat) (hc:c≤64):∀(m:Nat) (x y n:Int),0≤n→n+m=c→(-1≤x∧x≤8)→(-1≤y∧y≤8) →
    ∃n',iterW (qfj c r p pl (((d:Int),()),())) ((x,y,n,()),())=some ((n',()),())∧(n'==c)=runB r p pl m x y (dX d) (dY d)
  | 0,x,y,n,h0,hn,hx,hy=>by
    refine⟨n,qh ?_,?_⟩
    · unfold qfj
      have:decide (n<c)=false:=by simp;omega
      simp only[this,cond_false,Option.bind_some]
    · rw[beq_t (by omega)];rfl
  | m+1,x,y,n,h0,hn,hx,hy=>by
    have hr:=h.r0;have:=hr.w8;have:=hr.h8;have:=hr.w1;have:=hr.h1;have ha:=hr.area
    have hlt:decide (n<c)=true:=by simp;omega
    have hoff:((((decide (x<(0:Int)))||(decide (x≥r.2.1)))||(decide (y<(0:Int))))||(decide (y≥r.2.2.1))) = !onB r x y:=by
      rw[Bool.eq_iff_iff];simp only[Bool.or_eq_true,decide_eq_true_eq,Bool.not_eq_true',onB,decide_eq_false_iff_not];show((x<0∨x≥r.width)∨y<0)∨y≥r.height↔_;omega
    have hown:(bif (decide (n<c)) then(bif ((((decide (x<(0:Int)))||(decide (x≥r.2.1)))||(decide (y<(0:Int))))||(decide (y≥r.2.2.1))) then some ((false,()),())
        else Option.bind (at? p.1 (w64 ((w64 (y*r.2.1))+x))) fun d4 =>
        req (imp (decide (d4>(0:Int))) true) (some ((((decide (d4>(0:Int)))&&(((w64 (d4-(1:Int))).tmod (2:Int))==pl)),()),())))
        else some ((false,()),()))=some ((own r p pl x y,()),()):=by
      rw[hlt,cond_true,hoff];unfold own
      cases hb:onB r x y with
      | false=>rfl
      | true =>
        have hs:=qxH hr hb;obtain⟨b1,b2,b3,b4⟩:=onB_iff.1 hb;have hmul:=qtE (show 0≤r.width by omega) b3 b4;have w1:w64 (y*r.2.1)=y*r.2.1:=qe (by show _≤y*r.width;omega) (by show y*r.width≤_;omega);have w2:w64 (y*r.2.1+x)=sq r x y:=qe (by show _≤sq r x y;omega) (by show sq r x y≤_;omega);have hcs:=qjM h (sq r x y);rw[w1,w2,qis (p:=p) hs.1 (by rw[h.cells];exact hs.2)]
        simp only[Bool.not_true,cond_false,Option.bind_some,show ∀b,imp b true=true from fun b=>by cases b<;>rfl,qc,Bool.true_and]
        rw[qe (n:=cellI p (sq r x y)-1) (by omega) (by omega)]
    rw[runB_cons]
    cases ho:own r p pl x y with
    | false =>
      refine⟨n,qh ?_,?_⟩
      · unfold qfj;rw[hown,ho];rfl
      · rw[beq_f (by omega)];rfl
    | true =>
      obtain⟨b1,b2,b3,b4⟩:=onB_iff.1 (own_on ho);have r1:=dX_rng d;have r2:=dY_rng d;obtain⟨n',e1,e2⟩:=line3 h (pl:=pl) d hc m (x+dX d) (y+dY d) (n+1) (by omega) (by omega) (by omega) (by omega);refine⟨n',?_,by rw[e2];simp⟩
      rw[ql (y:=((x+dX d,y+dY d,n+1,()),())) (by
        unfold qfj;rw[hown,ho];simp only[Option.bind_some,cond_true,Int.toNat_natCast]
        rw[qe (n:=x+dX d) (by omega) (by omega),qe (n:=y+dY d) (by omega) (by omega),qe (n:=n+1) (by omega) (by omega)])]
      exact e1
theorem line_spec {r:Rules} {p:Place} (h:Valid r p) (pl:Int) {c:Int} (hc1:1≤c) (hc:c≤64):qpm r p pl c=some (lineB r p pl c):=by
  have hr:=h.r0;have:=hr.w8;have:=hr.h8;have:=hr.w1;have:=hr.h1;have ha:=hr.area;have hlen:((p.1.length:Nat):Int)=r.width*r.height:=h.cells;have hq:(r.2.1 !=0)=true:=bne_t (by show ¬r.width=0;omega);unfold qpm
  have hL:=qQ (List.range p.1.length) (fun s=>(List.range 4).any fun d=>runB r p pl c.toNat ((s:Int).tmod r.width) ((s:Int).tdiv r.width) (dX d) (dY d)) (qhu p r c pl) (.inr true) (.inl ((),())) (fun s hs=>by
    have hs':s<p.1.length:=by simpa using hs
    have hdv:=qtq hr (show(0:Int)≤(s:Int) by omega) (show(s:Int)<r.width*r.height by omega)
    have hL2:=qQ (List.range 4) (fun d=>runB r p pl c.toNat ((s:Int).tmod r.width) ((s:Int).tdiv r.width) (dX d) (dY d)) (qht r c p pl (((s:Int),()),())) (.inr (.inr (.inr (.inr true)))) (.inl ((),())) (fun d hd=>by
      have hd':d<4:=by simpa using hd
      have w1:w64 ((s:Int).tdiv r.2.1)=(s:Int).tdiv r.width:=qe (by show _≤(s:Int).tdiv r.width;omega) (by show(s:Int).tdiv r.width≤_;omega);obtain⟨n',e1,e2⟩:=line3 h (pl:=pl) (c:=c) d hc c.toNat ((s:Int).tmod r.width) ((s:Int).tdiv r.width) 0 (by omega) (by omega) (by omega) (by omega);unfold qht;simp only[show decide ((d:Int)<4)=true by simp;omega,cond_true,show inb (d:Int) 4=true from inb_iff.2 ⟨by omega,by omega⟩,qc,hq,w1];rw[show((s:Int).tmod r.2.1)=(s:Int).tmod r.width from rfl,e1,Option.bind_some];simp only[List.getElem_range];rw[←e2,qe (n:=(d:Int)+1) (by omega) (by omega)]
      cases (n'==c)<;>rfl) (by
      unfold qht
      rfl)
    unfold qhu;simp only[show decide ((s:Int)<((p.1.length:Nat):Int))=true by simp;omega,cond_true,List.getElem_range];rw[hL2,qe (n:=(s:Int)+1) (by omega) (by omega)]
    cases (List.range 4).any (fun d=>runB r p pl c.toNat ((s:Int).tmod r.width) ((s:Int).tdiv r.width) (dX d) (dY d))<;>rfl) (by
    unfold qhu
    simp)
  rw[hL];unfold lineB
  cases (List.range p.1.length).any (fun s=>(List.range 4).any fun d=>runB r p pl c.toNat ((s:Int).tmod r.width) ((s:Int).tdiv r.width) (dX d) (dY d))<;>rfl

def reachB (r:Rules) (p:Place) (x:End) (mover:Int):Bool:=(List.range p.1.length).any fun s=>(cellI p (s:Int)==2*x.2.1+mover+1)&&lastB r mover (s:Int)
def fewOf (p:Place) (x:End) (mover:Int):Int:=((p.1.countP (fun c=>c==2*x.2.1+1-mover+1):Nat):Int)
def metB (r:Rules) (p:Place) (x:End) (mover:Int):Bool:=bif x.1==0 then lineB r p mover x.2.2.1 else bif x.1==1 then reachB r p x mover else decide (fewOf p x mover<x.2.2.1)
structure EndOk (r:Rules) (x:End):Prop where
  kind:0≤x.1∧x.1≤2
  cnt:x.1=0→1≤x.2.2.1∧x.2.2.1≤64
  pc:0≤x.2.1∧x.2.1≤6
theorem Valid.endOk {r:Rules} {p:Place} (h:Valid r p) {x:End} (hx:x∈r.ends):EndOk r x:=by
  obtain⟨h1,h2,h3⟩:=h.r0.ends x hx;have ht:=h.r0.t6;refine⟨h1,fun e=>?_,?_⟩
  · rw[if_neg (by omega)] at h2;exact h2
  · split at h3<;>omega
theorem cell_get (p:Place) (i:Nat) (hi:i<p.1.length):cellI p (i:Int)=p.1[i]:=by
  unfold cellI;rw[List.getD_eq_getElem?_getD,Int.toNat_natCast];simp[hi]
theorem qyJ {r:Rules} {p:Place} (h:Valid r p) {x:End} (hx:EndOk r x) {mover:Int} (hm:mover=0∨mover=1):qma r p x mover=some (metB r p x mover):=by
  have hr:=h.r0;have ha:=hr.area;have h64:=qbw h;have hlen:((p.1.length:Nat):Int)=r.width*r.height:=h.cells;have hp:=hx.pc;unfold qma metB;by_cases k0:x.1=0
  · rw[beq_t k0,cond_true,cond_true,line_spec h mover (hx.cnt k0).1 (hx.cnt k0).2];rfl
  · rw[beq_f k0,cond_false,cond_false];by_cases k1:x.1=1
    · rw[beq_t k1,cond_true,cond_true]
      have hL:=qQ (List.range p.1.length) (fun s=>(cellI p (s:Int)==2*x.2.1+mover+1)&&lastB r mover (s:Int)) (qgq p x mover r) (.inr (.inr true)) (.inl ((),())) (fun s hs=>by
        have hs':s<p.1.length:=by simpa using hs
        unfold qgq;simp only[show decide ((s:Int)<((p.1.length:Nat):Int))=true by simp;omega,cond_true,List.getElem_range];rw[qis (p:=p) (s:=(s:Int)) (by omega) (by show(s:Int)<((p.1.length:Nat):Int);omega),Option.bind_some,qqH hr mover (by omega) (by omega)];rw[qe (n:=2*x.2.1) (by omega) (by omega),qe (n:=2*x.2.1+mover) (by omega) (by omega),qe (n:=2*x.2.1+mover+1) (by omega) (by omega),qe (n:=(s:Int)+1) (by omega) (by omega)]
        cases (cellI p (s:Int)==2*x.2.1+mover+1)<;>cases lastB r mover (s:Int)<;>rfl) (by
        unfold qgq
        simp)
      rw[hL];unfold reachB
      cases (List.range p.1.length).any (fun s=>(cellI p (s:Int)==2*x.2.1+mover+1)&&lastB r mover (s:Int))<;>rfl
    · rw[beq_f k1,cond_false,cond_false,Option.bind_some,Sum.elim_inl]
      have hL:=qsn p.1 (fun c=>c==2*x.2.1+1-mover+1) (qfH p x mover) (fun c=>((c,()),())) (fun i hi c c0 ci=>by
        unfold qfH;simp only[show decide ((i:Int)<((p.1.length:Nat):Int))=true by simp;omega,cond_true];rw[qis (p:=p) (s:=(i:Int)) (by omega) (by show(i:Int)<((p.1.length:Nat):Int);omega),Option.bind_some,cell_get p i hi];rw[qe (n:=2*x.2.1) (by omega) (by omega),qe (n:=2*x.2.1+1) (by omega) (by omega),qe (n:=2*x.2.1+1-mover) (by omega) (by omega),qe (n:=2*x.2.1+1-mover+1) (by omega) (by omega),qe (n:=(i:Int)+1) (by omega) (by omega),qe (n:=c+1) (by omega) (by omega)];cases (p.1[i]==2*x.2.1+1-mover+1)<;>rfl) (fun c=>by
        unfold qfH
        simp)
      rw[hL];rfl
def endE (r:Rules) (p:Place) (i:Nat):Option (((Unit)×(Unit)) ⊕ Int):=match r.2.2.2.2.2.2.2.1[i]? with
  | some x=>bif metB r p x (1-p.turn) then some (.inr (bif x.2.2.2.1 then 1+p.turn else 1+(1-p.turn))) else none
  | none=>none
def qxC (r:Rules) (p:Place):Int:=bif r.blocked==0 then 1+(1-p.turn) else bif r.blocked==1 then 1+p.turn else 3
def qc3 (r:Rules) (p:Place):Int:=match scan (endE r p) (.inl ((),())) 0 r.2.2.2.2.2.2.2.1.length with
  | .inl _=>bif (r.quiet !=0)&&decide (p.quiet≥r.quiet) then 3 else bif decide ((((qan r p).length:Nat):Int)>0) then 0 else qxC r p
  | .inr v=>v
theorem turn_w {r:Rules} {p:Place} (h:Valid r p):w64 ((1:Int)-p.2.2.1)=1-p.turn∧w64 ((1:Int)+p.2.2.1)=1+p.turn∧w64 (1+(1-p.turn))=1+(1-p.turn)∧w64 (1+p.turn)=1+p.turn:=by
  have ht:=h.turn;refine⟨qe (by show _≤1-p.turn;omega) (by show 1-p.turn≤_;omega),qe (by show _≤1+p.turn;omega) (by show 1+p.turn≤_;omega),qe (by omega) (by omega),qe (by omega) (by omega)⟩
theorem qpu {r:Rules} {p:Place} (h:Valid r p):qeW r p=some (qc3 r p):=by
  have ht:=h.turn;obtain⟨t1,t2,t3,t4⟩:=turn_w h;have h6:r.2.2.2.2.2.2.2.1.length≤6:=h.r0.ends6;unfold qeW qc3
  have hL:=qjO r.2.2.2.2.2.2.2.1.length (qeD r p) (endE r p) (.inl ((),())) (fun i hi=>by
    unfold qeD endE;rw[List.getElem?_eq_getElem hi];simp only[show decide ((i:Int)<((r.2.2.2.2.2.2.2.1.length:Nat):Int))=true by simp;omega,cond_true];rw[at?_eq r.2.2.2.2.2.2.2.1 (i:Int) (by omega) (by omega),Option.bind_some,t1];simp only[Int.toNat_natCast];rw[qyJ h (h.endOk (List.getElem_mem hi)) (by omega),Option.bind_some];cases metB r p r.2.2.2.2.2.2.2.1[i] (1-p.turn)
    · simp only[cond_false];rw[qe (n:=(i:Int)+1) (by omega) (by omega)];rfl
    · simp only[cond_true,show decide ((i:Int)≥0)=true by simp,Option.bind_some];unfold qdd;rw[t3,show p.2.2.1=p.turn from rfl,t4]
      cases (r.2.2.2.2.2.2.2.1[i]).2.2.2.1<;>rfl) (by
    unfold qeD
    simp)
  rw[hL,Option.bind_some]
  cases scan (endE r p) (.inl ((),())) 0 r.2.2.2.2.2.2.2.1.length with
  | inr v=>rfl
  | inl u =>
    simp only[Sum.elim_inl];rw[show((r.2.2.2.2.2.2.2.2.2.1 !=(0:Int))&&(decide (p.2.2.2.1≥r.2.2.2.2.2.2.2.2.2.1)))=((r.quiet !=0)&&decide (p.quiet≥r.quiet)) from rfl];cases ((r.quiet !=0)&&decide (p.quiet≥r.quiet))
    · rw[cond_false,cond_false,qjp h,Option.bind_some];cases decide ((((qan r p).length:Nat):Int)>0)
      · rw[cond_false,cond_false,t1];unfold qxC qdd;rw[t3,show p.2.2.1=p.turn from rfl,t4,show r.2.2.2.2.2.2.2.2.1=r.blocked from rfl]
        cases (r.blocked==0)<;>cases (r.blocked==1)<;>rfl
      · rfl
    · rfl

def qpP (p:Place) (m:Mv):Int:=2*m.2.2.1+p.turn+1
def cellsA (p:Place) (m:Mv):List Int:=(bif decide (m.1≥0) then p.1.set m.1.toNat 0 else p.1).set m.2.1.toNat (qpP p m)
def handD (m:Mv) (h:List Int):List Int:=bif decide (m.1≥0) then h else h.set m.2.2.1.toNat (h.getD m.2.2.1.toNat 0-1)
def handK (r:Rules) (c:Int) (h:List Int):List Int:=bif decide (c>0)&&r.keeps then h.set (qbW c).toNat (if 1000<h.getD (qbW c).toNat 0+1 then 1000 else h.getD (qbW c).toNat 0+1) else h
def handA (r:Rules) (p:Place) (m:Mv) (h:List Int):List Int:=handK r (cellI p m.2.1) (handD m h)
def qrM (p:Place) (m:Mv):Int:=bif decide (cellI p m.2.1>0)||decide (m.1<0) then 0 else if 200<p.quiet+1 then 200 else p.quiet+1
def qjc (r:Rules) (p:Place) (m:Mv):Place:=(cellsA p m,((bif p.turn==0 then handA r p m p.2.1.1 else p.2.1.1),(bif p.turn==0 then p.2.1.2.1 else handA r p m p.2.1.2.1),()),1-p.turn,qrM p m,())
theorem copy_spec {r:Rules} {p:Place} (h:Valid r p):qfn p=some p:=by
  have h64:=qbw h;have ht:=h.r0.t6;have a0:p.2.1.1.length=r.pieces.length:=h.l0;have a1:p.2.1.2.1.length=r.pieces.length:=h.l1;unfold qfn;rw[qf6 p.1 (by omega),qf6 p.2.1.1 (by omega),qf6 p.2.1.2.1 (by omega)];simp only[Option.bind_some,agree_self]
theorem qhv {r:Rules} {p:Place} {m:Mv} (ha:qE r p m=true):(-1≤m.1∧m.1<((p.1.length:Nat):Int))∧(0≤m.2.1∧m.2.1<((p.1.length:Nat):Int))∧(0≤m.2.2.1∧m.2.2.1<((r.pieces.length:Nat):Int)):=by
  unfold qE mvOk at ha;rw[Bool.and_eq_true,decide_eq_true_eq] at ha;exact ha.1
theorem qlk {r:Rules} {p:Place} {m:Mv} (ha:qE r p m=true) (hm:m.1 = -1):handI p m.2.2.1>0∧cellI p m.2.1=0:=by
  unfold qE putOk at ha;rw[beq_t hm,cond_true] at ha;simp only[Bool.and_eq_true,decide_eq_true_eq,beq_iff_eq] at ha;exact⟨ha.2.1,ha.2.2.1⟩
theorem qqM (m:Mv) (h:List Int):(handD m h).length=h.length:=by unfold handD;cases decide (m.1≥0)<;>simp
theorem quU (r:Rules) (c:Int) (h:List Int):(handK r c h).length=h.length:=by unfold handK;cases (decide (c>0)&&r.keeps)<;>simp
theorem qpg {l:List Int} {b:Int} (hb:0≤b) (h:∀c∈l,0≤c∧c≤b) (i:Nat):0≤l.getD i 0∧l.getD i 0≤b:=by
  rw[List.getD_eq_getElem?_getD]
  cases e:l[i]? with
  | none=>simp;exact hb
  | some c=>exact h c (List.mem_of_getElem? e)
theorem qun {r:Rules} {p:Place} {m:Mv} (h:Valid r p) (ha:qE r p m=true):∀c∈handD m (qcz p),0≤c∧c≤1000:=by
  have hr:=qwQ h;unfold handD
  cases hd:decide (m.1≥0) with
  | true=>exact hr
  | false =>
    intro c hc;rw[cond_false] at hc
    have hm:m.1 = -1:=by have:=(qhv ha).1.1;simp at hd;omega
    have hp:=(qlk ha hm).1;have hg:=qpg (by omega) hr m.2.2.1.toNat;rcases List.mem_or_eq_of_mem_set hc with h1 | h1
    · exact hr c h1
    · unfold handI at hp;omega
theorem handK_rng {r:Rules} {c:Int} {h:List Int} (hh:∀x∈h,0≤x∧x≤1000):∀x∈handK r c h,0≤x∧x≤1000:=by
  unfold handK
  cases (decide (c>0)&&r.keeps) with
  | false=>exact hh
  | true =>
    intro x hx;have hg:=qpg (by omega) hh (qbW c).toNat;rcases List.mem_or_eq_of_mem_set hx with h1 | h1
    · exact hh x h1
    · rw[h1];split<;>omega
theorem qt5 {r:Rules} {p:Place} {m:Mv} (hv:Valid r p) (ha:qE r p m=true) (l:List Int) (hl:l=qcz p) :
    (decide (m.1≥0)=false→inb m.2.2.1 l.length=true∧w64 (getD' l m.2.2.1.toNat 0-1)=l.getD m.2.2.1.toNat 0-1) ∧
    (decide (cellI p m.2.1>0)=true→inb (qbW (cellI p m.2.1)) (handD m l).length=true∧w64 (getD' (handD m l) (qbW (cellI p m.2.1)).toNat 0+1)=(handD m l).getD (qbW (cellI p m.2.1)).toNat 0+1):=by
  subst hl;have hr:=qwQ hv;have hl:=qpi hv;obtain⟨r1,r2,r3⟩:=qhv ha;refine⟨fun _=>⟨inb_iff.2 ⟨r3.1,by rw[hl];exact r3.2⟩,?_⟩,fun hc=>⟨?_,?_⟩⟩
  · have:=qpg (by omega) hr m.2.2.1.toNat;exact qe (by show _≤(qcz p).getD m.2.2.1.toNat 0-1;omega) (by show(qcz p).getD m.2.2.1.toNat 0-1≤_;omega)
  · have hk:=qmq hv (of_decide_eq_true hc);exact inb_iff.2 ⟨hk.2.1,by rw[qqM,hl];exact hk.2.2⟩
  · have:=qpg (by omega) (qun hv ha) (qbW (cellI p m.2.1)).toNat;exact qe (by show _≤(handD m (qcz p)).getD (qbW (cellI p m.2.1)).toNat 0+1;omega) (by show(handD m (qcz p)).getD (qbW (cellI p m.2.1)).toNat 0+1≤_;omega)
theorem qmu {r:Rules} {p:Place} {m:Mv} (h:Valid r p) (ha:qE r p m=true):qv r p m=some (qjc r p m):=by
  obtain⟨r1,r2,r3⟩:=qhv ha;have ht6:=h.r0.t6;have hq:=h.quiet;have htn:=h.turn;have h64:=qbw h;have hto:inb m.2.1 p.1.length=true:=inb_iff.2 r2;have wv:w64 (w64 (w64 (2*m.2.2.1)+p.2.2.1)+1)=qpP p m:=by
    unfold qpP;rw[show p.2.2.1=p.turn from rfl,qe (n:=2*m.2.2.1) (by omega) (by omega),qe (n:=2*m.2.2.1+p.turn) (by omega) (by omega),qe (by omega) (by omega)]
  have wq:w64 (p.2.2.2.1+1)=p.quiet+1:=qe (by show _≤p.quiet+1;omega) (by show p.quiet+1≤_;omega);have wt:w64 (1-p.2.2.1)=1-p.turn:=(turn_w h).1;have hcell:getD' p.1 m.2.1.toNat 0=cellI p m.2.1:=rfl;have hin:inb p.2.2.1 2=true:=inb_iff.2 (by show 0≤p.turn∧p.turn<((2:Nat):Int);omega);have wk:decide (cellI p m.2.1>0)=true→w64 ((w64 (cellI p m.2.1-1)).tdiv 2)=qbW (cellI p m.2.1):=fun hc=>(qmq h (of_decide_eq_true hc)).1;have hho:qcz p=if p.turn=0 then p.2.1.1 else p.2.1.2.1:=qnl h;have hneg:decide (m.1<0) = !decide (m.1≥0):=by
    rw[Bool.eq_iff_iff];simp only[decide_eq_true_eq,Bool.not_eq_true',decide_eq_false_iff_not];omega
  unfold qv qjc;rw[copy_spec h,Option.bind_some];simp only[hcell,hto,qc,wv,wq,wt,hin,hneg];rcases htn with e | e
  · have e':p.2.2.1=0:=e;rw[if_pos e] at hho;obtain⟨k1,k2⟩:=qt5 h ha p.2.1.1 hho.symm;simp only[e',e,show((0:Int)==0)=true from rfl,cond_true];unfold handA cellsA qrM handK;simp only[hneg]
    cases hd:decide (m.1≥0) with
    | true =>
      have hf:inb m.1 p.1.length=true:=inb_iff.2 ⟨of_decide_eq_true hd,r1.2⟩
      have hD:handD m p.2.1.1=p.2.1.1:=by unfold handD;rw[hd];rfl
      rw[hD] at k2 ⊢;simp only[cond_true,hf,qc,Option.bind_some,List.length_set,hto]
      cases hc:decide (cellI p m.2.1>0) with
      | false=>rfl
      | true =>
        obtain⟨k3,k4⟩:=k2 hc
        cases hk:r.2.2.2.2.2.2.1 with
        | false=>rw[show r.keeps=false from hk];rfl
        | true =>
          rw[show r.keeps=true from hk];simp only[Bool.true_and,cond_true,wk hc,k3,qc,k4,Option.bind_some];rfl
    | false =>
      obtain⟨k5,k6⟩:=k1 hd
      have hD:handD m p.2.1.1=p.2.1.1.set m.2.2.1.toNat (p.2.1.1.getD m.2.2.1.toNat 0-1):=by unfold handD;rw[hd];rfl
      have hz:decide (cellI p m.2.1>0)=false:=by
        have:=(qlk ha (by simp at hd;omega)).2;rw[this];rfl
      rw[hD];simp only[cond_false,k5,k6,qc,Option.bind_some,hz,Bool.false_and,hto];rfl
  · have e':p.2.2.1=1:=e;rw[if_neg (by omega)] at hho;obtain⟨k1,k2⟩:=qt5 h ha p.2.1.2.1 hho.symm;simp only[e',e,show((1:Int)==0)=false from rfl,cond_false];unfold handA cellsA qrM handK;simp only[hneg]
    cases hd:decide (m.1≥0) with
    | true =>
      have hf:inb m.1 p.1.length=true:=inb_iff.2 ⟨of_decide_eq_true hd,r1.2⟩
      have hD:handD m p.2.1.2.1=p.2.1.2.1:=by unfold handD;rw[hd];rfl
      rw[hD] at k2 ⊢;simp only[cond_true,hf,qc,Option.bind_some,List.length_set,hto]
      cases hc:decide (cellI p m.2.1>0) with
      | false=>rfl
      | true =>
        obtain⟨k3,k4⟩:=k2 hc
        cases hk:r.2.2.2.2.2.2.1 with
        | false=>rw[show r.keeps=false from hk];rfl
        | true =>
          rw[show r.keeps=true from hk];simp only[Bool.true_and,cond_true,wk hc,k3,qc,k4,Option.bind_some];rfl
    | false =>
      obtain⟨k5,k6⟩:=k1 hd
      have hD:handD m p.2.1.2.1=p.2.1.2.1.set m.2.2.1.toNat (p.2.1.2.1.getD m.2.2.1.toNat 0-1):=by unfold handD;rw[hd];rfl
      have hz:decide (cellI p m.2.1>0)=false:=by
        have:=(qlk ha (by simp at hd;omega)).2;rw[this];rfl
      rw[hD];simp only[cond_false,k5,k6,qc,Option.bind_some,hz,Bool.false_and,hto];rfl
theorem qwI {r:Rules} {p:Place} {m:Mv} (h:Valid r p) (ha:qE r p m=true):Valid r (qjc r p m):=by
  obtain⟨r1,r2,r3⟩:=qhv ha;have htn:=h.turn;have hq:=h.quiet;have hK:=handK_rng (r:=r) (c:=cellI p m.2.1) (qun h ha);have hho:=qnl h;refine⟨h.r0,?_,?_,?_,?_,?_,?_,?_,?_⟩
  · show((((bif decide (m.1≥0) then p.1.set m.1.toNat 0 else p.1).set m.2.1.toNat (qpP p m)).length:Nat):Int)=_
    have:((bif decide (m.1≥0) then p.1.set m.1.toNat 0 else p.1).set m.2.1.toNat (qpP p m)).length=p.1.length:=by cases decide (m.1≥0)<;>simp
    rw[this];exact h.cells
  · show(bif p.turn==0 then handA r p m p.2.1.1 else p.2.1.1).length=_;cases (p.turn==0)
    · exact h.l0
    · rw[cond_true];unfold handA;rw[quU,qqM];exact h.l0
  · show(bif p.turn==0 then p.2.1.2.1 else handA r p m p.2.1.2.1).length=_;cases (p.turn==0)
    · rw[cond_false];unfold handA;rw[quU,qqM];exact h.l1
    · exact h.l1
  · intro c hc;have hc:c∈(bif decide (m.1≥0) then p.1.set m.1.toNat 0 else p.1).set m.2.1.toNat (qpP p m):=hc;rcases List.mem_or_eq_of_mem_set hc with h1 | h1
    · cases hd:decide (m.1≥0) with
      | false=>rw[hd,cond_false] at h1;exact h.cell c h1
      | true =>
        rw[hd,cond_true] at h1;rcases List.mem_or_eq_of_mem_set h1 with h2 | h2
        · exact h.cell c h2
        · have:=h.r0.t1;omega
    · rw[h1];unfold qpP;omega
  · intro c hc;have hc:c∈(bif p.turn==0 then handA r p m p.2.1.1 else p.2.1.1):=hc;rcases htn with e | e
    · rw[beq_t e,cond_true] at hc;rw[if_pos e] at hho;have hc:c∈handK r (cellI p m.2.1) (handD m p.h0):=hc;rw[←hho] at hc;exact hK c hc
    · rw[beq_f (by omega),cond_false] at hc;exact h.hand0 c hc
  · intro c hc;have hc:c∈(bif p.turn==0 then p.2.1.2.1 else handA r p m p.2.1.2.1):=hc;rcases htn with e | e
    · rw[beq_t e,cond_true] at hc;exact h.hand1 c hc
    · rw[beq_f (by omega),cond_false] at hc;rw[if_neg (by omega)] at hho;have hc:c∈handK r (cellI p m.2.1) (handD m p.h1):=hc;rw[←hho] at hc;exact hK c hc
  · show 1-p.turn=0∨1-p.turn=1;omega
  · show 0≤qrM p m∧qrM p m≤200;unfold qrM;cases (decide (cellI p m.2.1>0)||decide (m.1<0))
    · rw[cond_false];split<;>omega
    · simp

def qlD (r:Rules):List Int:=r.2.2.2.1.map fun x=>x.2.1
def qq (r:Rules):Place:=(r.2.2.2.2.1,(qlD r,qlD r,()),0,0,())
theorem qe7 {r:Rules} (h:VR0 r):Valid r (qq r):=by
  have hh:∀c∈qlD r,0≤c∧c≤1000:=fun c hc=>by
    obtain⟨x,hx,rfl⟩:=List.mem_map.1 hc;have:=h.hand x hx;omega
  have hl:(qlD r).length=r.pieces.length:=by unfold qlD;simp
  exact⟨h,h.start,hl,hl,h.startC,hh,hh,.inl rfl,by show(0:Int)≤0∧(0:Int)≤200;omega⟩
theorem map_take {A B:Type} (l:List A) (f:A→B) (i:Nat) (hi:i<l.length):(l.take (i+1)).map f=(l.take i).map f++[f l[i]]:=by
  rw[List.take_succ_eq_append_getElem hi,List.map_append];rfl
theorem qeZ (r:Rules) (hr:Rng qT r):qb5 r=some (if qH r=0 then(qq r,0,()) else(([],([],[],()),0,0,()),qH r,())):=by
  unfold qb5;rw[qn9 r hr,Option.bind_some];by_cases c:qH r=0
  · have h:=qaQ c;have hs:((r.2.2.2.2.1.length:Nat):Int)=r.width*r.height:=h.start;have ha:=h.area;have ht:r.2.2.2.1.length≤6:=h.t6;rw[bne_f c,cond_false,if_pos c,qf6 _ (by omega),Option.bind_some]
    have hL:=qcv (f:=qcL r) r.2.2.2.1.length (fun i=>(((i:Int),()),((r.2.2.2.2.1,((r.2.2.2.1.take i).map (fun x=>x.2.1),((r.2.2.2.1.take i).map (fun x=>x.2.1),((0:Int),((0:Int),()))))),()))) ((),((r.2.2.2.2.1,(qlD r,(qlD r,((0:Int),((0:Int),()))))),())) (fun i hi=>by
      unfold qcL;simp only[show decide ((i:Int)<((r.2.2.2.1.length:Nat):Int))=true by simp;omega,cond_true];rw[at?_eq _ _ (by omega) (by omega),Option.bind_some];simp only[Int.toNat_natCast];have hroom:∀z:Int,room (((r.2.2.2.1.take i).map (fun x=>x.2.1)).length+[z].length) 8=true:=fun z=>qI (by simp;omega);simp only[hroom,qc,agree_self,Option.bind_some];rw[qe (n:=(i:Int)+1) (by omega) (by omega),map_take _ _ i hi]
      rfl) (by
      unfold qcL;simp only[show decide (((r.2.2.2.1.length:Nat):Int)<((r.2.2.2.1.length:Nat):Int))=false by simp,cond_false,List.take_length]
      rfl)
    have hL':iterW (qcL r) (((0:Int),()),((r.2.2.2.2.1,(([]:List Int),(([]:List Int),((0:Int),((0:Int),()))))),()))=_:=hL;rw[hL',Option.bind_some];rfl
  · rw[bne_t c,cond_true,if_neg c]
theorem qjH (s:List Mv) (v:Mv) (hs:s.length≤1000000000):qs s v=some (decide (v∈s)):=by
  unfold qs qeo
  have hL:=qjO s.length (qa6 s v) (fun i=>if v=s.getD i d0 then some (.inr (i:Int)) else none) (.inl ((),())) (fun i hi=>by
    unfold qa6;simp only[show decide ((i:Int)<((s.length:Nat):Int))=true by simp;omega,cond_true];rw[at?_eq s _ (by omega) (by omega),Option.bind_some,qe (n:=(i:Int)+1) (by omega) (by omega)];simp only[Int.toNat_natCast,List.getD_eq_getElem?_getD,List.getElem?_eq_getElem hi,Option.getD_some,qwP];by_cases e:v=s[i]
    · simp[e]
    · simp[e]) (by unfold qa6;simp)
  rw[hL];have key:∀k i,i+k=s.length→(Option.bind (Option.bind (some (scan (fun i=>if v=s.getD i d0 then some (Sum.inr (i:Int)) else none) (Sum.inl ((),())) i k)) (Sum.elim (fun _:Unit×Unit=>some (-1:Int)) some)) fun r2=>some (decide (r2≥(0:Int))))=some (decide (v∈s.drop i)):=by
    intro k
    induction k with
    | zero =>
      intro i hi;rw[show i=s.length by omega,List.drop_length];simp[scan]
    | succ k ih =>
      intro i hi
      have hil:i<s.length:=by omega
      have hmem:(v∈s.drop i)↔v=s[i]∨v∈s.drop (i+1):=by rw[List.drop_eq_getElem_cons hil,List.mem_cons]
      unfold scan
      have hg:s.getD i d0=s[i]:=by simp[List.getD_eq_getElem?_getD,hil]
      by_cases e:v=s[i]
      · rw[decide_eq_true (hmem.2 (.inl e))];simp only[hg,if_pos e,Option.bind_some,Sum.elim_inr];simp
      · simp only[hg,if_neg e];rw[ih (i+1) (by omega)];have h2:(v∈s.drop (i+1))↔v∈s.drop i:=⟨fun h=>hmem.2 (.inr h),fun h=>(hmem.1 h).resolve_left e⟩;simp only[h2]
  have:=key s.length 0 (by omega);simpa using this
theorem qlc {r:Rules} {p:Place} (h:Valid r p):(qan r p).length≤100000:=by
  have h64:=qbw h;refine Nat.le_trans (qbT _ 384 _ fun i _=>at1_len h i) ?_;rw[List.length_range];omega

theorem qsA (r:Rules):(r.1,(r.2.1,(r.2.2.1,(r.2.2.2.1,(r.2.2.2.2.1,(r.2.2.2.2.2.1,(r.2.2.2.2.2.2.1,(r.2.2.2.2.2.2.2.1,(r.2.2.2.2.2.2.2.2.1,(r.2.2.2.2.2.2.2.2.2.1,(r.2.2.2.2.2.2.2.2.2.2.1,())))))))))))=r:=rfl
theorem quI (p:Place):(p.1,((p.2.1.1,(p.2.1.2.1,())),p.2.2))=p:=rfl
theorem gd_eq {A:Type} (xs:List A) (i:Nat) (hi:i<xs.length) (d:A):getD' xs i d=xs[i]:=by simp[getD',hi]
theorem ltd {A:Type} (xs:List A) (i:Nat) (hi:i<xs.length):decide ((i:Int)<((xs.length:Nat):Int))=true:=by simp;omega
theorem nltd {A:Type} (xs:List A):decide (((xs.length:Nat):Int)<((xs.length:Nat):Int))=false:=by simp
theorem inbN {A:Type} (xs:List A) (i:Nat) (hi:i<xs.length):inb (i:Int) xs.length=true:=inb_iff.2 ⟨by omega,by omega⟩
theorem qvO (a b:List Int) (ha:a.length≤1000000000):qa0 a b=some (decide (a=b)):=by
  unfold qa0;by_cases hl:a.length=b.length
  · have e:(((a.length:Nat):Int)!=((b.length:Nat):Int))=false:=bne_f (by omega);rw[e,cond_false]
    have hL:=qQ (List.range a.length) (fun i=>a.getD i 0 !=b.getD i 0) (qbE a b) (.inr false) (.inl ((),())) (fun i hi=>by
      have hi':i<a.length:=by simpa using hi
      unfold qbE;simp only[show decide ((i:Int)<((a.length:Nat):Int))=true by simp;omega,cond_true,List.getElem_range];rw[at?_eq a _ (by omega) (by omega),at?_eq b _ (by omega) (by omega),Option.bind_some,Option.bind_some,qe (n:=(i:Int)+1) (by omega) (by omega)];simp only[Int.toNat_natCast,List.getD_eq_getElem?_getD,List.getElem?_eq_getElem hi',List.getElem?_eq_getElem (show i<b.length by omega),Option.getD_some]
      cases (a[i]!=b[i])<;>rfl) (by unfold qbE;simp)
    rw[hL]
    cases hany:(List.range a.length).any (fun i=>a.getD i 0 !=b.getD i 0) with
    | true =>
      rw[List.any_eq_true] at hany;obtain⟨i,_,h⟩:=hany
      have:¬a=b:=fun e=>by subst e;simp at h
      simp[this]
    | false =>
      rw[List.any_eq_false] at hany;have:a=b:=by
        apply List.ext_getElem hl;intro i h1 h2;have:=hany i (List.mem_range.2 h1);simpa[List.getD_eq_getElem?_getD,h1,h2] using this
      simp[this]
  · have e:(((a.length:Nat):Int)!=((b.length:Nat):Int))=true:=bne_t (by omega);rw[e,cond_true];have:¬a=b:=fun h=>hl (by rw[h]);simp[this]
def same0 (p q:Place):Bool:=((decide (p.1=q.1)&&decide (p.2.1.1=q.2.1.1))&&decide (p.2.1.2.1=q.2.1.2.1))&&(p.2.2.1==q.2.2.1)
theorem same_spec {r:Rules} {p q:Place} (h:Valid r p):qi7 p q=some (same0 p q):=by
  have h64:=qbw h;have t6:=h.r0.t6;have l0:p.2.1.1.length=r.pieces.length:=h.l0;have l1:p.2.1.2.1.length=r.pieces.length:=h.l1;unfold qi7 same0;rw[qvO _ _ (by omega),qvO _ _ (by omega),qvO _ _ (by omega)]
  have hg:∀b c:Bool,gopt b false (some c)=some (b&&c):=fun b c=>by cases b<;>rfl
  simp only[hg,Option.bind_some,Option.some.injEq]
  cases decide (p.1=q.1)<;>cases decide (p.2.1.1=q.2.1.1)<;>cases decide (p.2.1.2.1=q.2.1.2.1)<;>cases (p.2.2.1==q.2.2.1)<;>rfl
theorem qyu {r:Rules} {p:Place} (h:Valid r p):qfn p=some p:=by
  have h64:=qbw h;have t6:=h.r0.t6;have l0:p.2.1.1.length=r.pieces.length:=h.l0;have l1:p.2.1.2.1.length=r.pieces.length:=h.l1;unfold qfn;simp only[agree_self];rw[qf6 _ (by omega),Option.bind_some,qf6 _ (by omega),Option.bind_some,qf6 _ (by omega)];rfl
theorem qx0 (s:List (Int×Int×Int×Int×Unit)) (h:s.length≤1000000):qbj s=some s:=by
  unfold qbj;have:room (([]:List (Int×Int×Int×Int×Unit)).length+s.length) 32=true:=qI (by simp;omega);rw[this]
  cases s with
  | nil=>simp[qc,agree_self]
  | cons a l=>simp[qc]
theorem qyh (s:List (Int×Int×Int×Bool×Unit)) (h:s.length≤1000000):qaz s=some s:=by
  unfold qaz;have:room (([]:List (Int×Int×Int×Bool×Unit)).length+s.length) 32=true:=qI (by simp;omega);rw[this]
  cases s with
  | nil=>simp[qc,agree_self]
  | cons a l=>simp[qc]
theorem qnY {r:Rules} (h:VR0 r):qbL r=some r:=by
  have t6:r.2.2.2.1.length≤6:=h.t6;have e6:r.2.2.2.2.2.2.2.1.length≤6:=h.ends6;have hs:((r.2.2.2.2.1.length:Nat):Int)=r.width*r.height:=h.start;have ha:=h.area;unfold qbL;simp only[agree_self]
  have hL:=qcv (f:=qeg r) r.2.2.2.1.length (fun i=>(((i:Int),()),((r.1,(r.2.1,(r.2.2.1,(r.2.2.2.1.take i,r.2.2.2.2)))),()))) ((),((r.1,(r.2.1,(r.2.2.1,(r.2.2.2.1,r.2.2.2.2)))),())) (fun i hi=>by
    unfold qeg;simp only[show decide ((i:Int)<((r.2.2.2.1.length:Nat):Int))=true by simp;omega,cond_true];rw[at?_eq _ _ (by omega) (by omega),Option.bind_some];simp only[Int.toNat_natCast];rw[qx0 _ (by have:r.2.2.2.1[i].2.2.2.1.length≤16:=h.ways _ (List.getElem_mem hi);omega),Option.bind_some];have hroom:∀z:Piece,room ((r.2.2.2.1.take i).length+[z].length) 48=true:=fun z=>qI (by simp;omega);rw[hroom,qc,qe (n:=(i:Int)+1) (by omega) (by omega),List.take_succ_eq_append_getElem hi]
    rfl) (by
    unfold qeg
    simp only[show decide (((r.2.2.2.1.length:Nat):Int)<((r.2.2.2.1.length:Nat):Int))=false by simp,cond_false,List.take_length])
  have hL':iterW (qeg r) (((0:Int),()),((r.1,(r.2.1,(r.2.2.1,(([]:List Piece),r.2.2.2.2)))),()))=_:=hL;rw[hL',Option.bind_some,qf6 _ (by omega),Option.bind_some,qyh _ (by omega)];rfl
theorem qs5 {r:Rules} {p:Place} (c:qH r=0) (h:Valid r p):qcq r p=0:=by
  unfold qcq;rw[if_neg (by simp[c])];have h1:qlI r p=false:=by
    unfold qlI;rw[bne_f h.cells,bne_f (by have:=h.l0;omega),bne_f (by have:=h.l1;omega)];rfl
  have h2:qhg r p=false:=by
    unfold qhg;have a1:p.cells.any (outC r)=false:=by
      rw[List.any_eq_false];intro x hx;have:=h.cell x hx;simp[outC];omega
    have a2:(p.h0++p.h1).any outH=false:=by
      rw[List.any_eq_false];intro x hx;have:0≤x∧x≤1000:=(List.mem_append.1 hx).elim (h.hand0 x) (h.hand1 x);simp[outH];omega
    have a3:outT p=false:=by
      have hq:=h.quiet;have ht:=h.turn;simp[outT];omega
    rw[a1,a2,a3];rfl
  rw[h1,h2];rfl
def dP:Place:=([],(([],([],())),((0:Int),((0:Int),()))))
def lastP (l:List Place):Place:=getD' l (l.length-1) dP
def qer (l:List Place):Nat:=l.countP fun p=>same0 p (lastP l)
def qR (r:Rules) (l:List Place):Int:=bif ((qc3 r (lastP l)==0)&&(r.repeats !=0))&&decide (((qer l:Nat):Int)≥r.repeats) then 3 else qc3 r (lastP l)
structure OKG (r:Rules) (s:List Place×List Mv):Prop where
  ok:qH r=0
  all:∀p∈s.1,Valid r p
  len:s.1.length=s.2.length+1
  most:s.2.length≤400
theorem last_mem {l:List Place} (h:0<l.length):lastP l∈l:=by
  unfold lastP;rw[gd_eq l (l.length-1) (by omega)];exact List.getElem_mem _
theorem OKG.last {r:Rules} {s:List Place×List Mv} (h:OKG r s):Valid r (lastP s.1):=h.all _ (last_mem (by have:=h.len;omega))
def stepG (r:Rules) (s:List Place×List Mv) (m:Mv):Int:=if qR r s.1=0 then if qE r (lastP s.1) m=true then if s.2.length=400 then 9 else 0 else 13 else 14
def nextG (r:Rules) (s:List Place×List Mv) (m:Mv):List Place×List Mv:=(s.1++[qjc r (lastP s.1) m],s.2++[m])
theorem qqw {r:Rules} {s:List Place×List Mv} {m:Mv} (h:OKG r s) (c:stepG r s m=0):OKG r (nextG r s m):=by
  unfold stepG at c;by_cases c1:qR r s.1=0
  · rw[if_pos c1] at c;by_cases c2:qE r (lastP s.1) m=true
    · rw[if_pos c2] at c;by_cases c3:s.2.length=400
      · rw[if_pos c3] at c;cases c
      · have hl:=h.len;have hm:=h.most;refine⟨h.ok,fun p hp=>?_,by unfold nextG;simp;omega,by unfold nextG;simp;omega⟩;rcases List.mem_append.1 hp with hp | hp
        · exact h.all p hp
        · rw[List.mem_singleton.1 hp];exact qwI h.last c2
    · rw[if_neg c2] at c;cases c
  · rw[if_neg c1] at c;cases c
theorem qxw {A:Type} {L:List A} (h0:0<L.length) (h:L.length≤1000000000):w64 (((L.length:Nat):Int)-1)=((L.length-1:Nat):Int):=by
  rw[qe (by omega) (by omega)];omega
abbrev Game:=Rules×List Place×List Mv×Unit
theorem atP {L:List Place} (h0:0<L.length):at? L ((L.length-1:Nat):Int)=some (lastP L):=by
  rw[at?_eq _ _ (by omega) (by omega)];unfold lastP;rw[gd_eq L _ (by omega)];simp
theorem qpR {r:Rules} {s:List Place×List Mv} (h:OKG r s):qcb (r,(s.1,(s.2,())))=some ((qer s.1:Nat):Int):=by
  obtain⟨l,ms⟩:=s;have hl:l.length=ms.length+1:=h.len;have hm:ms.length≤400:=h.most;have hw:=qxw (L:=l) (by omega) (by omega)
  have:=qsn l (fun p=>same0 p (lastP l)) (qb3 (r,(l,(ms,())))) (fun c=>((c,()),())) (fun i hi c hc0 hc1=>by
    unfold qb3;simp only[agree_self];rw[ltd l i hi,cond_true,at?_eq l _ (by omega) (by omega),Option.bind_some,hw,atP (by omega),Option.bind_some];simp only[Int.toNat_natCast];rw[same_spec (h.all _ (List.getElem_mem hi)),Option.bind_some,Option.bind_some];show Option.bind (bif same0 l[i] (lastP l) then _ else _) _=_;rw[qe (n:=c+1) (by omega) (by omega),qe (n:=(i:Int)+1) (by omega) (by omega)];cases same0 l[i] (lastP l)<;>rfl) (fun c=>by
    unfold qb3;simp only
    rw[nltd,cond_false])
  unfold qcb;rw[this];rfl
theorem qfT {r:Rules} {s:List Place×List Mv} (h:OKG r s):qS (r,(s.1,(s.2,())))=some (qR r s.1):=by
  have hl:=h.len;have hm:=h.most;have hw:=qxw (L:=s.1) (by omega) (by omega);have hrep:r.2.2.2.2.2.2.2.2.2.2.1=r.repeats:=rfl;unfold qS;simp only[agree_self,hw,atP (show 0<s.1.length by omega),qpu h.last,Option.bind_some,qpR h,hrep];unfold qR
  cases hc:((qc3 r (lastP s.1)==0)&&(r.repeats !=0)) with
  | true =>
    simp only[gopt,cond_true,Option.bind_some,Bool.true_and]
    cases decide (((qer s.1:Nat):Int)≥r.repeats)<;>rfl
  | false=>rfl
theorem qar {r:Rules} {s:List Place×List Mv} (h:OKG r s):qk (r,(s.1,(s.2,())))=some (lastP s.1):=by
  have hl:=h.len;have hm:=h.most;have hw:=qxw (L:=s.1) (by omega) (by omega);unfold qk;simp only[hw,atP (show 0<s.1.length by omega),qyu h.last,Option.bind_some,quI]
theorem quq {r:Rules} {s:List Place×List Mv} (h:OKG r s) (m:Mv):qb0 (r,(s.1,(s.2,()))) m=some (if stepG r s m=0 then((r,((nextG r s m).1,((nextG r s m).2,()))),0) else((r,(s.1,(s.2,()))),stepG r s m)):=by
  obtain⟨l,ms⟩:=s;have hl:l.length=ms.length+1:=h.len;have hm:ms.length≤400:=h.most;have hv:=h.last;simp only at hv;have hw:=qxw (L:=l) (by omega) (by omega);have hi:=inbN l (l.length-1) (by omega);have hla:getD' l (l.length-1) (([],(([],([],())),((0:Int),((0:Int),())))):Place)=lastP l:=rfl;have hres:=qfT h;simp only at hres;unfold qb0;simp only[agree_self,hw,hi,qc,Int.toNat_natCast,hla,hres,Option.bind_some];unfold stepG;by_cases c1:qR r l=0
  · rw[bne_f c1,cond_false];simp only[if_pos c1];rw[qjp hv,Option.bind_some,qjH _ _ (by have:=qlc hv;omega),Option.bind_some,Option.bind_some]
    have hmem:decide (m∈qan r (lastP l))=qE r (lastP l) m:=by rw[Bool.eq_iff_iff,decide_eq_true_eq,qhG]
    rw[hmem];by_cases c2:qE r (lastP l) m=true
    · simp only[if_pos c2];rw[c2,Bool.not_true,cond_false];by_cases c3:ms.length=400
      · rw[beq_t (by omega),cond_true];simp only[if_pos c3];rfl
      · rw[beq_f (by omega),cond_false,qmu hv c2,Option.bind_some];simp only[if_neg c3,if_true];have hroom:∀z:Place,room (l.length+[z].length) 88=true:=fun z=>qI (by simp;omega);have hroom2:room (ms.length+[m].length) 24=true:=qI (by simp;omega);rw[hroom,qc,Option.bind_some];simp only;rw[hroom2,qc];rfl
    · simp only[if_neg c2];rw[show qE r (lastP l) m=false by simpa using c2];rfl
  · rw[bne_t c1,cond_true];simp only[if_neg c1];rfl
def runG (r:Rules):List Mv→List Place×List Mv→(List Place×List Mv) ⊕ Int
  | [],s => .inl s
  | m::k,s=>if stepG r s m=0 then runG r k (nextG r s m) else .inr (stepG r s m)
theorem qxx {r:Rules}:∀(k:List Mv) (s s':List Place×List Mv),OKG r s→runG r k s = .inl s'→OKG r s'∧s'.2=s.2++k
  | [],s,s',h,e=>by cases e;exact⟨h,by simp⟩
  | m::k,s,s',h,e=>by
    unfold runG at e;split at e
    · rename_i c;obtain⟨a,b⟩:=qxx k _ _ (qqw h c) e;refine⟨a,?_⟩;rw[b];unfold nextG;simp
    · cases e
def flG (g:Game):ByteArray×Int×Int×(List (Int×Int×Int×(List (Int×Int×Int×Int×Unit))×Unit))×(List Int)×Bool×Bool×(List (Int×Int×Int×Bool×Unit))×Int×Int×Int×(List Place)×(List Mv)×Unit :=
  (g.1.1,(g.1.2.1,(g.1.2.2.1,(g.1.2.2.2.1,(g.1.2.2.2.2.1,(g.1.2.2.2.2.2.1,(g.1.2.2.2.2.2.2.1,(g.1.2.2.2.2.2.2.2.1,(g.1.2.2.2.2.2.2.2.2.1,(g.1.2.2.2.2.2.2.2.2.2.1,(g.1.2.2.2.2.2.2.2.2.2.2.1,(g.2.1,(g.2.2.1,())))))))))))))
def gm (r:Rules) (s:List Place×List Mv):Game:=(r,(s.1,(s.2,())))
theorem quE {r:Rules} {T R:Type} (l:List Mv) (hlen:l.length≤1000000000) (f:T→Option (T ⊕ R)) (st:Int→Game→T) (bad:Int→R) (fin:List Place×List Mv→R)
    (hf:∀i s,f (st i (gm r s))=bif (decide (i<((l.length:Nat):Int))) then(Option.bind (at? l i) fun m=>Option.bind (qb0 (r,(s.1,(s.2,()))) m) fun x=>bif (x.2 !=0) then some (.inr (bad x.2)) else some (.inl (st (w64 (i+1)) x.1))) else some (.inr (fin s))) :
    ∀(k:Nat) (i:Nat) (s:List Place×List Mv),i+k=l.length→OKG r s→iterW f (st (i:Int) (gm r s))=some (match runG r (l.drop i) s with
      | .inl s'=>fin s'
      | .inr e=>bad e)
  | 0,i,s,hi,h=>by
    have:i=l.length:=by omega
    subst this;refine qh ?_;rw[hf,nltd,cond_false,List.drop_length];rfl
  | k+1,i,s,hi,h=>by
    have hil:i<l.length:=by omega
    have hL:=hf (i:Int) s;rw[ltd l i hil,cond_true,at?_eq l _ (by omega) (by omega),Option.bind_some,quq h,Option.bind_some] at hL;simp only[Int.toNat_natCast] at hL;rw[List.drop_eq_getElem_cons hil];unfold runG;by_cases c:stepG r s l[i]=0
    · rw[if_pos c] at hL;simp only[bne_self_eq_false,cond_false] at hL;rw[qe (by omega) (by omega)] at hL;rw[ql hL,if_pos c];exact quE l hlen f st bad fin hf k (i+1) _ (by omega) (qqw h c)
    · rw[if_neg c] at hL;simp only[bne_t c,cond_true] at hL;rw[qh hL,if_neg c]
theorem qfz {r:Rules} (c:qH r=0):OKG r ([qq r],[]):=⟨c,fun p hp=>by rw[List.mem_singleton.1 hp];exact qe7 (qaQ c),rfl,by simp⟩
def qiB (r:Rules) (l:List Mv):(List Place×List Mv) ⊕ Int:=runG r l ([qq r],[])
abbrev FlP:=List Int×List Int×List Int×Int×Int×Unit
def flp (p:Place):FlP:=(p.1,(p.2.1.1,(p.2.1.2.1,p.2.2)))
def qez (r:Rules) (l:List Mv):Place×Int×Int×Unit:=if qH r=0 then(match qiB r l with
    | .inl s=>(lastP s.1,(qR r s.1,(0,())))
    | .inr e=>(dP,(0,(e,())))) else(dP,(0,(qH r,())))
theorem qpc (r:Rules) (l:List Mv) (hr:Rng qT r) (hl:l.length≤1000000000):qW r l=some (qez r l):=by
  unfold qW qez;rw[qeZ r hr,Option.bind_some];by_cases c:qH r=0
  · simp only[if_pos c];rw[show((0:Int)!=0)=false from rfl,cond_false];simp only[agree_self];rw[qnY (qaQ c),Option.bind_some];have hP:=quE (r:=r) l hl (qld l) (fun i g=>((i,()),(flp dP,(flG g,())))) (fun e => .inr (dP,(0,(e,())))) (fun s => .inl ((),(flp dP,(flG (gm r s),()))))
      (fun i s=>by rfl) l.length 0 ([qq r],[]) (by omega) (qfz c)
    rw[List.drop_zero] at hP;have hP':iterW (qld l) (((0:Int),()),((([]:List Int),(([]:List Int),(([]:List Int),((0:Int),((0:Int),()))))),(r.1,(r.2.1,(r.2.2.1,(r.2.2.2.1,(r.2.2.2.2.1,(r.2.2.2.2.2.1,(r.2.2.2.2.2.2.1,(r.2.2.2.2.2.2.2.1,(r.2.2.2.2.2.2.2.2.1,(r.2.2.2.2.2.2.2.2.2.1,(r.2.2.2.2.2.2.2.2.2.2.1,([((qq r).1,(((qq r).2.1.1,((qq r).2.1.2.1,())),(qq r).2.2))],(([]:List Mv),()))))))))))))),()))=_:=hP
    try simp only[Option.bind_some,bne_self_eq_false,cond_false]
    rw[hP',Option.bind_some];unfold qiB
    cases hg:runG r l ([qq r],[]) with
    | inr e=>rfl
    | inl s =>
      have hok:=(qxx l _ _ (qfz c) hg).1;simp only[Sum.elim_inl];change Option.bind (qk (r,(s.1,(s.2,())))) (fun r16=>Option.bind (qS (r,(s.1,(s.2,())))) fun r17=>some ((r16.1,((r16.2.1.1,(r16.2.1.2.1,())),r16.2.2)),(r17,((0:Int),()))))=_;rw[qar hok,Option.bind_some,qfT hok,Option.bind_some]
  · simp only[if_neg c];rw[bne_t c,cond_true,cond_true];rfl

abbrev BE:=Int×Mv×Int×Unit
abbrev dBE:BE:=(0,((0,(0,(0,()))),(0,())))
def bc3 (a b:Int):Int:=if a<b then -1 else if b<a then 1 else 0
theorem bc3_0 (a b:Int):bc3 a b=0↔a=b:=by
  unfold bc3;split
  · constructor<;>intro h<;>omega
  · split<;>constructor<;>intro h<;>omega
theorem qwX (a b:Int):bc3 a b<0↔a<b:=by
  unfold bc3;split
  · constructor<;>intro h<;>omega
  · split<;>constructor<;>intro h<;>omega
theorem qv1 (a b:Int):qF a b=bc3 a b:=by
  unfold qF qai bc3;by_cases h:a<b
  · simp[h]
  · by_cases h2:b<a<;>simp[h,h2]
theorem bcmpu_eq (a b:Int):qat a b=bc3 a b:=by
  unfold qat qM bc3;by_cases h:a<b
  · simp[h]
  · by_cases h2:b<a<;>simp[h,h2]
theorem bor_spec (a b c d:Int):qfp [a,b,c,d]=some (if a=0 then if b=0 then if c=0 then d else c else b else a):=by
  unfold qfp;by_cases ha:a=0
  · subst ha;rw[ql (y:=((1,()),())) (by simp[qD,at?,qe])];by_cases hb:b=0
    · subst hb;rw[ql (y:=((2,()),())) (by simp[qD,at?,qe])];by_cases hc:c=0
      · subst hc;rw[ql (y:=((3,()),())) (by simp[qD,at?,qe])];by_cases hd:d=0
        · subst hd;rw[ql (y:=((4,()),())) (by simp[qD,at?,qe])];rw[qh (r := .inl ((),())) (by simp[qD])];rfl
        · rw[qh (r := .inr d) (by simp[qD,at?,bne_t hd])];simp
      · rw[qh (r := .inr c) (by simp[qD,at?,bne_t hc])];simp[hc]
    · rw[qh (r := .inr b) (by simp[qD,at?,bne_t hb])];simp[hb]
  · rw[qh (r := .inr a) (by simp[qD,at?,bne_t ha])];simp[ha]
def ltE (a b:BE):Bool:=decide (a.1<b.1)||(a.1==b.1&&mvLt a.2.1 b.2.1)
def keyE (a:BE):Int×Mv:=(a.1,a.2.1)
def ordE (a b:BE):Int:=if bc3 a.1 b.1=0 then if bc3 a.2.1.1 b.2.1.1=0 then if bc3 a.2.1.2.1 b.2.1.2.1=0 then bc3 a.2.1.2.2.1 b.2.1.2.2.1 else bc3 a.2.1.2.1 b.2.1.2.1 else bc3 a.2.1.1 b.2.1.1 else bc3 a.1 b.1
theorem qgP (a b:BE):qbl a b=some (ordE a b):=by
  unfold qbl ordE;rw[bcmpu_eq,qv1,qv1,qv1,bor_spec];rfl
theorem qnP (a b:BE):ltE a b=true↔a.1<b.1∨a.1=b.1∧(a.2.1.1<b.2.1.1∨a.2.1.1=b.2.1.1∧(a.2.1.2.1<b.2.1.2.1∨a.2.1.2.1=b.2.1.2.1∧a.2.1.2.2.1<b.2.1.2.2.1)):=by simp[ltE,mvLt]
theorem ltE_f (a b:BE):ltE a b=false↔¬(a.1<b.1∨a.1=b.1∧(a.2.1.1<b.2.1.1∨a.2.1.1=b.2.1.1∧(a.2.1.2.1<b.2.1.2.1∨a.2.1.2.1=b.2.1.2.1∧a.2.1.2.2.1<b.2.1.2.2.1))):=by rw[←qnP,Bool.not_eq_true]
theorem qpk (a b:BE):keyE a=keyE b↔a.1=b.1∧a.2.1.1=b.2.1.1∧a.2.1.2.1=b.2.1.2.1∧a.2.1.2.2.1=b.2.1.2.2.1:=by
  unfold keyE;simp only[Prod.mk.injEq];constructor
  · rintro ⟨h1,h2⟩;exact⟨h1,by rw[h2],by rw[h2],by rw[h2]⟩
  · rintro ⟨h1,h2,h3,h4⟩;exact⟨h1,mv_eq h2 h3 h4⟩
theorem ord_lt (a b:BE):decide (ordE a b<0)=ltE a b:=by
  rw[Bool.eq_iff_iff,qnP,decide_eq_true_eq];unfold ordE;simp only[bc3_0];by_cases h1:a.1=b.1
  · rw[if_pos h1];by_cases h2:a.2.1.1=b.2.1.1
    · rw[if_pos h2];by_cases h3:a.2.1.2.1=b.2.1.2.1
      · rw[if_pos h3,qwX];omega
      · rw[if_neg h3,qwX];omega
    · rw[if_neg h2,qwX];omega
  · rw[if_neg h1,qwX];omega
theorem ord_0 (a b:BE):(ordE a b==0)=decide (keyE a=keyE b):=by
  rw[Bool.eq_iff_iff,decide_eq_true_eq,qpk,beq_iff_eq];unfold ordE;simp only[bc3_0];by_cases h1:a.1=b.1
  · rw[if_pos h1];by_cases h2:a.2.1.1=b.2.1.1
    · rw[if_pos h2];by_cases h3:a.2.1.2.1=b.2.1.2.1
      · rw[if_pos h3,bc3_0];exact⟨fun h=>⟨h1,h2,h3,h⟩,fun h=>h.2.2.2⟩
      · rw[if_neg h3,bc3_0];exact⟨fun h=>absurd h h3,fun h=>h.2.2.1⟩
    · rw[if_neg h2,bc3_0];exact⟨fun h=>absurd h h2,fun h=>h.2.1⟩
  · rw[if_neg h1,bc3_0];exact⟨fun h=>absurd h h1,fun h=>h.1⟩
theorem ord_ge (a b:BE):decide (ordE a b≥0) = !ltE a b:=by
  rw[←ord_lt,Bool.eq_iff_iff];simp
theorem qpW {a b c:BE} (h1:ltE a b=true) (h2:ltE b c=true):ltE a c=true:=by rw[qnP] at *;omega
theorem ltE_irr (a:BE):ltE a a=false:=by rw[ltE_f];omega
theorem ltE_tot {a b:BE} (h1:ltE a b=false) (h2:ltE b a=false):keyE a=keyE b:=by rw[ltE_f] at *;rw[qpk];omega
theorem qsH {a a' b b':BE} (h:keyE a=keyE a') (h':keyE b=keyE b'):ltE a b=ltE a' b':=by
  rw[qpk] at h h';rw[Bool.eq_iff_iff,qnP,qnP];omega
theorem ltE_ne {a b:BE} (h:ltE a b=true):keyE a≠keyE b:=fun e=>by rw[qpk] at e;rw[qnP] at h;omega
def bad4 (x:BE):Bool:=decide (x.2.2.1<1)||decide (x.2.2.1>1000000)
def errB (b:List BE) (i:Nat):Int:=if bad4 (b.getD i dBE)=true then 4 else if (decide (0<i) && !ltE (b.getD (i-1) dBE) (b.getD i dBE))=true then 3 else 0
def chkB (b:List BE):Int:=qaO (errB b) b.length
theorem qdm (l:List BE) (i:Nat) (h:i<l.length):l.getD i dBE=l[i]:=by simp[List.getD_eq_getElem?_getD,h]
theorem qli {A:Type} (xs:List A) (i:Nat) (h:i<xs.length):at? xs (i:Int)=some xs[i]:=by
  rw[at?_eq xs _ (Int.natCast_nonneg i) (Int.ofNat_lt.2 h)];simp only[Int.toNat_natCast]
theorem qlw (b:List BE) (hl:b.length≤1000):qgQ b=some (chkB b):=by
  unfold qgQ;rw[show decide (((b.length:Nat):Int)>1000)=false by simp;omega,cond_false];rw[qr7 b.length (qf7 b) (errB b) ((),()) (some 0) (fun i hi=>?_) (by unfold qf7;simp)]
  · unfold chkB;split
    · rename_i h;rw[h]
    · rfl
  · unfold qf7 errB;simp only[show decide ((i:Int)<((b.length:Nat):Int))=true by simp;omega,cond_true];rw[qli b i hi,Option.bind_some,qdm b i hi];unfold bad4;cases (decide (b[i].2.2.1<1)||decide (b[i].2.2.1>1000000))
    · simp only[cond_false];rw[qe (n:=(i:Int)+1) (by omega) (by omega),qe (n:=(i:Int)-1) (by omega) (by omega)];by_cases h0:0<i
      · rw[show decide ((i:Int)>0)=true by simp;omega,show decide (0<i)=true by simp;omega]
        have h1:i-1<b.length:=by omega
        rw[show(i:Int)-1=((i-1:Nat):Int) by omega,qdm b (i-1) h1];simp only[gat,gopt,cond_true,qli b (i-1) h1,Option.bind_some,qgP,ord_ge,Bool.true_and];cases ltE b[i-1] b[i]
        · simp
        · simp
      · have:i=0:=by omega
        subst this;simp[gat,gopt]
    · simp
def OKW (l:List BE):Prop:=∀x∈l,1≤x.2.2.1∧x.2.2.1≤1000000
abbrev Srt' (l:List BE):Prop:=l.Pairwise fun x y=>ltE x y=true
theorem mid_eq (a b:Nat) (h:a+b≤1000000):w64 (shK .shr .u64 (wu64 (w64 ((a:Int)+(b:Int)))) 1)=(((a+b) / 2:Nat):Int):=by
  rw[qe (n:=(a:Int)+(b:Int)) (by omega) (by omega)];have e1:wu64 ((a:Int)+(b:Int))=(((a+b:Nat):Nat):Int):=by
    unfold wu64 IntKind.wrap;simp only[IntKind.signed,IntKind.bits,Bool.false_and,Bool.false_eq_true,if_false];omega
  rw[e1];have e2:shK .shr .u64 ((a+b:Nat):Int) 1=(((a+b) / 2:Nat):Int):=by
    show Int.fdiv ((a+b:Nat):Int) (2 ^ 1)=_;rw[Int.fdiv_eq_ediv_of_nonneg _ (by decide)];omega
  rw[e2,qe (by omega) (by omega)]
theorem qu1 {f:((Int×Int×Unit)×Unit)→Option (((Int×Int×Unit)×Unit) ⊕ ((Int×Unit)×Unit))} (n:Nat) (p:Nat→Bool) (i0:Nat) (hn:n≤100000) (hp:∀k,k<n→p k=decide (k<i0)) (hi0:i0≤n)
    (hs:∀lo hi:Nat,lo<hi→hi≤n→f (((lo:Int),(hi:Int),()),())=some (.inl (bif p ((lo+hi) / 2) then(((((lo+hi) / 2+1:Nat):Int),(hi:Int),()),()) else(((lo:Int),(((lo+hi) / 2:Nat):Int),()),()))))
    (he:∀lo:Nat,f (((lo:Int),(lo:Int),()),())=some (.inr (((lo:Int),()),()))):iterW f (((0:Int),(n:Int),()),())=some (((i0:Int),()),()):=by
  have key:∀k lo hi:Nat,hi-lo≤k→lo≤i0→i0≤hi→hi≤n→iterW f (((lo:Int),(hi:Int),()),())=some (((i0:Int),()),()):=by
    intro k
    induction k with
    | zero =>
      intro lo hi h1 h2 h3 h4
      have e1:lo=i0:=by omega
      have e2:hi=lo:=by omega
      rw[e2,qh (he lo),e1]
    | succ k ih =>
      intro lo hi h1 h2 h3 h4;by_cases h5:lo<hi
      · have h6:=hs lo hi h5 h4;have h7:=hp ((lo+hi) / 2) (by omega);rw[ql h6,h7];by_cases h8:(lo+hi) / 2<i0
        · rw[decide_eq_true h8,cond_true];exact ih _ _ (by omega) (by omega) h3 h4
        · rw[decide_eq_false h8,cond_false];exact ih _ _ (by omega) h2 (by omega) (by omega)
      · have e1:lo=i0:=by omega
        have e2:hi=lo:=by omega
        rw[e2,qh (he lo),e1]
  have:=key n 0 n (by omega) (by omega) hi0 (Nat.le_refl _);exact this
def posE (l:List BE) (d:BE):Nat:=(l.takeWhile fun x=>ltE x d).length
theorem qv3 (l:List BE) (d:BE):posE l d≤l.length:=by
  unfold posE;exact(List.takeWhile_prefix _).length_le
theorem qmm (d:BE):∀ {l:List BE},Srt' l→∀k (hk:k<l.length),ltE l[k] d=decide (k<posE l d)
  | [],_,k,hk=>by simp at hk
  | x::l,h,k,hk=>by
    obtain⟨h1,h2⟩:=List.pairwise_cons.1 h;unfold posE;rw[List.takeWhile_cons];cases hx:ltE x d
    · simp only[Bool.false_eq_true,if_false,List.length_nil,Nat.not_lt_zero,decide_false];rcases k with _ | k
      · simpa using hx
      · have:ltE x (x::l)[k+1]=true:=h1 _ (List.getElem_mem _);cases hq:ltE (x::l)[k+1] d
        · rfl
        · rw[qpW this hq] at hx;cases hx
    · simp only[if_true,List.length_cons];rcases k with _ | k
      · simpa using hx
      · have:=qmm d h2 k (by simpa using hk);unfold posE at this;simp only[List.getElem_cons_succ,this,Nat.add_lt_add_iff_right]
def addW (x d:BE):BE:=(x.1,(x.2.1,((if x.2.2.1+d.2.2.1>1000000 then 1000000 else x.2.2.1+d.2.2.1),())))
def insB:List BE→BE→List BE
  | [],d=>[d]
  | x::xs,d=>if ltE x d=true then x::insB xs d else if keyE x=keyE d then addW x d::xs else d::x::xs
theorem insB_eq (d:BE):∀l:List BE,insB l d=if h:posE l d<l.length∧keyE (l.getD (posE l d) dBE)=keyE d then l.set (posE l d) (addW (l.getD (posE l d) dBE) d) else l.take (posE l d)++([d]++l.drop (posE l d))
  | []=>by
    rw[dif_neg (fun h=>by simp at h)];rfl
  | x::l=>by
    unfold insB;cases hx:ltE x d
    · have h0:posE (x::l) d=0:=by unfold posE;rw[List.takeWhile_cons,hx];rfl
      rw[if_neg (by decide),h0];by_cases hk:keyE x=keyE d
      · rw[if_pos hk,dif_pos ⟨by simp,by simpa using hk⟩];rfl
      · rw[if_neg hk,dif_neg (fun h=>hk (by simpa using h.2))];rfl
    · have h0:posE (x::l) d=posE l d+1:=by unfold posE;rw[List.takeWhile_cons,hx];rfl
      rw[if_pos rfl,h0,insB_eq d l];have e1:(x::l).getD (posE l d+1) dBE=l.getD (posE l d) dBE:=rfl;rw[e1];by_cases hk:posE l d<l.length∧keyE (l.getD (posE l d) dBE)=keyE d
      · rw[dif_pos hk,dif_pos ⟨by simpa using hk.1,hk.2⟩];rfl
      · rw[dif_neg hk,dif_neg (fun h=>hk ⟨by simpa using h.1,h.2⟩)];rfl
theorem qsM (d:BE):∀l:List BE,(insB l d).length≤l.length+1
  | []=>by simp[insB]
  | x::l=>by
    have:=qsM d l;unfold insB;split
    · simp only[List.length_cons];omega
    · split<;>simp
theorem qtM (x d:BE):keyE (addW x d)=keyE x:=rfl
theorem addW_ok {x d:BE} (hx:1≤x.2.2.1∧x.2.2.1≤1000000) (hd:1≤d.2.2.1∧d.2.2.1≤1000000):1≤(addW x d).2.2.1∧(addW x d).2.2.1≤1000000:=by
  unfold addW;simp only
  split<;>omega
theorem qsJ (d:BE):∀ {l:List BE} {z:BE},z∈insB l d→z∈l∨z=d∨∃x∈l,z=addW x d∧keyE x=keyE d
  | [],z,h => .inr (.inl (by simpa[insB] using h))
  | x::l,z,h=>by
    unfold insB at h;split at h
    · rcases List.mem_cons.1 h with rfl | h
      · exact .inl List.mem_cons_self
      · rcases qsJ d h with h | h | ⟨y,hy,h⟩
        · exact .inl (List.mem_cons_of_mem _ h)
        · exact .inr (.inl h)
        · exact .inr (.inr ⟨y,List.mem_cons_of_mem _ hy,h⟩)
    · split at h
      · rename_i hk;rcases List.mem_cons.1 h with rfl | h
        · exact .inr (.inr ⟨x,List.mem_cons_self,rfl,hk⟩)
        · exact .inl (List.mem_cons_of_mem _ h)
      · rcases List.mem_cons.1 h with rfl | h
        · exact .inr (.inl rfl)
        · exact .inl h
theorem insB_ok {l:List BE} {d:BE} (hl:OKW l) (hd:1≤d.2.2.1∧d.2.2.1≤1000000):OKW (insB l d):=fun z hz=>by
  rcases qsJ d hz with h | rfl | ⟨x,hx,rfl,_⟩
  · exact hl z h
  · exact hd
  · exact addW_ok (hl x hx) hd
theorem qs3 (d:BE):∀ {l:List BE},Srt' l→Srt' (insB l d)
  | [],_=>by simp[insB]
  | x::l,h=>by
    obtain⟨h1,h2⟩:=List.pairwise_cons.1 h;unfold insB;split
    · rename_i hx;refine List.Pairwise.cons (fun z hz=>?_) (qs3 d h2);rcases qsJ d hz with hz | rfl | ⟨y,hy,rfl,_⟩
      · exact h1 z hz
      · exact hx
      · exact(qsH rfl (qtM y d)).trans (h1 y hy)
    · rename_i hx;split
      · exact List.Pairwise.cons (fun z hz=>(qsH (qtM x d) rfl).trans (h1 z hz)) h2
      · rename_i hk;have hdx:ltE d x=true:=by
          cases hq:ltE d x
          · exact absurd (ltE_tot (Bool.eq_false_iff.2 hx) hq) hk
          · rfl
        refine List.Pairwise.cons (fun z hz=>?_) h;rcases List.mem_cons.1 hz with rfl | hz
        · exact hdx
        · exact qpW hdx (h1 z hz)
theorem cloneB (s:List BE) (h:s.length≤100000):qaJ s=some s:=by
  unfold qaJ;have:room (([]:List BE).length+s.length) 40=true:=qI (by simp;omega);rw[this]
  cases s with
  | nil=>simp[qc,agree_self]
  | cons a l=>simp[qc]

noncomputable def halfF (l:List BE) (d:BE) (x8:(Int×Int×Unit)×(Unit)):Option (((Int×Int×Unit)×(Unit)) ⊕ ((Int×Unit)×(Unit))) :=
  bif (decide (x8.1.1<x8.1.2.1)) then(req (inb (w64 (shK .shr .u64 (wu64 (w64 (x8.1.1+x8.1.2.1))) (1:Int))) l.length) (Option.bind (qbl (getD' l (((w64 (shK .shr .u64 (wu64 (w64 (x8.1.1+x8.1.2.1))) (1:Int)))).toNat) dBE) d) fun r9 =>
  Option.bind (bif (decide (r9<(0:Int))) then some (((w64 ((w64 (shK .shr .u64 (wu64 (w64 (x8.1.1+x8.1.2.1))) (1:Int)))+(1:Int))),x8.1.2.1,()),())
  else some ((x8.1.1,(w64 (shK .shr .u64 (wu64 (w64 (x8.1.1+x8.1.2.1))) (1:Int))),()),())) fun x10 =>
  some (Sum.inl ((x10.1.1,x10.1.2.1,()),()))))
  else some (Sum.inr ((x8.1.1,()),()))
noncomputable def addF (l:List BE) (d:BE):Option ((List BE×Unit)×Unit) :=
  Option.bind (iterW (halfF l d) (((0:Int),((l.length:Nat):Int),()),())) fun x11 =>
  Option.bind (req (imp (decide (x11.1.1<((l.length:Nat):Int))) (inb x11.1.1 l.length)) (bif (decide (x11.1.1<((l.length:Nat):Int))) then(Option.bind (qbl (getD' l ((x11.1.1).toNat) dBE) d) fun r12 =>
  some ((x11.1.1,(r12==(0:Int)),()),()))
  else some ((x11.1.1,false,()),()))) fun x13 =>
  bif (!x13.1.2.1) then req (decide (0≤x13.1.1)&&(decide (x13.1.1≤((l.length:Nat):Int))&&(Nat.blt 0 ([d]).length&&room (l.length+([d]).length) 40))) (some (((l.take (x13.1.1).toNat++([d]++l.drop (x13.1.1).toNat)),()),()))
  else req (inb x13.1.1 l.length) (req (inb x13.1.1 l.length) (some (((l.set ((x13.1.1).toNat) ((getD' l ((x13.1.1).toNat) dBE).1,(((((getD' l ((x13.1.1).toNat) dBE).2).1).1,(((((getD' l ((x13.1.1).toNat) dBE).2).1).2).1,((((((getD' l ((x13.1.1).toNat) dBE).2).1).2).2).1,()))),((if (1000000:Int)<(w64 ((((getD' l ((x13.1.1).toNat) dBE).2).2).1+d.2.2.1)) then(1000000:Int) else(w64 ((((getD' l ((x13.1.1).toNat) dBE).2).2).1+d.2.2.1))),())))),()),())))
theorem qyQ (l:List BE) (d:BE) (hl:l.length≤2000) (hs:Srt' l):iterW (halfF l d) (((0:Int),((l.length:Nat):Int),()),())=some ((((posE l d:Nat):Int),()),()):=by
  refine qu1 l.length (fun k=>ltE (l.getD k dBE) d) (posE l d) (by omega) (fun k hk=>by rw[qdm l k hk,qmm d hs k hk]) (qv3 l d) (fun lo hi h1 h2=>?_) (fun lo=>by
    unfold halfF
    simp only[Int.lt_irrefl,decide_false,cond_false])
  unfold halfF;simp only[show decide ((lo:Int)<(hi:Int))=true by simp;omega,cond_true];rw[mid_eq lo hi (by omega),inb_iff.2 ⟨by omega,by omega⟩,qc,Int.toNat_natCast,qgP,Option.bind_some,ord_lt];have:getD' l ((lo+hi) / 2) dBE=l.getD ((lo+hi) / 2) dBE:=rfl;rw[this,qe (n:=(((lo+hi) / 2:Nat):Int)+1) (by omega) (by omega)];cases ltE (l.getD ((lo+hi) / 2) dBE) d
  · rfl
  · rfl
theorem addF_spec (l:List BE) (d:BE) (hl:l.length≤2000) (hs:Srt' l) (hw:OKW l) (hd:1≤d.2.2.1∧d.2.2.1≤1000000):addF l d=some ((insB l d,()),()):=by
  unfold addF;have hp:=qv3 l d;rw[qyQ l d hl hs,Option.bind_some,insB_eq];have hg:getD' l (posE l d) dBE=l.getD (posE l d) dBE:=rfl;have hroom:room (l.length+([d]:List BE).length) 40=true:=qI (by simp;omega);have hblt:Nat.blt 0 ([d]:List BE).length=true:=rfl;by_cases h1:posE l d<l.length
  · simp only[show decide (((posE l d:Nat):Int)<((l.length:Nat):Int))=true by simp;omega,cond_true,Int.toNat_natCast];rw[show inb ((posE l d:Nat):Int) l.length=true from inb_iff.2 ⟨by omega,by omega⟩];simp only[imp,cond_true,qc];rw[qgP,Option.bind_some,Option.bind_some,ord_0,hg];by_cases h2:keyE (l.getD (posE l d) dBE)=keyE d
    · rw[dif_pos ⟨h1,h2⟩];simp only[decide_eq_true h2,Bool.not_true,cond_false,Int.toNat_natCast,qc];rw[show inb ((posE l d:Nat):Int) l.length=true from inb_iff.2 ⟨by omega,by omega⟩];simp only[qc,hg];have hx:=hw (l.getD (posE l d) dBE) (by rw[qdm l _ h1];exact List.getElem_mem h1);rw[qe (n:=(l.getD (posE l d) dBE).2.2.1+d.2.2.1) (by omega) (by omega)];have e1:(if (1000000:Int)<(l.getD (posE l d) dBE).2.2.1+d.2.2.1 then(1000000:Int) else(l.getD (posE l d) dBE).2.2.1+d.2.2.1)=(if (l.getD (posE l d) dBE).2.2.1+d.2.2.1>1000000 then 1000000 else(l.getD (posE l d) dBE).2.2.1+d.2.2.1):=rfl;rfl
    · rw[dif_neg (fun h=>h2 h.2)];simp only[decide_eq_false h2,Bool.not_false,cond_true,Int.toNat_natCast];rw[hroom,hblt];simp only[show decide ((0:Int)≤((posE l d:Nat):Int))=true by simp,show decide (((posE l d:Nat):Int)≤((l.length:Nat):Int))=true by simp;omega,Bool.and_self,qc]
  · rw[dif_neg (fun h=>h1 h.1)];simp only[show decide (((posE l d:Nat):Int)<((l.length:Nat):Int))=false by simp;omega,cond_false];simp only[imp,cond_false,qc,Option.bind_some,Bool.not_false,cond_true,Int.toNat_natCast];rw[hroom,hblt];simp only[show decide ((0:Int)≤((posE l d:Nat):Int))=true by simp,show decide (((posE l d:Nat):Int)≤((l.length:Nat):Int))=true by simp;omega,Bool.and_self,qc]
def lookE (l:List BE) (k:Int×Mv):Option Int:=(l.find? fun x=>decide (keyE x=k)).map fun x=>x.2.2.1
def capW (w d:Int):Int:=if w+d>1000000 then 1000000 else w+d
def updE (f:Int×Mv→Option Int) (d:BE):Int×Mv→Option Int:=fun k=>if k=keyE d then some (match f k with | none=>d.2.2.1 | some w=>capW w d.2.2.1) else f k
theorem qx7 {l:List BE} {k:Int×Mv} (h:∀x∈l,keyE x≠k):lookE l k=none:=by
  unfold lookE;rw[List.find?_eq_none.2 (fun x hx=>by simpa using h x hx)];rfl
theorem qe0 (x:BE) (l:List BE) (k:Int×Mv):lookE (x::l) k=if keyE x=k then some x.2.2.1 else lookE l k:=by
  unfold lookE;rw[List.find?_cons];by_cases h:keyE x=k
  · rw[if_pos h,decide_eq_true h];rfl
  · rw[if_neg h,decide_eq_false h]
theorem quw (d:BE):∀ {l:List BE},Srt' l→lookE (insB l d)=updE (lookE l) d
  | [],_=>by
    funext k;unfold insB updE;rw[qe0];by_cases h:k=keyE d
    · rw[if_pos h,if_pos h.symm];rfl
    · rw[if_neg h,if_neg (fun e=>h e.symm)]
  | x::l,hs=>by
    obtain⟨h1,h2⟩:=List.pairwise_cons.1 hs;have ih:=quw d h2;funext k;have ihk:=congrFun ih k;unfold insB;split
    · rename_i hx;rw[qe0,ihk];unfold updE;rw[qe0];by_cases hk:keyE x=k
      · rw[if_pos hk,if_pos hk,if_neg (fun e=>ltE_ne hx (hk.trans e))]
      · rw[if_neg hk,if_neg hk]
    · rename_i hx;split
      · rename_i hxd;rw[qe0,qtM];unfold updE;rw[qe0];by_cases hk:keyE x=k
        · rw[if_pos hk,if_pos hk,if_pos (hk.symm.trans hxd)];rfl
        · rw[if_neg hk,if_neg hk,if_neg (fun e=>hk (hxd.trans e.symm))]
      · rename_i hxd;have hdx:ltE d x=true:=by
          cases hq:ltE d x
          · exact absurd (ltE_tot (Bool.eq_false_iff.2 hx) hq) hxd
          · rfl
        rw[qe0];unfold updE;by_cases hk:keyE d=k
        · rw[if_pos hk,if_pos hk.symm,qx7 (k:=k) (l:=x::l) (fun y hy e=>?_)];rcases List.mem_cons.1 hy with rfl | hy
          · exact hxd (e.trans hk.symm)
          · exact ltE_ne (qpW hdx (h1 y hy)) (hk.trans e.symm)
        · rw[if_neg hk,if_neg (fun e=>hk e.symm)]
theorem ql7:∀(b:List BE) {a:List BE},Srt' a→OKW a→OKW b→Srt' (b.foldl insB a)∧OKW (b.foldl insB a)∧(b.foldl insB a).length≤a.length+b.length∧lookE (b.foldl insB a)=b.foldl updE (lookE a)
  | [],a,h1,h2,_=>⟨h1,h2,by simp,rfl⟩
  | d::b,a,h1,h2,h3=>by
    have hd:=h3 d List.mem_cons_self;obtain⟨q1,q2,q3,q4⟩:=ql7 b (qs3 d h1) (insB_ok h2 hd) (fun x hx=>h3 x (List.mem_cons_of_mem _ hx));refine⟨q1,q2,?_,?_⟩
    · have:=qsM d a;simp only[List.foldl_cons,List.length_cons];omega
    · rw[List.foldl_cons,q4,quw d h1];rfl

theorem qxB {r:Rules} {s:List Place×List Mv} {m:Mv} (c:stepG r s m=0):qR r s.1=0∧qE r (lastP s.1) m=true:=by
  unfold stepG at c;split at c
  · rename_i h1;split at c
    · rename_i h2;exact⟨h1,h2⟩
    · cases c
  · cases c
theorem gd_app2 (l:List Place) (q:Place):getD' (l++[q]) l.length dP=q:=by simp[getD']

def k1 (p:Place) (i:Nat) (a:Int):Int:=bif p.1.getD i 0 !=0 then wu64 (a+qm5 (16*(i:Int)+p.1.getD i 0)) else a
def k2 (o:Int) (l:List Int) (i:Nat) (a:Int):Int:=wu64 (a+wu64 (qm5 (2000+8*o+(i:Int))*wu64 (l.getD i 0)))
def keyOf (p:Place):Int:=bif p.turn==1 then wu64 (foldN (k2 1 p.2.1.2.1) p.2.1.2.1.length (foldN (k2 0 p.2.1.1) p.2.1.1.length (foldN (k1 p) p.1.length 0))+qm5 3000) else foldN (k2 1 p.2.1.2.1) p.2.1.2.1.length (foldN (k2 0 p.2.1.1) p.2.1.1.length (foldN (k1 p) p.1.length 0))
theorem key1 {r:Rules} {p:Place} (h:Valid r p):iterW (qnf p) (((0:Int),(0:Int),()),())=some ((foldN (k1 p) p.1.length 0,()),()):=by
  have h64:=qbw h;refine qfw p.1.length (qnf p) (k1 p) (fun a=>((a,()),())) (fun _ _=>True) 0 trivial (fun i hi a _=>⟨?_,trivial⟩) (fun a _=>?_)
  · unfold qnf;have hc:=qjM h (i:Int);simp only[show decide ((i:Int)<((p.1.length:Nat):Int))=true by simp;omega,cond_true];rw[qis (p:=p) (s:=(i:Int)) (by omega) (by show(i:Int)<((p.1.length:Nat):Int);omega),Option.bind_some,qe (n:=16*(i:Int)) (by omega) (by omega),qe (n:=16*(i:Int)+cellI p (i:Int)) (by omega) (by omega),qe (n:=(i:Int)+1) (by omega) (by omega)];unfold k1;rw[show p.1.getD i 0=cellI p (i:Int) from rfl]
    cases (cellI p (i:Int)!=0)<;>rfl
  · unfold qnf;simp
theorem key3 {p:Place} (o:Nat) (ho:o<2) (l:List Int) (hl:l=getD' [p.2.1.1,p.2.1.2.1] o []) (h6:l.length≤6) (a0 b0:Int):iterW (qhC p ((b0,(o:Int),()),())) ((a0,(0:Int),()),())=some ((foldN (k2 (o:Int) l) l.length a0,()),()):=by
  refine qfw l.length (qhC p ((b0,(o:Int),()),())) (k2 (o:Int) l) (fun a=>((a,()),())) (fun _ _=>True) a0 trivial (fun i hi a _=>⟨?_,trivial⟩) (fun a _=>?_)
  · unfold qhC;simp only[Int.toNat_natCast,←hl];simp only[show decide ((i:Int)<((l.length:Nat):Int))=true by simp;omega,cond_true];rw[at?_eq l _ (by omega) (by omega),Option.bind_some,qe (n:=8*(o:Int)) (by omega) (by omega),qe (n:=2000+8*(o:Int)) (by omega) (by omega),qe (n:=2000+8*(o:Int)+(i:Int)) (by omega) (by omega),qe (n:=(i:Int)+1) (by omega) (by omega)];unfold k2;simp only[Int.toNat_natCast,List.getD_eq_getElem?_getD,List.getElem?_eq_getElem hi,Option.getD_some]
  · unfold qhC;simp only[Int.toNat_natCast,←hl];simp
theorem qpf {r:Rules} {p:Place} (h:Valid r p):zobOf p=some (keyOf p):=by
  have ht:=h.r0.t6;have a0:p.2.1.1.length=r.pieces.length:=h.l0;have a1:p.2.1.2.1.length=r.pieces.length:=h.l1;unfold zobOf keyOf;rw[key1 h,Option.bind_some];generalize foldN (k1 p) p.1.length 0=a;have hL:iterW (qpl p) ((a,(0:Int),()),())=some ((foldN (k2 1 p.2.1.2.1) p.2.1.2.1.length (foldN (k2 0 p.2.1.1) p.2.1.1.length a),()),()):=by
    rw[ql (y:=((foldN (k2 0 p.2.1.1) p.2.1.1.length a,(1:Int),()),())) (by
      unfold qpl;have:=key3 (p:=p) 0 (by omega) p.2.1.1 rfl (by omega) a a;simp only[show decide ((0:Int)<2)=true from rfl,cond_true,show inb (0:Int) 2=true from rfl,qc];rw[show iterW (qhC p ((a,(0:Int),()),())) ((a,(0:Int),()),())=_ from this]
      rfl)]
    rw[ql (y:=((foldN (k2 1 p.2.1.2.1) p.2.1.2.1.length (foldN (k2 0 p.2.1.1) p.2.1.1.length a),(2:Int),()),())) (by
      unfold qpl;have:=key3 (p:=p) 1 (by omega) p.2.1.2.1 rfl (by omega) (foldN (k2 0 p.2.1.1) p.2.1.1.length a) (foldN (k2 0 p.2.1.1) p.2.1.1.length a);simp only[show decide ((1:Int)<2)=true from rfl,cond_true,show inb (1:Int) 2=true from rfl,qc];rw[show iterW (qhC p ((foldN (k2 0 p.2.1.1) p.2.1.1.length a,(1:Int),()),())) ((foldN (k2 0 p.2.1.1) p.2.1.1.length a,(0:Int),()),())=_ from this]
      rfl)]
    exact qh rfl
  simp only;rw[hL,Option.bind_some,show(p.2.2.1==(1:Int))=(p.turn==1) from rfl]
  cases (p.turn==1)<;>rfl

def enG (r:Rules) (w:Int):List Mv→List Place×List Mv→List BE
  | [],_=>[]
  | m::k,s=>(keyOf (lastP s.1),(m,(w,())))::enG r w k (nextG r s m)
theorem qsy (r:Rules) (w:Int):∀(k:List Mv) (s:List Place×List Mv),(enG r w k s).length=k.length
  | [],_=>rfl
  | m::k,s=>by rw[enG,List.length_cons,qsy r w k,List.length_cons]
theorem qvr {r:Rules} {w:Int} (hw:1≤w∧w≤1000000):∀(k:List Mv) (s:List Place×List Mv),OKW (enG r w k s)
  | [],_=>fun x hx=>by cases hx
  | m::k,s=>fun x hx=>by
    rcases List.mem_cons.1 hx with rfl | hx
    · exact hw
    · exact qvr hw k _ x hx
theorem qxQ (r:Rules):∀(a b:List Mv) (s:List Place×List Mv),runG r (a++b) s=match runG r a s with
    | .inl s'=>runG r b s'
    | .inr e => .inr e
  | [],b,s=>rfl
  | m::a,b,s=>by
    have e:∀k,runG r (m::k) s=if stepG r s m=0 then runG r k (nextG r s m) else .inr (stepG r s m):=fun _=>rfl;rw[List.cons_append,e,e];by_cases c:stepG r s m=0
    · rw[if_pos c,if_pos c,qxQ r a b]
    · rw[if_neg c,if_neg c]
theorem runG_take {r:Rules} {l:List Mv} {s s':List Place×List Mv} (n:Nat) (h:runG r l s = .inl s'):∃s2,runG r (l.take n) s = .inl s2:=by
  rw[←List.take_append_drop n l,qxQ] at h
  cases hq:runG r (l.take n) s with
  | inl s2=>exact⟨s2,rfl⟩
  | inr e=>rw[hq] at h;cases h
theorem qw7 {r:Rules} (game:List Mv) (plies weight:Int) (tk:List Mv) (htk:(game.take ((if ((game.length:Nat):Int)<plies then((game.length:Nat):Int) else plies)).toNat).drop 0=tk) (hl:tk.length≤1000) (hw:1≤weight∧weight≤1000000) :
    ∀(k i:Nat) (s:List Place×List Mv) (out:List BE),i+k=tk.length→OKG r s→(∃s',runG r (tk.drop i) s = .inl s')→Srt' out→OKW out→out.length+k≤2000 →
      ∃q,iterW (qgK game plies weight r) ((out,(i:Int),()),(flp (lastP s.1),()))=some (((enG r weight (tk.drop i) s).foldl insB out,()),(q,()))
  | 0,i,s,out,hi,ho,hs,h1,h2,h3=>by
    have:i=tk.length:=by omega
    subst this;refine⟨flp (lastP s.1),?_⟩;rw[List.drop_length];refine qh ?_;unfold qgK;simp only[htk,nltd,cond_false];rfl
  | k+1,i,s,out,hi,ho,hs,h1,h2,h3=>by
    have hil:i<tk.length:=by omega
    obtain⟨s',hs⟩:=hs;rw[List.drop_eq_getElem_cons hil] at hs ⊢;unfold runG at hs;by_cases c:stepG r s tk[i]=0
    · rw[if_pos c] at hs;have hv:Valid r (lastP s.1):=ho.last;have hd:1≤((keyOf (lastP s.1),(tk[i],(weight,()))):BE).2.2.1∧((keyOf (lastP s.1),(tk[i],(weight,()))):BE).2.2.1≤1000000:=hw;have hlen:=qsM (keyOf (lastP s.1),(tk[i],(weight,()))) out;obtain⟨q,hq⟩:=qw7 game plies weight tk htk hl hw k (i+1) (nextG r s tk[i]) (insB out (keyOf (lastP s.1),(tk[i],(weight,())))) (by omega) (qqw ho c) ⟨s',hs⟩ (qs3 _ h1) (insB_ok h2 hd) (by omega);refine⟨q,?_⟩
      have e:qgK game plies weight r ((out,(i:Int),()),(flp (lastP s.1),()))=bif (decide ((i:Int)<((((game.take ((if ((game.length:Nat):Int)<plies then((game.length:Nat):Int) else plies)).toNat).drop 0).length:Nat):Int))) then(Option.bind (at? ((game.take ((if ((game.length:Nat):Int)<plies then((game.length:Nat):Int) else plies)).toNat).drop 0) (i:Int)) fun d =>
        Option.bind (Option.bind (zobOf (lastP s.1)) fun z=>addF out (z,(d,(weight,())))) fun x=>Option.bind (qv r (lastP s.1) d) fun p=>some (Sum.inl ((x.1.1,(w64 ((i:Int)+1)),()),(flp p,())))) else some (Sum.inr ((out,()),(flp (lastP s.1),()))):=rfl
      rw[htk,ltd tk i hil,cond_true,qli tk i hil,Option.bind_some,qpf hv,Option.bind_some,addF_spec _ _ (by omega) h1 h2 hd,Option.bind_some,qmu hv (qxB c).2,Option.bind_some,qe (by omega) (by omega)] at e;rw[ql e];have el:lastP (nextG r s tk[i]).1=qjc r (lastP s.1) tk[i]:=by
        unfold nextG lastP;simp[getD']
      rw[el] at hq;rw[show((i:Int)+1)=((i+1:Nat):Int) by omega,hq];rfl
    · rw[if_neg c] at hs;cases hs
theorem qjL {r:Rules} {l:List Mv} (h:(qez r l).2.2.1=0):qH r=0∧∃s,qiB r l = .inl s:=by
  unfold qez at h;split at h
  · rename_i c;refine⟨c,?_⟩
    cases hq:qiB r l with
    | inl s=>exact⟨s,rfl⟩
    | inr e =>
      rw[hq] at h;exfalso;have h:e=0:=h;subst h;have key:∀(k:List Mv) (s:List Place×List Mv),runG r k s ≠ .inr 0:=by
        intro k
        induction k with
        | nil=>intro s e;cases e
        | cons m k ih =>
          intro s e;unfold runG at e;split at e
          · exact ih _ e
          · rename_i c;exact c (Sum.inr.inj e)
      exact key l _ hq
  · rename_i c;exact absurd h c
theorem qgt (self self':Zv6→Option Zv9) (hself:∀x,Le (self x) (self' x)) (r3:List Int) (p:Zv89×Zv65×Int×Int×Unit) (x5:Zv68×Zv11):Le (qaS r3 p self x5) (qaS r3 p self' x5):=by
  unfold qaS
  repeat (first | exact Le.refl _ | assumption | apply hself | apply Le.cond | apply Le.req | apply Le.gopt | apply Le.map | apply Le.agreeW | refine Le.iterW (fun _=>?_) _ | refine Le.bind ?_ (Le.elim (fun _=>?_) (fun _=>?_)) | refine Le.bind ?_ (fun _=>?_))
theorem qij:Mono qab:=by
  intro self self' hself x
  unfold qab qac
  repeat (first | exact Le.refl _ | assumption | apply qgt | apply hself | apply Le.cond | apply Le.req | apply Le.gopt | apply Le.map | apply Le.agreeW | refine Le.iterW (fun _=>?_) _ | refine Le.bind ?_ (Le.elim (fun _=>?_) (fun _=>?_)) | refine Le.bind ?_ (fun _=>?_))

abbrev RTag:=ByteArray×ByteArray×Unit
abbrev RNode:=Int×Mv×ByteArray×Unit
abbrev Rec:=List RTag×ByteArray×List RNode×Int×Unit
abbrev tyTag:Ty := .st .str (.st .str .nil)
abbrev tyMv:Ty := .st (.int .i64) (.st (.int .i64) (.st (.int .i64) .nil))
abbrev tyNode:Ty := .st (.int .i64) (.st tyMv (.st .str .nil))
abbrev tyRec:Ty := .st (.sl tyTag) (.st .str (.st (.sl tyNode) (.st (.int .i64) .nil)))
theorem qoE {A:Type} (xs:List A) (i:Nat) (h:i<xs.length):at? xs (i:Int)=some xs[i]:=by
  rw[at?_eq xs _ (Int.natCast_nonneg i) (Int.ofNat_lt.2 h)];simp only[Int.toNat_natCast]
def badC (w:List UInt8) (c:UInt8):Bool:=(decide (((c.toNat:Nat):Int)<32)||decide (((c.toNat:Nat):Int)>126))||w.any (· == c)
def fineT (s w:ByteArray):Bool:=!(s.data.toList.any (badC w.data.toList))
theorem ba_len (s:ByteArray):s.data.toList.length=s.size:=by rw[Array.length_toList];rfl
theorem qx1 (s:ByteArray) (i:Nat) (h:i<s.data.toList.length):strAt s (i:Int)=some s.data.toList[i]:=by
  have h':i<s.size:=by rw[←ba_len];exact h
  have h0:decide ((0:Int)≤(i:Int))=true:=by simp
  unfold strAt;rw[h0,cond_true,Int.toNat_natCast,getElem?_pos s i h',ByteArray.getElem_eq_getElem_data,Array.getElem_toList]
theorem idx_any (c:UInt8):∀l:List UInt8,decide (Go.Lib.indexByte l c≥0)=l.any (· == c)
  | []=>rfl
  | b::l=>by
    have ih:=idx_any c l;have hg:=Go.Lib.indexByte_ge l c;rw[List.any_cons,←ih,show Go.Lib.indexByte (b::l) c=if b==c then 0 else if Go.Lib.indexByte l c == -1 then -1 else Go.Lib.indexByte l c+1 from rfl];by_cases h:(b==c)=true
    · rw[if_pos h,h];rfl
    · rw[if_neg h,Bool.eq_false_iff.2 h,Bool.false_or];by_cases h2:(Go.Lib.indexByte l c == -1)=true
      · have:Go.Lib.indexByte l c = -1:=by simpa using h2
        rw[if_pos h2,this]
      · have:¬Go.Lib.indexByte l c = -1:=by simpa using h2
        rw[if_neg h2,Bool.eq_iff_iff];simp only[decide_eq_true_eq];omega
theorem qkS (s w:ByteArray) (hs:s.size≤9223372036854775807):qbS s w=some (fineT s w):=by
  have hl:=ba_len s;unfold qbS fineT
  have hL:=qQ s.data.toList (badC w.data.toList) (qbD s w) (.inr false) (.inl ((),())) (fun i hi=>by
    unfold qbD
    have h3:(i:Int)<(s.size:Int):=by omega
    have hg:∀b (c:UInt8),gopt b 0 (some c)=some (bif b then c else 0):=fun b c=>by cases b<;>rfl
    simp only[h3,decide_true,cond_true,qx1 s i hi,Option.bind_some,hg,qe (n:=(i:Int)+1) (by omega) (by omega)];generalize s.data.toList[i]=c;have hx:decide (qe1 w ((c.toNat:Nat):Int)≥0)=w.data.toList.any (· == c):=by
      unfold qe1;rw[Int.toNat_natCast,←idx_any,show(c.toNat).toUInt8=c from UInt8.ofNat_toNat]
    unfold badC;cases h1:decide (((c.toNat:Nat):Int)<32)
    · simp only[Bool.not_false,cond_true,Bool.false_or];cases h2:decide (((c.toNat:Nat):Int)>126)
      · simp only[Bool.not_false,cond_true,Bool.false_or,hx];rfl
      · simp only[Bool.true_or,cond_true]
    · simp only[Bool.true_or,cond_true]) (by
    unfold qbD;rw[hl]
    simp)
  rw[hL]
  cases s.data.toList.any (badC w.data.toList)<;>rfl
def cErr (s:ByteArray):Int:=if 60<s.size then 2 else if fineT s (ByteArray.mk #[123,125])=false then 3 else 0
theorem qox (s:ByteArray) (hs:s.size≤9223372036854775807):qdi s=some (cErr s):=by
  unfold qdi cErr;by_cases h:60<s.size
  · rw[if_pos h,show decide (((s.size:Nat):Int)>60)=true by simp only[decide_eq_true_eq];omega];rfl
  · rw[if_neg h,show decide (((s.size:Nat):Int)>60)=false by simp only[decide_eq_false_iff_not];omega,cond_false,qkS _ _ (by omega),Option.bind_some]
    cases fineT s (ByteArray.mk #[123,125])<;>rfl
def tErrD (pre:List RTag) (d:RTag):Int:=if qsl d.1=false then 6 else if 40<d.2.1.size then 2 else if fineT d.2.1 (ByteArray.mk #[34])=false then 3 else if pre.any (fun u=>u.1.toList==d.1.toList)=true then 7 else 0
def tErr (ts:List RTag) (i:Nat):Int:=match ts[i]? with
  | none=>0
  | some d=>tErrD (ts.take i) d
theorem tErr_at (ts:List RTag) (i:Nat) (h:i<ts.length):tErr ts i=tErrD (ts.take i) ts[i]:=by
  unfold tErr;rw[List.getElem?_eq_getElem h]
theorem tags_spec (x:Rec) (hx:Rng tyRec x):qjZ x=some (qaO (tErr x.1) x.1.length):=by
  have hn:x.1.length≤9223372036854775807:=hx.1.1;unfold qjZ
  have:=qr7 x.1.length (qeI x) (tErr x.1) ((),()) (some 0) (fun i hi=>by
    have hd1:(x.1[i]).1.size≤9223372036854775807:=(hx.1.2 _ (List.getElem_mem hi)).1;have hd2:(x.1[i]).2.1.size≤9223372036854775807:=(hx.1.2 _ (List.getElem_mem hi)).2.1;rw[tErr_at _ _ hi];unfold qeI;simp only[show decide ((i:Int)<((x.1.length:Nat):Int))=true by simp;omega,cond_true];rw[qoE _ _ hi,Option.bind_some];generalize x.1[i]=d at hd1 hd2;unfold tErrD;rw[quT _ (by omega),Option.bind_some];cases qsl d.1
    · rfl
    · simp only[Bool.not_true,cond_false,if_neg (show ¬(true=false) by decide)];by_cases h1:40<d.2.1.size
      · rw[if_pos h1,show decide (((d.2.1.size:Nat):Int)>40)=true by simp only[decide_eq_true_eq];omega];rfl
      · rw[if_neg h1,show decide (((d.2.1.size:Nat):Int)>40)=false by simp only[decide_eq_false_iff_not];omega,cond_false,qkS _ _ (by omega),Option.bind_some];cases fineT d.2.1 (ByteArray.mk #[34])
        · rfl
        · simp only[Bool.not_true,cond_false,if_neg (show ¬(true=false) by decide)];rw[show qo 0 (i:Int) x.1.length=true by simp only[qo,Bool.and_eq_true,decide_eq_true_eq];omega,qc]
          have hl:(x.1.take i).length=i:=by rw[List.length_take];omega
          have hL:=qQ (x.1.take i) (fun u=>u.1.toList==d.1.toList) (qeS x (((i:Int),()),()) d) (.inr (.inr (.inr 7))) (.inl ((),())) (fun j hj=>by
            have hj':j<i:=by rw[List.length_take] at hj;omega
            unfold qeS;simp only[Int.toNat_natCast,List.drop_zero,hl];simp only[show decide ((j:Int)<((i:Nat):Int))=true by simp;omega,cond_true];rw[qoE _ _ hj,Option.bind_some];simp only[Int.toNat_natCast,show decide ((j:Int)≥0)=true by simp,cond_true,qe (n:=(j:Int)+1) (by omega) (by omega)]
            rfl) (by
            unfold qeS;simp only[Int.toNat_natCast,List.drop_zero,hl]
            simp)
          rw[hL,Option.bind_some,qe (n:=(i:Int)+1) (by omega) (by omega)]
          cases (x.1.take i).any (fun u=>u.1.toList==d.1.toList)<;>rfl) (by
    unfold qeI
    simp)
  rw[this];split
  · rename_i h;rw[h]
  · rfl

def rpar (ns:List RNode) (i:Nat):Int:=((ns[i]?).map (·.1)).getD (-1)
def rmv (ns:List RNode) (i:Nat):Mv:=((ns[i]?).map (·.2.1)).getD (0,(0,(0,())))
def qu3 (ns:List RNode):Nat→Int→List Nat
  | 0,_=>[]
  | f+1,n=>if n<0 then [] else n.toNat::qu3 ns f (rpar ns n.toNat)
def Down (ns:List RNode) (k:Nat):Prop:=∀i,i<k→rpar ns i<(i:Int)
theorem Down.mono {ns:List RNode} {k j:Nat} (h:Down ns k) (hj:j≤k):Down ns j:=fun i hi=>h i (by omega)
theorem qsh {ns:List RNode}:∀(f g:Nat) (n:Int),Down ns (n+1).toNat→n<(f:Int)→n<(g:Int)→qu3 ns f n=qu3 ns g n
  | 0,0,n,_,_,_=>rfl
  | 0,g+1,n,_,h,_=>by
    show []=if n<0 then [] else _;rw[if_pos (by omega)]
  | f+1,0,n,_,_,h=>by
    show(if n<0 then [] else _)=[];rw[if_pos (by omega)]
  | f+1,g+1,n,hd,h1,h2=>by
    show(if n<0 then [] else _)=if n<0 then [] else _;by_cases h:n<0
    · rw[if_pos h,if_pos h]
    · rw[if_neg h,if_neg h];have:=hd n.toNat (by omega);rw[qsh f g (rpar ns n.toNat) (hd.mono (by omega)) (by omega) (by omega)]
def wayN (ns:List RNode) (n:Int):List Nat:=qu3 ns (n+1).toNat n
theorem qjF (ns:List RNode) {n:Int} (h:n<0):wayN ns n=[]:=by
  unfold wayN;rw[show(n+1).toNat=0 by omega];rfl
theorem ql1 {ns:List RNode} {n:Int} (h:0≤n) (hd:Down ns (n+1).toNat):wayN ns n=n.toNat::wayN ns (rpar ns n.toNat):=by
  have hp:=hd n.toNat (by omega);unfold wayN;rw[show(n+1).toNat=n.toNat+1 by omega];show(if n<0 then [] else n.toNat::qu3 ns n.toNat (rpar ns n.toNat))=_;rw[if_neg (by omega),qsh n.toNat (rpar ns n.toNat+1).toNat (rpar ns n.toNat) (hd.mono (by omega)) (by omega) (by omega)]
def wayM (ns:List RNode) (n:Int):List Mv:=((wayN ns n).map (rmv ns)).reverse
theorem wayN_le {ns:List RNode}:∀(k:Nat) (n:Int),(n+1).toNat≤k→Down ns (n+1).toNat→∀j∈wayN ns n,(j:Int)≤n
  | 0,n,hk,_,j,hj=>by rw[qjF ns (by omega)] at hj;cases hj
  | k+1,n,hk,hd,j,hj=>by
    by_cases h:n<0
    · rw[qjF ns h] at hj;cases hj
    · have hp:=hd n.toNat (by omega);rw[ql1 (by omega) hd] at hj;rcases List.mem_cons.1 hj with rfl | hj
      · omega
      · have:=wayN_le k (rpar ns n.toNat) (by omega) (hd.mono (by omega)) j hj;omega
theorem qm1 {ns:List RNode}:∀(k:Nat) (n:Int),(n+1).toNat≤k→Down ns (n+1).toNat→(wayN ns n).length≤k
  | 0,n,hk,_=>by rw[qjF ns (by omega)];exact Nat.le_refl _
  | k+1,n,hk,hd=>by
    by_cases h:n<0
    · rw[qjF ns h];exact Nat.zero_le _
    · have hp:=hd n.toNat (by omega);rw[ql1 (by omega) hd,List.length_cons];have:=qm1 k (rpar ns n.toNat) (by omega) (hd.mono (by omega));omega
theorem at_node {ns:List RNode} {n:Int} (h0:0≤n) (h1:n<((ns.length:Nat):Int)):∃d,at? ns n=some d∧d.1=rpar ns n.toNat∧d.2.1=rmv ns n.toNat:=by
  have hl:n.toNat<ns.length:=by omega
  refine⟨ns[n.toNat],at?_eq _ _ h0 h1,?_,?_⟩
  · unfold rpar;rw[List.getElem?_eq_getElem hl];rfl
  · unfold rmv;rw[List.getElem?_eq_getElem hl];rfl
theorem way_L1 (x:Rec) (hn:x.2.2.1.length≤1000):∀s:((List Mv×Int×Unit)×Unit),(s.1.2.1<((x.2.2.1.length:Nat):Int)∧Down x.2.2.1 (s.1.2.1+1).toNat∧s.1.1.length+(s.1.2.1+1).toNat≤2000) →
    iterW (qfD x) s=some ((s.1.1++(wayN x.2.2.1 s.1.2.1).map (rmv x.2.2.1),()),()):=by
  refine qug _ (fun s:((List Mv×Int×Unit)×Unit)=>(s.1.2.1+1).toNat) (fun s=>((s.1.1++(wayN x.2.2.1 s.1.2.1).map (rmv x.2.2.1),()),())) ?_
  rintro ⟨⟨acc,n,⟨⟩⟩,⟨⟩⟩ ⟨h1,hd,hl⟩
  simp only at h1 hd hl ⊢;by_cases h:n<0
  · refine .inr ?_;unfold qfD;simp only[show decide (n≥0)=false by simp;omega,cond_false,qjF _ h,List.map_nil,List.append_nil]
  · refine .inl ?_;have hp:=hd n.toNat (by omega);obtain⟨d,e1,e2,e3⟩:=at_node (ns:=x.2.2.1) (n:=n) (by omega) h1;refine⟨((acc++[rmv x.2.2.1 n.toNat],rpar x.2.2.1 n.toNat,()),()),?_,⟨by simp only;omega,hd.mono (by simp only;omega),by simp only[List.length_append,List.length_cons,List.length_nil];omega⟩,by simp only;omega,?_⟩
    · unfold qfD;simp only[show decide (n≥0)=true by simp;omega,cond_true];rw[e1];simp only[Option.bind_some];rw[qI (by simp only[List.length_cons,List.length_nil];omega),qc,e2,e3]
    · simp only;rw[ql1 (by omega) hd,List.map_cons,List.append_assoc];rfl
def revK (xs:List Mv) (k:Nat):List Mv:=(List.range xs.length).map fun t=>if t<k∨xs.length-k≤t then xs.getD (xs.length-1-t) (0,(0,(0,()))) else xs.getD t (0,(0,(0,())))
theorem qeN (xs:List Mv) (k:Nat):(revK xs k).length=xs.length:=by simp[revK]
theorem qw8 (xs:List Mv) (k t:Nat) (h:t<xs.length):getD' (revK xs k) t (0,(0,(0,())))=if t<k∨xs.length-k≤t then xs.getD (xs.length-1-t) (0,(0,(0,()))) else xs.getD t (0,(0,(0,()))):=by
  unfold getD' revK;rw[List.getD_eq_getElem?_getD,List.getElem?_map,List.getElem?_range h];rfl
theorem revK_step (xs:List Mv) (k:Nat) (h:k+1<xs.length-k):((revK xs k).set k (getD' (revK xs k) (xs.length-1-k) (0,(0,(0,()))))).set (xs.length-1-k) (getD' (revK xs k) k (0,(0,(0,()))))=revK xs (k+1):=by
  rw[qw8 xs k k (by omega),qw8 xs k (xs.length-1-k) (by omega),if_neg (by omega),if_neg (by omega)];apply List.ext_getElem
  · simp[qeN]
  · intro t h1 h2
    have ht:t<xs.length:=by rw[qeN] at h2;exact h2
    have e:∀j,(revK xs j)[t]?=some (if t<j∨xs.length-j≤t then xs.getD (xs.length-1-t) (0,(0,(0,()))) else xs.getD t (0,(0,(0,())))):=fun j=>by
      unfold revK;rw[List.getElem?_map,List.getElem?_range ht];rfl
    have e1:(revK xs (k+1))[t]=if t<k+1∨xs.length-(k+1)≤t then xs.getD (xs.length-1-t) (0,(0,(0,()))) else xs.getD t (0,(0,(0,()))):=by
      have:=e (k+1);rw[List.getElem?_eq_getElem h2] at this;exact Option.some.inj this
    have hk:t<(revK xs k).length:=by rw[qeN];exact ht
    have e2:(revK xs k)[t]=if t<k∨xs.length-k≤t then xs.getD (xs.length-1-t) (0,(0,(0,()))) else xs.getD t (0,(0,(0,()))):=by
      have:=e k;rw[List.getElem?_eq_getElem hk] at this;exact Option.some.inj this
    rw[e1,List.getElem_set,List.getElem_set,e2];by_cases c1:xs.length-1-k=t
    · rw[if_pos c1,if_pos (by omega),show xs.length-1-t=k by omega]
    · rw[if_neg c1];by_cases c2:k=t
      · rw[if_pos c2,if_pos (by omega),c2]
      · rw[if_neg c2];by_cases c3:t<k∨xs.length-k≤t
        · rw[if_pos c3,if_pos (by omega)]
        · rw[if_neg c3,if_neg (by omega)]
theorem revK_zero (xs:List Mv):revK xs 0=xs:=by
  apply List.ext_getElem
  · exact qeN xs 0
  · intro t h1 h2;have e:(revK xs 0)[t]?=some (xs.getD t (0,(0,(0,())))):=by
      unfold revK;rw[List.getElem?_map,List.getElem?_range h2];show some (if t<0∨xs.length-0≤t then _ else _)=_;rw[if_neg (by omega)]
    rw[List.getElem?_eq_getElem h1] at e;rw[Option.some.inj e];simp[List.getD_eq_getElem?_getD,h2]
theorem revK_all (xs:List Mv) (k:Nat) (h:xs.length≤2*k+1) (hk:2*k≤xs.length):revK xs k=xs.reverse:=by
  apply List.ext_getElem
  · rw[qeN,List.length_reverse]
  · intro t h1 h2
    have ht:t<xs.length:=by rw[qeN] at h1;exact h1
    have e:(revK xs k)[t]?=some (if t<k∨xs.length-k≤t then xs.getD (xs.length-1-t) (0,(0,(0,()))) else xs.getD t (0,(0,(0,())))):=by
      unfold revK;rw[List.getElem?_map,List.getElem?_range ht];rfl
    rw[List.getElem?_eq_getElem h1] at e;rw[Option.some.inj e,List.getElem_reverse];by_cases c:t<k∨xs.length-k≤t
    · rw[if_pos c];simp[List.getD_eq_getElem?_getD,show xs.length-1-t<xs.length by omega]
    · rw[if_neg c]
      have:t=xs.length-1-t:=by omega
      simp only[←this];simp[List.getD_eq_getElem?_getD,ht]
theorem way_L2 (xs:List Mv) (hx:xs.length≤1000000):iterW qd8 ((0,(w64 (((xs.length:Nat):Int)-1)),()),(xs,()))=some ((),(xs.reverse,())):=by
  have:=qcv (f:=qd8) (xs.length / 2) (fun k=>(((k:Int),((xs.length:Nat):Int)-1-(k:Int),()),(revK xs k,()))) ((),(xs.reverse,())) (fun k hk=>by
    unfold qd8
    have e1:(((xs.length:Nat):Int)-1-(k:Int)).toNat=xs.length-1-k:=by omega
    simp only[show decide ((k:Int)<((xs.length:Nat):Int)-1-(k:Int))=true by simp;omega,cond_true];rw[show inb (((xs.length:Nat):Int)-1-(k:Int)) (revK xs k).length=true from inb_iff.2 (by rw[qeN];omega),show inb (k:Int) (revK xs k).length=true from inb_iff.2 (by rw[qeN];omega)];simp only[qc,Int.toNat_natCast,e1]
    rw[show ∀y,inb (((xs.length:Nat):Int)-1-(k:Int)) ((revK xs k).set k y).length=true from fun y=>inb_iff.2 (by rw[List.length_set,qeN];omega),qc,revK_step xs k (by omega),qe (by omega) (by omega),qe (by omega) (by omega),show((k+1:Nat):Int)=(k:Int)+1 by omega,show((xs.length:Nat):Int)-1-((k:Int)+1)=((xs.length:Nat):Int)-1-(k:Int)-1 by omega]) (by
    unfold qd8;simp only[show decide (((xs.length / 2:Nat):Int)<((xs.length:Nat):Int)-1-((xs.length / 2:Nat):Int))=false by simp only[decide_eq_false_iff_not];omega,cond_false]
    rw[revK_all xs _ (by omega) (by omega)])
  simp only[Int.natCast_zero,Int.sub_zero,revK_zero] at this;rw[qe (by omega) (by omega)];exact this
theorem qvU (x:Rec) (hn:x.2.2.1.length≤1000) {n:Int} (h0 : -1≤n) (h1:n<((x.2.2.1.length:Nat):Int)) (hd:Down x.2.2.1 (n+1).toNat):qah x n=some (wayM x.2.2.1 n):=by
  unfold qah;have e:=way_L1 x hn (([],n,()),()) ⟨h1,hd,by simp only[List.length_nil];omega⟩;simp only[List.nil_append] at e;have hl:=qm1 _ n (Nat.le_refl _) hd;rw[e,Option.bind_some];simp only;rw[way_L2 _ (by rw[List.length_map];omega),Option.bind_some];rfl
theorem on_L1 (a:Int) (x:Rec):∀s:((Int×Unit)×Unit),(s.1.1<((x.2.2.1.length:Nat):Int)∧Down x.2.2.1 (s.1.1+1).toNat) →
    iterW (qfb a x) s=some (if 0≤a∧a.toNat∈wayN x.2.2.1 s.1.1 then .inr true else .inl ((),())):=by
  refine qug _ (fun s:((Int×Unit)×Unit)=>(s.1.1+1).toNat) (fun s=>if 0≤a∧a.toNat∈wayN x.2.2.1 s.1.1 then(Sum.inr true:(Unit×Unit) ⊕ Bool) else Sum.inl ((),())) ?_
  rintro ⟨⟨n,⟨⟩⟩,⟨⟩⟩ ⟨h1,hd⟩
  simp only at h1 hd ⊢;by_cases h:n<0
  · refine .inr ?_;unfold qfb;simp only[show decide (n≥0)=false by simp;omega,cond_false,qjF _ h];rw[if_neg (by simp)]
  · have hp:=hd n.toNat (by omega);have hw:=ql1 (ns:=x.2.2.1) (by omega) hd;by_cases ha:n=a
    · refine .inr ?_;subst ha;unfold qfb;simp only[show decide (n≥0)=true by simp;omega,cond_true,beq_self_eq_true];rw[if_pos ⟨by omega,by rw[hw];exact List.mem_cons_self⟩]
    · refine .inl ⟨((rpar x.2.2.1 n.toNat,()),()),?_,⟨by simp only;omega,hd.mono (by simp only;omega)⟩,by simp only;omega,?_⟩
      · obtain⟨d,e1,e2,e3⟩:=at_node (ns:=x.2.2.1) (n:=n) (by omega) h1;unfold qfb;simp only[show decide (n≥0)=true by simp;omega,cond_true,beq_f ha,cond_false];rw[e1,Option.bind_some,e2]
      · simp only;rw[hw];have:(0≤a∧a.toNat∈n.toNat::wayN x.2.2.1 (rpar x.2.2.1 n.toNat))↔(0≤a∧a.toNat∈wayN x.2.2.1 (rpar x.2.2.1 n.toNat)):=by
          rw[List.mem_cons];constructor
          · rintro ⟨q1,q2 | q2⟩
            · omega
            · exact⟨q1,q2⟩
          · rintro ⟨q1,q2⟩;exact⟨q1,.inr q2⟩
        simp only[this]
theorem on_spec (x:Rec) (a:Int) {n:Int} (h1:n<((x.2.2.1.length:Nat):Int)) (hd:Down x.2.2.1 (n+1).toNat):qlY x a n=some (decide (0≤a∧a.toNat∈wayN x.2.2.1 n)||(a == -1)):=by
  unfold qlY;rw[on_L1 a x ((n,()),()) ⟨h1,hd⟩,Option.bind_some];by_cases h:0≤a∧a.toNat∈wayN x.2.2.1 n
  · simp only[if_pos h,decide_eq_true h,Bool.true_or];rfl
  · simp only[if_neg h,decide_eq_false h,Bool.false_or];rfl

def rcom (ns:List RNode) (i:Nat):ByteArray:=((ns[i]?).map (·.2.2.1)).getD ByteArray.empty
def gErr (r:Rules) (l:List Mv):Int:=if qH r=0 then(match qiB r l with
    | .inl _=>0
    | .inr e=>e) else qH r
theorem run_err (r:Rules) (l:List Mv):(qez r l).2.2.1=gErr r l:=by
  unfold qez gErr;by_cases c:qH r=0
  · rw[if_pos c,if_pos c]
    cases qiB r l<;>rfl
  · rw[if_neg c,if_neg c]
def ordB (ns:List RNode) (i:Nat):Bool:=decide (rpar ns i<(i:Int))&&(decide (0≤rpar ns i∧(rpar ns i).toNat∈wayN ns ((i:Int)-1))||(rpar ns i == -1))
def twinB (ns:List RNode) (i:Nat):Bool:=(List.range i).any fun k=>(rpar ns k==rpar ns i)&&(rmv ns k==rmv ns i)
def sibB (ns:List RNode) (i:Nat):Bool:=(List.range i).any fun k=>rpar ns k==rpar ns i
def nErr (r:Rules) (ns:List RNode) (i:Nat):Int:=if cErr (rcom ns i)≠0 then cErr (rcom ns i) else if ordB ns i=false then 3 else if twinB ns i=true then 7 else gErr r (wayM ns (i:Int))
def Ord (ns:List RNode) (k:Nat):Prop:=∀i,i<k→ordB ns i=true
theorem Ord.down {ns:List RNode} {k:Nat} (h:Ord ns k):Down ns k:=fun i hi=>by
  have:=h i hi;unfold ordB at this;simp only[Bool.and_eq_true,decide_eq_true_eq] at this;exact this.1
theorem Ord.low {ns:List RNode} {k:Nat} (h:Ord ns k):∀i,i<k → -1≤rpar ns i:=fun i hi=>by
  have:=h i hi;unfold ordB at this;simp only[Bool.and_eq_true,Bool.or_eq_true,decide_eq_true_eq,beq_iff_eq] at this;omega
theorem Ord.step {ns:List RNode} {k:Nat} (h:Ord ns k) (hk:ordB ns k=true):Ord ns (k+1):=fun i hi=>by
  by_cases e:i=k
  · subst e;exact hk
  · exact h i (by omega)
theorem qlq {ns:List RNode} {i:Nat} (hi:i<ns.length):ns[i].1=rpar ns i∧ns[i].2.1=rmv ns i∧ns[i].2.2.1=rcom ns i:=by
  unfold rpar rmv rcom;rw[List.getElem?_eq_getElem hi];exact⟨rfl,rfl,rfl⟩
theorem sib_gap {ns:List RNode} {i:Nat} (h:Down ns i) (hs:sibB ns i=true):rpar ns i+2≤(i:Int)∨rpar ns i<0∧1≤i:=by
  unfold sibB at hs;rw[List.any_eq_true] at hs;obtain⟨k,hk,e⟩:=hs;have hk:=List.mem_range.1 hk;have:=h k hk
  have e:rpar ns k=rpar ns i:=by simpa using e
  omega
structure qxS (ns:List RNode) (deep:List Int) (i:Nat):Prop where
  len:deep.length=ns.length
  all:∀j,j<ns.length→0≤deep.getD j 0∧2*deep.getD j 0≤(j:Int)+1
  zero:∀j,i≤j→deep.getD j 0=0
theorem gdD (xs:List Int) (i:Nat):getD' xs i 0=xs.getD i 0:=rfl
theorem setD (xs:List Int) (i j:Nat) (a:Int) (h:i<xs.length):(xs.set i a).getD j 0=if i=j then a else xs.getD j 0:=by
  rw[List.getD_eq_getElem?_getD,List.getD_eq_getElem?_getD,List.getElem?_set];by_cases e:i=j
  · rw[if_pos e,if_pos e,if_pos h];rfl
  · rw[if_neg e,if_neg e]
abbrev eqMv (a b:Mv):Bool:=(a.1==b.1)&&((a.2.1==b.2.1)&&((a.2.2.1==b.2.2.1)&&true))
theorem qxd (a b:Mv):eqMv a b=(a==b):=by
  obtain⟨a1,a2,a3,⟨⟩⟩:=a;obtain⟨b1,b2,b3,⟨⟩⟩:=b;rw[Bool.eq_iff_iff];simp[eqMv]
theorem node_spec {r:Rules} (hr:Rng qT r) (x:Rec) (hx:Rng tyRec x) (h30:x.2.2.1.length≤30) {i:Nat} (hi:i<x.2.2.1.length) (ho:Ord x.2.2.1 i) {deep:List Int} (hD:qxS x.2.2.1 deep i) :
    ∃deep',qjJ deep r x (i:Int)=some (deep',nErr r x.2.2.1 i)∧(nErr r x.2.2.1 i=0→qxS x.2.2.1 deep' (i+1)):=by
  have hcs:(rcom x.2.2.1 i).size≤9223372036854775807:=by
    have:=(hx.2.2.1.2 _ (List.getElem_mem hi)).2.2.1;rw[←(qlq hi).2.2];exact this
  have hd:=ho.down;obtain⟨n1,n2,n3⟩:=qlq hi;unfold qjJ;rw[qoE _ _ hi,Option.bind_some];simp only[n1,n2,n3];rw[qox _ hcs,Option.bind_some];unfold nErr;by_cases hc:cErr (rcom x.2.2.1 i)=0
  rotate_left
  · rw[bne_t hc,cond_true,if_pos hc];exact⟨_,rfl,fun h=>absurd h hc⟩
  rw[bne_f hc,cond_false,if_neg (fun h=>h hc)];have hon:qlY x (rpar x.2.2.1 i) (w64 ((i:Int)-1))=some (decide (0≤rpar x.2.2.1 i∧(rpar x.2.2.1 i).toNat∈wayN x.2.2.1 ((i:Int)-1))||(rpar x.2.2.1 i == -1)):=by
    rw[qe (by omega) (by omega)];exact on_spec x _ (by omega) (by rw[show((i:Int)-1+1).toNat=i by omega];exact hd)
  rw[hon];by_cases hob:ordB x.2.2.1 i=true
  rotate_left
  · rw[Bool.not_eq_true] at hob;rw[if_pos hob];refine⟨deep,?_,fun h=>by cases h⟩;unfold ordB at hob;by_cases hp:rpar x.2.2.1 i<(i:Int)
    · rw[decide_eq_true hp,Bool.true_and] at hob;rw[show decide (rpar x.2.2.1 i≥(i:Int))=false by simp only[decide_eq_false_iff_not];omega,hob];rfl
    · rw[show decide (rpar x.2.2.1 i≥(i:Int))=true by simp only[decide_eq_true_eq];omega];rfl
  rw[if_neg (by rw[hob];decide)];have hor:=ho.step hob;have hd1:=hor.down;have hpi:=hd1 i (Nat.lt_succ_self i);have hpl:=hor.low i (Nat.lt_succ_self i);have hob2:=hob;unfold ordB at hob2;rw[decide_eq_true hpi,Bool.true_and] at hob2;rw[show decide (rpar x.2.2.1 i≥(i:Int))=false by simp only[decide_eq_false_iff_not];omega,hob2];simp only[Bool.not_false,gopt,cond_true,Option.bind_some,Bool.not_true,Bool.or_self,cond_false];have hdl:=hD.len
  obtain⟨dp,hdp1,hdp2⟩:∃dp:List Int,(bif (decide (rpar x.2.2.1 i≥0)) then req (inb (rpar x.2.2.1 i) deep.length) (req (inb (i:Int) deep.length) (some ((),((deep.set (((i:Int)).toNat) (getD' deep ((rpar x.2.2.1 i).toNat) 0)),()))))
      else some ((),(deep,())))=some ((),(dp,()))∧(qxS x.2.2.1 dp (i+1)∧(2*dp.getD i 0≤rpar x.2.2.1 i+1)):=by
    by_cases h0:0≤rpar x.2.2.1 i
    · rw[show decide (rpar x.2.2.1 i≥0)=true by simp only[decide_eq_true_eq];omega,cond_true,inb_iff.2 ⟨h0,by omega⟩,qc,show inb (i:Int) deep.length=true from inb_iff.2 (by omega),qc];have q:=hD.all (rpar x.2.2.1 i).toNat (by omega);refine⟨_,rfl,⟨by rw[List.length_set];exact hdl,fun j hj=>?_,fun j hj=>?_⟩,?_⟩
      · rw[Int.toNat_natCast,gdD,setD _ _ _ _ (by omega)];by_cases e:i=j
        · rw[if_pos e];omega
        · rw[if_neg e];exact hD.all j hj
      · rw[Int.toNat_natCast,gdD,setD _ _ _ _ (by omega),if_neg (by omega)];exact hD.zero j (by omega)
      · rw[Int.toNat_natCast,gdD,setD _ _ _ _ (by omega),if_pos rfl];omega
    · rw[show decide (rpar x.2.2.1 i≥0)=false by simp only[decide_eq_false_iff_not];omega,cond_false];exact⟨_,rfl,⟨hdl,hD.all,fun j hj=>hD.zero j (by omega)⟩,by rw[hD.zero i (Nat.le_refl _)];omega⟩
  rw[hdp1,Option.bind_some];rw[show qo 0 (i:Int) x.2.2.1.length=true by simp only[qo,Bool.and_eq_true,decide_eq_true_eq];omega,qc,qc]
  have htl:(x.2.2.1.take i).length=i:=by rw[List.length_take];omega
  have tk:∀k (hk:k<(x.2.2.1.take i).length),(x.2.2.1.take i)[k].1=rpar x.2.2.1 k∧(x.2.2.1.take i)[k].2.1=rmv x.2.2.1 k:=fun k hk=>by
    rw[List.getElem_take];exact⟨(qlq (by omega)).1,(qlq (by omega)).2.1⟩
  obtain⟨nd,hnd⟩:∃nd:RNode,x.2.2.1[i]=nd:=⟨_,rfl⟩;rw[hnd] at n1 n2;rw[hnd];have anyT:(x.2.2.1.take i).any (fun d=>(d.1==rpar x.2.2.1 i)&&(d.2.1==rmv x.2.2.1 i))=twinB x.2.2.1 i:=by
    unfold twinB;rw[Bool.eq_iff_iff,List.any_eq_true,List.any_eq_true];constructor
    · rintro ⟨d,hd,e⟩
      obtain⟨k,hk,rfl⟩:=List.mem_iff_getElem.1 hd;rw[(tk k hk).1,(tk k hk).2] at e;exact⟨k,List.mem_range.2 (by omega),e⟩
    · rintro ⟨k,hk,e⟩
      have hk:=List.mem_range.1 hk;refine⟨(x.2.2.1.take i)[k]'(by omega),List.getElem_mem _,?_⟩;rw[(tk k (by omega)).1,(tk k (by omega)).2];exact e
  have anyS:(x.2.2.1.take i).any (fun d=>d.1==rpar x.2.2.1 i)=sibB x.2.2.1 i:=by
    unfold sibB;rw[Bool.eq_iff_iff,List.any_eq_true,List.any_eq_true];constructor
    · rintro ⟨d,hd,e⟩
      obtain⟨k,hk,rfl⟩:=List.mem_iff_getElem.1 hd;rw[(tk k hk).1] at e;exact⟨k,List.mem_range.2 (by omega),e⟩
    · rintro ⟨k,hk,e⟩
      have hk:=List.mem_range.1 hk;refine⟨(x.2.2.1.take i)[k]'(by omega),List.getElem_mem _,?_⟩;rw[(tk k (by omega)).1];exact e
  have hL1:=qQ (x.2.2.1.take i) (fun d=>(d.1==rpar x.2.2.1 i)&&(d.2.1==rmv x.2.2.1 i)) (qeF x (i:Int) nd ((),(dp,()))) (.inr (dp,7)) (.inl ((),())) (fun k hk=>by
    unfold qeF;simp only[Int.toNat_natCast,List.drop_zero,n1,n2];rw[htl];simp only[show decide ((k:Int)<((i:Nat):Int))=true by simp;omega,cond_true];rw[qoE _ _ hk,Option.bind_some,(tk k hk).1,(tk k hk).2];rw[qe (n:=(k:Int)+1) (by omega) (by omega)];have:=qxd (rmv x.2.2.1 k) (rmv x.2.2.1 i);unfold eqMv at this;rw[this];cases e1:(rpar x.2.2.1 k==rpar x.2.2.1 i)
    · simp only[bne,e1,Bool.not_false,cond_true,Option.bind_some,Sum.elim_inl,Bool.false_and,cond_false];rfl
    · simp only[bne,e1,Bool.not_true,cond_false,Bool.true_and]
      cases (rmv x.2.2.1 k==rmv x.2.2.1 i)<;>rfl) (by
    unfold qeF;simp only[Int.toNat_natCast,List.drop_zero];rw[htl]
    simp)
  rw[hL1,anyT,Option.bind_some];cases htw:twinB x.2.2.1 i
  rotate_left
  · simp only[cond_true,Sum.elim_inr,if_true];exact⟨dp,rfl,fun h=>by cases h⟩
  simp only[cond_false,Sum.elim_inl,if_neg (show ¬(false=true) by decide)];have hway:qah x (i:Int)=some (wayM x.2.2.1 (i:Int)):=qvU x (by omega) (by omega) (by omega) (by rw[show((i:Int)+1).toNat=i+1 by omega];exact hd1);have hwl:(wayM x.2.2.1 (i:Int)).length≤1000:=by
    unfold wayM;rw[List.length_reverse,List.length_map];have:=qm1 _ (i:Int) (Nat.le_refl _) (by rw[show((i:Int)+1).toNat=i+1 by omega];exact hd1);omega
  have hrun:=qpc r (wayM x.2.2.1 (i:Int)) hr (by omega)
  have gm:∀z:List Int,z.length=x.2.2.1.length→2*z.getD i 0≤(i:Int)+1→(Option.bind (Option.bind (qah x (i:Int)) fun r15=>Option.bind (qW r r15) fun r16=>some ((r16.2.2.1,()),())) fun x27:((Int×Unit)×Unit) =>
      bif (x27.1.1 !=0) then some (z,x27.1.1) else req (inb (i:Int) z.length) (bif (decide ((getD' z (((i:Int)).toNat) 0)>20)) then some (z,2) else some (z,0)))=some (z,gErr r (wayM x.2.2.1 (i:Int))):=fun z hz h2=>by
    rw[hway,Option.bind_some,hrun,Option.bind_some,Option.bind_some,run_err];by_cases e:gErr r (wayM x.2.2.1 (i:Int))=0
    · simp only[e,bne_self_eq_false,cond_false];rw[inb_iff.2 ⟨by omega,by omega⟩,qc,Int.toNat_natCast,gdD,show decide (z.getD i 0>20)=false by simp only[decide_eq_false_iff_not];omega,cond_false]
    · simp only[bne_t e,cond_true]
  have hL2:=qQ (x.2.2.1.take i) (fun d=>d.1==rpar x.2.2.1 i) (qeU x (i:Int) nd ((),(dp,())) r) (.inr ((dp.set i (dp.getD i 0+1)),gErr r (wayM x.2.2.1 (i:Int)))) (.inl ((),())) (fun k hk=>by
    unfold qeU;simp only[Int.toNat_natCast,List.drop_zero,n1,n2];rw[htl];simp only[show decide ((k:Int)<((i:Nat):Int))=true by simp;omega,cond_true];rw[qoE _ _ hk,Option.bind_some,(tk k hk).1];rw[qe (n:=(k:Int)+1) (by omega) (by omega)];cases e1:(rpar x.2.2.1 k==rpar x.2.2.1 i)
    · rfl
    · have hs:sibB x.2.2.1 i=true:=by
        unfold sibB;rw[List.any_eq_true];exact⟨k,List.mem_range.2 (by omega),e1⟩
      have hgap:=sib_gap hd hs;have hq:=hdp2.1.all i hi;have hq2:=hdp2.2;have hdl2:=hdp2.1.len;simp only[cond_true,show decide ((k:Int)≥0)=true by simp];rw[inb_iff.2 ⟨by omega,by omega⟩,qc,qc,Option.bind_some];simp only[agree_self];have:=gm (dp.set i (dp.getD i 0+1)) (by rw[List.length_set];exact hdl2) (by rw[setD _ _ _ _ (by omega),if_pos rfl];omega);simp only[Int.toNat_natCast] at this;rw[gdD,qe (by omega) (by omega),this]
      rfl) (by
    unfold qeU;simp only[Int.toNat_natCast,List.drop_zero];rw[htl]
    simp)
  rw[hL2,anyS,Option.bind_some];have hq:=hdp2.1.all i hi;have hq2:=hdp2.2;have hdl2:=hdp2.1.len;cases hsb:sibB x.2.2.1 i
  · simp only[cond_false,Sum.elim_inl,agree_self];exact⟨dp,gm dp hdl2 (by omega),fun _=>hdp2.1⟩
  · have hgap:=sib_gap hd hsb;simp only[cond_true,Sum.elim_inr];refine⟨_,rfl,fun _=>⟨by rw[List.length_set];exact hdl2,fun j hj=>?_,fun j hj=>?_⟩⟩
    · rw[setD _ _ _ _ (by omega)];by_cases e:i=j
      · rw[if_pos e];omega
      · rw[if_neg e];exact hdp2.1.all j hj
    · rw[setD _ _ _ _ (by omega),if_neg (by omega)];exact hdp2.1.zero j hj
theorem scan_nz (e:Nat→Int) (i k:Nat):scan (fun i=>nz (e i)) 0 i (k+1)=if e i=0 then scan (fun i=>nz (e i)) 0 (i+1) k else e i:=by
  by_cases h:e i=0
  · rw[if_pos h]
    conv=>lhs;unfold scan
    simp only[nz,if_pos h]
  · rw[if_neg h]
    conv=>lhs;unfold scan
    simp only[nz,if_neg h]
def qgi (r:Rules) (x:Rec):Int:=if qH r≠0 then qH r else if 10<x.1.length then 2 else if qaO (tErr x.1) x.1.length≠0 then qaO (tErr x.1) x.1.length else if x.2.2.2.1<0∨3<x.2.2.2.1 then 4 else if cErr x.2.1≠0 then cErr x.2.1 else qaO (nErr r x.2.2.1) x.2.2.1.length
theorem qw5 {r:Rules} {ns:List RNode} {i:Nat} (h:nErr r ns i=0):ordB ns i=true:=by
  unfold nErr at h;split at h
  · contradiction
  · cases e:ordB ns i
    · rw[e,if_pos rfl] at h;cases h
    · rfl
theorem ord_of {r:Rules} {ns:List RNode} (h:qaO (nErr r ns) ns.length=0):Ord ns ns.length:=fun i hi=>qw5 (qcA h i hi)
theorem qyd {r:Rules} (hr:Rng qT r) (x:Rec) (hx:Rng tyRec x) (h30:x.2.2.1.length≤30):∀(k i:Nat) (deep:List Int),i+k=x.2.2.1.length→Ord x.2.2.1 i→qxS x.2.2.1 deep i →
    Option.bind (iterW (qb8 x r) (((i:Int),()),(deep,()))) (Sum.elim (fun _=>some 0) some)=some (scan (fun i=>nz (nErr r x.2.2.1 i)) 0 i k):=by
  intro k
  induction k with
  | zero =>
    intro i deep hi ho hD
    have:i=x.2.2.1.length:=by omega
    subst this;rw[qh (r := .inl ((),(deep,()))) (by unfold qb8;simp)];rfl
  | succ k ih =>
    intro i deep hi ho hD;obtain⟨deep',h1,h2⟩:=node_spec hr x hx h30 (i:=i) (by omega) ho hD;have hs:=scan_nz (nErr r x.2.2.1) i k;rw[hs];by_cases e:nErr r x.2.2.1 i=0
    · rw[if_pos e,ql (y:=((((i+1:Nat):Int),()),(deep',())))]
      · exact ih (i+1) deep' (by omega) (ho.step (qw5 e)) (h2 e)
      · unfold qb8;simp only[show decide ((i:Int)<((x.2.2.1.length:Nat):Int))=true by simp;omega,cond_true];rw[h1,Option.bind_some];simp only[e,bne_self_eq_false,cond_false];rw[qe (by omega) (by omega)];rfl
    · rw[if_neg e,qh (r := .inr (nErr r x.2.2.1 i))]
      · rfl
      · unfold qb8;simp only[show decide ((i:Int)<((x.2.2.1.length:Nat):Int))=true by simp;omega,cond_true];rw[h1,Option.bind_some];simp only[bne_t e,cond_true]
theorem qk7 {r:Rules} (hr:Rng qT r) (x:Rec) (hx:Rng tyRec x) (h30:x.2.2.1.length≤30):qdF r x=some (qgi r x):=by
  unfold qdF qgi;rw[qn9 r hr,Option.bind_some];by_cases c:qH r=0
  rotate_left
  · rw[bne_t c,cond_true,if_pos c]
  rw[bne_f c,cond_false,if_neg (fun h=>h c)];rw[show decide (((x.2.2.1.length:Nat):Int)>200)=false by simp only[decide_eq_false_iff_not];omega,Bool.or_false];by_cases c1:10<x.1.length
  · rw[if_pos c1,show decide (((x.1.length:Nat):Int)>10)=true by simp only[decide_eq_true_eq];omega];rfl
  rw[if_neg c1,show decide (((x.1.length:Nat):Int)>10)=false by simp only[decide_eq_false_iff_not];omega,cond_false,tags_spec x hx,Option.bind_some];by_cases c2:qaO (tErr x.1) x.1.length=0
  rotate_left
  · rw[bne_t c2,cond_true,if_pos c2]
  rw[bne_f c2,cond_false,if_neg (fun h=>h c2)];by_cases c3:x.2.2.2.1<0∨3<x.2.2.2.1
  · rw[if_pos c3,show(decide (x.2.2.2.1<0)||decide (x.2.2.2.1>3))=true by simp only[Bool.or_eq_true,decide_eq_true_eq];omega];rfl
  rw[if_neg c3,show(decide (x.2.2.2.1<0)||decide (x.2.2.2.1>3))=false by simp only[Bool.or_eq_false_iff,decide_eq_false_iff_not];omega,cond_false];rw[qox _ hx.2.1,Option.bind_some];by_cases c4:cErr x.2.1=0
  rotate_left
  · rw[bne_t c4,cond_true,if_pos c4]
  rw[bne_f c4,cond_false,if_neg (fun h=>h c4)]
  rw[show(decide (0≤((x.2.2.1.length:Nat):Int))&&((((x.2.2.1.length:Nat):Int)==((x.2.2.1.length:Nat):Int))&&room (((x.2.2.1.length:Nat):Int)).toNat 8))=true by
    rw[beq_self_eq_true,qI (by omega)];simp,qc]
  exact qyd hr x hx h30 x.2.2.1.length 0 _ (by omega) (fun i hi=>by omega) ⟨by simp,fun j hj=>by simp[List.getD_eq_getElem?_getD,hj];omega,fun j _=>by
    rw[List.getD_eq_getElem?_getD,List.getElem?_replicate]
    split<;>rfl⟩

theorem eqL_of {a b:List Mv} (hl:a.length=b.length):(List.range a.length).any (fun i=>!(a.getD i (0,(0,(0,())))==b.getD i (0,(0,(0,()))))) = !(decide (a=b)):=by
  cases hany:(List.range a.length).any (fun i=>!(a.getD i (0,(0,(0,())))==b.getD i (0,(0,(0,()))))) with
  | true =>
    rw[List.any_eq_true] at hany;obtain⟨i,_,h⟩:=hany
    have:¬a=b:=fun e=>by subst e;simp at h
    simp[this]
  | false =>
    rw[List.any_eq_false] at hany;have:a=b:=by
      apply List.ext_getElem hl;intro i h1 h2;have:=hany i (List.mem_range.2 h1);simpa[List.getD_eq_getElem?_getD,h1,h2] using this
    simp[this]
def kidsI (ns:List RNode) (p:Int):List Int:=(List.range ns.length).flatMap fun (k:Nat)=>bif rpar ns k==p then [(k:Int)] else []
theorem qp0 (x:Rec) (p:Int) (h30:x.2.2.1.length≤1000):qdy x p=some (kidsI x.2.2.1 p):=by
  unfold qdy kidsI
  have:=qhN x.2.2.1.length 1 (qeK x p) (fun k=>bif rpar x.2.2.1 k==p then [(k:Int)] else []) (fun a=>((a,()),())) [] (fun k _=>by
    cases (rpar x.2.2.1 k==p)
    · exact Nat.zero_le _
    · exact Nat.le_refl _) (fun i hi a ha=>by
    simp only[List.length_nil] at ha;unfold qeK;simp only[show decide ((i:Int)<((x.2.2.1.length:Nat):Int))=true by simp;omega,cond_true];rw[qoE _ _ hi,Option.bind_some,(qlq hi).1,qe (n:=(i:Int)+1) (by omega) (by omega)];cases (rpar x.2.2.1 i==p)
    · simp only[cond_false,Option.bind_some,List.append_nil]
    · simp only[cond_true];rw[qI (by simp only[List.length_cons,List.length_nil];omega),qc]
      rfl) (fun a=>by unfold qeK;simp)
  rw[this];rfl
def leafB (ns:List RNode) (i:Nat):Bool:=ns.all fun d=>d.1 !=(i:Int)
theorem leaf_iff (ns:List RNode) (i:Nat):leafB ns i=true↔∀k,k<ns.length→¬rpar ns k=(i:Int):=by
  unfold leafB;rw[List.all_eq_true];constructor
  · intro h k hk;have:=h _ (List.getElem_mem hk);rw[(qlq hk).1] at this;simpa using this
  · intro h d hd;obtain⟨k,hk,rfl⟩:=List.mem_iff_getElem.1 hd;rw[(qlq hk).1];simpa using h k hk
theorem kids_nil (ns:List RNode) (p:Int) (h:∀k,k<ns.length→¬rpar ns k=p):kidsI ns p=[]:=by
  unfold kidsI;rw[List.flatMap_eq_nil_iff];intro k hk;rw[beq_f (h k (List.mem_range.1 hk))];rfl
theorem kids_leaf (ns:List RNode) (i:Nat):((((kidsI ns (i:Int)).length:Nat):Int)==0)=leafB ns i:=by
  rw[Bool.eq_iff_iff,leaf_iff,beq_iff_eq];constructor
  · intro h k hk e;have hn:kidsI ns (i:Int)=[]:=List.eq_nil_of_length_eq_zero (by omega);unfold kidsI at hn;rw[List.flatMap_eq_nil_iff] at hn;have:=hn k (List.mem_range.2 hk);rw[beq_t e] at this;cases this
  · intro h;rw[kids_nil ns _ h];rfl
def leaves (ns:List RNode) (i:Nat):List Nat:=(List.range i).filter (leafB ns)
theorem qwD (ns:List RNode) (i:Nat):leaves ns (i+1)=leaves ns i++(bif leafB ns i then [i] else []):=by
  unfold leaves;rw[List.range_succ,List.filter_append];congr 1
theorem qym (ns:List RNode) (i:Nat):(leaves ns i).length≤i:=by
  unfold leaves;have:=List.length_filter_le (leafB ns) (List.range i);rw[List.length_range] at this;exact this

abbrev CRule:=List (Int×Int×Unit)×Int×Int×Unit
abbrev Clk:=(Int×Int×Unit)×(Int×Int×Unit)×(Int×Int×Unit)×Int×Int×Bool×Int×Unit
def dPer:Int×Int×Unit:=(0,(0,()))
theorem qte {A:Type} (l:List A) (i:Nat) (d:A) (h:i<l.length):l.getD i d=l[i]:=by simp[List.getD_eq_getElem?_getD,h]
theorem qtf {A:Type} (xs:List A) (i:Nat) (h:i<xs.length):at? xs (i:Int)=some xs[i]:=by
  rw[at?_eq xs _ (Int.natCast_nonneg i) (Int.ofNat_lt.2 h)];simp only[Int.toNat_natCast]
theorem qdC (n low high:Int):qf n low high=true↔low≤n∧n≤high:=by
  unfold qf;simp only[ge_iff_le,Bool.and_eq_true,decide_eq_true_eq]
def qwY (cr:CRule) (i:Nat):Int:=if (!(qf (cr.1.getD i dPer).1 0 400) || !(qf (cr.1.getD i dPer).2.1 1 100000000))=true then 4 else if (!(((cr.1.getD i dPer).1==0)==((i:Int)==((cr.1.length:Nat):Int)-1)))=true then 3 else 0
def chkC (cr:CRule):Int:=if (!(qf ((cr.1.length:Nat):Int) 1 5))=true then 2 else if (!(qf cr.2.1 0 100000000) || !(qf cr.2.2.1 0 100000000))=true then 4 else qaO (qwY cr) cr.1.length
theorem qqC (cr:CRule) (hl:cr.1.length≤9223372036854775807):qgA cr=some (chkC cr):=by
  unfold qgA chkC
  cases (!(qf ((cr.1.length:Nat):Int) 1 5)) with
  | true=>rfl
  | false =>
  cases (!(qf cr.2.1 0 100000000) || !(qf cr.2.2.1 0 100000000)) with
  | true=>rfl
  | false =>
    simp only[cond_false,Bool.false_eq_true,if_false];rw[qr7 cr.1.length (qeV cr) (qwY cr) ((),()) (some 0) (fun i hi=>?_) (by unfold qeV;simp)]
    · split
      · rename_i h;rw[h]
      · rfl
    · unfold qeV qwY;simp only[ltd cr.1 i hi,cond_true];rw[qtf cr.1 i hi,Option.bind_some,qte cr.1 i dPer hi,qe (n:=(i:Int)+1) (by omega) (by omega),qe (n:=((cr.1.length:Nat):Int)-1) (by omega) (by omega)]
      cases (!(qf cr.1[i].1 0 400) || !(qf cr.1[i].2.1 1 100000000)) with
      | true=>simp
      | false =>
        simp only[cond_false,Bool.false_eq_true,if_false]
        cases (!((cr.1[i].1==0)==((i:Int)==((cr.1.length:Nat):Int)-1))) with
        | true=>simp
        | false=>simp
structure CROK (cr:CRule):Prop where
  len:1≤cr.1.length∧cr.1.length≤5
  inc:0≤cr.2.1∧cr.2.1≤100000000
  del:0≤cr.2.2.1∧cr.2.2.1≤100000000
  per:∀i (hi:i<cr.1.length),(0≤cr.1[i].1∧cr.1[i].1≤400)∧(1≤cr.1[i].2.1∧cr.1[i].2.1≤100000000)∧(cr.1[i].1=0↔i+1=cr.1.length)
theorem qlp {cr:CRule} (h:chkC cr=0):CROK cr:=by
  unfold chkC at h;split at h
  · cases h
  · rename_i h1;split at h
    · cases h
    · rename_i h2;simp only[Bool.or_eq_true,Bool.not_eq_true',not_or,Bool.not_eq_false,qdC] at h1 h2;refine⟨by omega,h2.1,h2.2,fun i hi=>?_⟩;have h3:=qcA h i hi;unfold qwY at h3;rw[qte cr.1 i dPer hi] at h3;split at h3
      · cases h3
      · rename_i h4;split at h3
        · cases h3
        · rename_i h5;simp only[Bool.or_eq_true,Bool.not_eq_true',not_or,Bool.not_eq_false,qdC] at h4;refine⟨h4.1,h4.2,?_⟩;simp only[Bool.not_eq_true',Bool.not_eq_false,beq_iff_eq] at h5;by_cases c:cr.1[i].1=0
          · rw[beq_t c] at h5;have:=(beq_iff_eq.1 h5.symm)
            constructor<;>intro _<;>omega
          · rw[beq_f c] at h5;have h6:=beq_eq_false_iff_ne.1 h5.symm;constructor
            · intro e;exact absurd e c
            · intro e;exact absurd (by omega) h6
structure VC (cr:CRule) (c:Clk):Prop where
  turn:0≤c.2.2.2.1∧c.2.2.2.1≤1
  fallen : -1≤c.2.2.2.2.2.2.1∧c.2.2.2.2.2.2.1≤1
  since:0≤c.2.2.2.2.1∧c.2.2.2.2.1≤100000000
  p0:0≤c.2.2.1.1∧c.2.2.1.1≤((cr.1.length:Nat):Int)-1
  p1:0≤c.2.2.1.2.1∧c.2.2.1.2.1≤((cr.1.length:Nat):Int)-1
  m0:0≤c.2.1.1∧c.2.1.1≤400
  m1:0≤c.2.1.2.1∧c.2.1.2.1≤400
  l0:0≤c.1.1∧c.1.1≤100000000000
  l1:0≤c.1.2.1∧c.1.2.1≤100000000000
def vcB (cr:CRule) (c:Clk):Bool:=((((((((qf c.2.2.2.1 0 1&&qf c.2.2.2.2.2.2.1 (-1) 1)&&qf c.2.2.2.2.1 0 100000000)&&qf c.2.2.1.1 0 (((cr.1.length:Nat):Int)-1))&&qf c.2.1.1 0 400)&&qf c.1.1 0 100000000000)&&qf c.2.2.1.2.1 0 (((cr.1.length:Nat):Int)-1))&&qf c.2.1.2.1 0 400)&&qf c.1.2.1 0 100000000000)
theorem qs8 (cr:CRule) (c:Clk):vcB cr c=true↔VC cr c:=by
  unfold vcB;simp only[Bool.and_eq_true,qdC];constructor
  · rintro ⟨⟨⟨⟨⟨⟨⟨⟨h1,h2⟩,h3⟩,h4⟩,h5⟩,h6⟩,h7⟩,h8⟩,h9⟩
    exact⟨h1,h2,h3,h4,h7,h5,h8,h6,h9⟩
  · rintro ⟨h1,h2,h3,h4,h7,h5,h8,h6,h9⟩
    exact⟨⟨⟨⟨⟨⟨⟨⟨h1,h2⟩,h3⟩,h4⟩,h5⟩,h6⟩,h7⟩,h8⟩,h9⟩
theorem qhc (cr:CRule) (c:Clk) (hl:cr.1.length≤9223372036854775807):qjT cr c=some (if chkC cr=0 then if vcB cr c=true then 0 else 4 else chkC cr):=by
  unfold qjT;rw[qqC cr hl,Option.bind_some];by_cases c0:chkC cr=0
  · rw[bne_f c0,cond_false,if_pos c0];have hw:=qe (n:=((cr.1.length:Nat):Int)-1) (by omega) (by omega);have s0:∀b:Bool,qb4 c cr ((b,(0:Int),()),())=some (.inl ((((b&&qf c.2.2.1.1 0 (((cr.1.length:Nat):Int)-1))&&qf c.2.1.1 0 400)&&qf c.1.1 0 100000000000,(1:Int),()),())):=fun b=>by
      unfold qb4;simp only[hw,imp,show decide ((0:Int)<2)=true from rfl,cond_true,show inb (0:Int) 2=true from rfl];simp only[Bool.cond_self,qc];rfl
    have s1:∀b:Bool,qb4 c cr ((b,(1:Int),()),())=some (.inl ((((b&&qf c.2.2.1.2.1 0 (((cr.1.length:Nat):Int)-1))&&qf c.2.1.2.1 0 400)&&qf c.1.2.1 0 100000000000,(2:Int),()),())):=fun b=>by
      unfold qb4;simp only[hw,imp,show decide ((1:Int)<2)=true from rfl,cond_true,show inb (1:Int) 2=true from rfl];simp only[Bool.cond_self,qc];rfl
    have s2:∀b:Bool,qb4 c cr ((b,(2:Int),()),())=some (.inr ((b,()),())):=fun b=>rfl;rw[ql (s0 _),ql (s1 _),qh (s2 _),Option.bind_some];show(bif !vcB cr c then some (4:Int) else some 0)=_
    cases vcB cr c<;>rfl
  · rw[bne_t c0,cond_true,if_neg c0]
theorem qvQ (cr:CRule) (c:Clk) (now:Int) (h1 : -1000000000≤now-c.2.2.2.2.1) (h2:now-c.2.2.2.2.1≤1000000000) (hd:0≤cr.2.2.1∧cr.2.2.1≤100000000):qw cr c now=bif c.2.2.2.2.2.1 then 0 else max 0 (now-c.2.2.2.2.1-cr.2.2.1):=by
  unfold qw;rw[qe (n:=now-c.2.2.2.2.1) (by omega) (by omega),qe (by omega) (by omega)];cases c.2.2.2.2.2.1
  · simp only[cond_false]
    split<;>omega
  · rfl
def leftT (c:Clk):Int:=if c.2.2.2.1=0 then c.1.1 else c.1.2.1
theorem look_some (cr:CRule) (c:Clk) (now:Int) (hl:cr.1.length≤9223372036854775807):∃c' e,qaX cr c now=some (c',e,())∧(e=0∨c'.2.2.2.2.2.2.1=0):=by
  unfold qaX;rw[qhc cr c hl,Option.bind_some];by_cases c0:chkC cr=0
  · rw[if_pos c0];by_cases cv:vcB cr c=true
    · rw[if_pos cv,show((0:Int)!=0)=false from rfl,cond_false];have hv:=(qs8 cr c).1 cv
      cases (!(qf now c.2.2.2.2.1 100000000)) with
      | true=>exact⟨_,_,rfl,.inr rfl⟩
      | false =>
        rw[cond_false];have hi:inb c.2.2.2.1 2=true:=inb_iff.2 ⟨hv.turn.1,by have:=hv.turn.2;omega⟩
        rw[hi,show imp (decide (c.2.2.2.2.2.2.1<0)) true=true by unfold imp;cases decide (c.2.2.2.2.2.2.1<0)<;>rfl,qc,qc]
        cases (decide (c.2.2.2.2.2.2.1<0)&&decide (qw cr c now>getD' [c.1.1,c.1.2.1] (c.2.2.2.1).toNat 0)) with
        | true=>exact⟨_,_,rfl,.inl rfl⟩
        | false=>exact⟨_,_,rfl,.inl rfl⟩
    · rw[if_neg cv];exact⟨_,_,rfl,.inr rfl⟩
  · rw[if_neg c0,bne_t c0,cond_true];exact⟨_,_,rfl,.inr rfl⟩
structure GoodC (cr:CRule) (c:Clk) (now:Int):Prop where
  ok:chkC cr=0
  v:VC cr c
  now0:c.2.2.2.2.1≤now
  now1:now≤100000000
  up:c.2.2.2.2.2.2.1 = -1
  run:c.2.2.2.2.2.1=false
  used:max 0 (now-c.2.2.2.2.1-cr.2.2.1)≤leftT c
theorem left_eq {cr:CRule} {c:Clk} (hv:VC cr c):getD' [c.1.1,c.1.2.1] (c.2.2.2.1).toNat 0=leftT c:=by
  have h:=hv.turn;unfold leftT;by_cases h0:c.2.2.2.1=0
  · rw[if_pos h0,h0];rfl
  · rw[if_neg h0,show c.2.2.2.1=1 by omega];rfl
theorem qtZ {cr:CRule} {c:Clk} {now:Int} (hl:cr.1.length≤9223372036854775807) (h:GoodC cr c now):qaX cr c now=some (c,0,()):=by
  unfold qaX;have hcr:=qlp h.ok;have hs:=h.v.since;have h0:=h.now0;have h1:=h.now1;rw[qhc cr c hl,Option.bind_some,if_pos h.ok,if_pos ((qs8 cr c).2 h.v),show((0:Int)!=0)=false from rfl,cond_false,(qdC now _ _).2 ⟨h0,h1⟩,Bool.not_true,cond_false];have hi:inb c.2.2.2.1 2=true:=inb_iff.2 ⟨h.v.turn.1,by have:=h.v.turn.2;omega⟩
  rw[hi,show imp (decide (c.2.2.2.2.2.2.1<0)) true=true by unfold imp;cases decide (c.2.2.2.2.2.2.1<0)<;>rfl,qc,qc,left_eq h.v,qvQ cr c now (by omega) (by omega) hcr.del,h.run,cond_false]
  have hu:=h.used;rw[show decide (max 0 (now-c.2.2.2.2.1-cr.2.2.1)>leftT c)=false by rw[decide_eq_false_iff_not];omega,Bool.and_false,cond_false,Option.bind_some]
theorem good_of {cr:CRule} {c c':Clk} {now e:Int} (hl:cr.1.length≤9223372036854775807) (h:qaX cr c now=some (c',e,())) (hf:c'.2.2.2.2.2.2.1<0) (hr:c.2.2.2.2.2.1=false):GoodC cr c now:=by
  unfold qaX at h;rw[qhc cr c hl,Option.bind_some] at h;by_cases c0:chkC cr=0
  · rw[if_pos c0] at h;by_cases cv:vcB cr c=true
    · rw[if_pos cv,show((0:Int)!=0)=false from rfl,cond_false] at h;have hv:=(qs8 cr c).1 cv;have hs:=hv.since;have hcr:=qlp c0
      cases hw:qf now c.2.2.2.2.1 100000000 with
      | false =>
        rw[hw,Bool.not_false,cond_true] at h;cases h;exact absurd hf (by decide)
      | true =>
        obtain⟨w0,w1⟩:=(qdC _ _ _).1 hw;rw[hw,Bool.not_true,cond_false] at h;have hi:inb c.2.2.2.1 2=true:=inb_iff.2 ⟨hv.turn.1,by have:=hv.turn.2;omega⟩
        rw[hi,show imp (decide (c.2.2.2.2.2.2.1<0)) true=true by unfold imp;cases decide (c.2.2.2.2.2.2.1<0)<;>rfl,qc,qc,left_eq hv,qvQ cr c now (by omega) (by omega) hcr.del,hr,cond_false] at h
        by_cases hc:c.2.2.2.2.2.2.1<0
        · by_cases hu:max 0 (now-c.2.2.2.2.1-cr.2.2.1)>leftT c
          · rw[decide_eq_true hc,decide_eq_true hu,Bool.and_self,cond_true,Option.bind_some] at h;cases h;have:c.2.2.2.1<0:=hf;have:=hv.turn.1;omega
          · exact⟨c0,hv,w0,w1,by have:=hv.fallen.1;omega,hr,by omega⟩
        · rw[decide_eq_false hc,Bool.false_and,cond_false,Option.bind_some] at h;cases h;exact absurd hf hc
    · rw[if_neg cv] at h;cases h;exact absurd hf (by decide)
  · rw[if_neg c0,bne_t c0,cond_true] at h;cases h;exact absurd hf (by decide)
theorem qyN {cr:CRule} {c:Clk} {now:Int} (hl:cr.1.length≤9223372036854775807) (h:GoodC cr c now):qjC cr c now false=some (c,0,()):=by
  unfold qjC;rw[qtZ hl h,Option.bind_some];simp only[show((0:Int)!=0)=false from rfl,cond_false,h.up,show decide ((-1:Int)≥0)=false from rfl,h.run,show(!(false==false))=false from rfl]
def perAt (cr:CRule) (k:Int):Int×Int×Unit:=cr.1.getD k.toNat dPer
def qgl (cr:CRule) (c:Clk) (now:Int):Clk :=
  if c.2.2.2.1=0 then
    let L:=min 100000000000 (c.1.1-max 0 (now-c.2.2.2.2.1-cr.2.2.1)+cr.2.1)
    let M:=min 400 (c.2.1.1+1)
    if 0<(perAt cr c.2.2.1.1).1∧(perAt cr c.2.2.1.1).1≤M then((min 100000000000 (L+(perAt cr (c.2.2.1.1+1)).2.1),(c.1.2.1,())),((0,(c.2.1.2.1,())),((c.2.2.1.1+1,(c.2.2.1.2.1,())),(1,(now,(false,(-1,())))))))
    else((L,(c.1.2.1,())),((M,(c.2.1.2.1,())),((c.2.2.1.1,(c.2.2.1.2.1,())),(1,(now,(false,(-1,())))))))
  else
    let L:=min 100000000000 (c.1.2.1-max 0 (now-c.2.2.2.2.1-cr.2.2.1)+cr.2.1)
    let M:=min 400 (c.2.1.2.1+1)
    if 0<(perAt cr c.2.2.1.2.1).1∧(perAt cr c.2.2.1.2.1).1≤M then((c.1.1,(min 100000000000 (L+(perAt cr (c.2.2.1.2.1+1)).2.1),())),((c.2.1.1,(0,())),((c.2.2.1.1,(c.2.2.1.2.1+1,())),(0,(now,(false,(-1,())))))))
    else((c.1.1,(L,())),((c.2.1.1,(M,())),((c.2.2.1.1,(c.2.2.1.2.1,())),(0,(now,(false,(-1,())))))))
theorem qko {cr:CRule} (hcr:CROK cr) {k:Int} (h0:0≤k) (h1:k≤((cr.1.length:Nat):Int)-1):at? cr.1 k=some (perAt cr k)∧(0≤(perAt cr k).1∧(perAt cr k).1≤400)∧(1≤(perAt cr k).2.1∧(perAt cr k).2.1≤100000000)∧(0<(perAt cr k).1→k+1≤((cr.1.length:Nat):Int)-1):=by
  obtain⟨n,rfl⟩:∃n:Nat,k=(n:Int):=⟨k.toNat,by omega⟩
  have hn:n<cr.1.length:=by omega
  have e:perAt cr (n:Int)=cr.1[n]:=by unfold perAt;rw[Int.toNat_natCast,qte cr.1 n dPer hn]
  rw[qtf cr.1 n hn,e];obtain⟨p1,p2,p3⟩:=hcr.per n hn;refine⟨rfl,p1,p2,fun h=>?_⟩
  have:¬(n+1=cr.1.length):=fun q=>by rw[p3.2 q] at h;omega
  omega
theorem min_if (a b:Int):(if a<b then a else b)=min a b:=by omega
theorem left_nn {cr:CRule} {c:Clk} (hv:VC cr c):0≤leftT c:=by
  unfold leftT;have h0:=hv.l0;have h1:=hv.l1
  split<;>omega
theorem qr8 {cr:CRule} {c:Clk} {now:Int} (hl:cr.1.length≤9223372036854775807) (h:GoodC cr c now):qjE cr c now=some (qgl cr c now,0,())∧GoodC cr (qgl cr c now) now∧(qgl cr c now).2.2.2.1=1-c.2.2.2.1∧(qgl cr c now).2.2.2.2.1=now:=by
  have hcr:=qlp h.ok;have hv:=h.v;have hs:=hv.since;have n0:=h.now0;have n1:=h.now1;have hi:=hcr.inc;have hd:=hcr.del;have hu:=h.used;have hlen:=hcr.len;have f1:GoodC cr (qgl cr c now) now∧(qgl cr c now).2.2.2.1=1-c.2.2.2.1∧(qgl cr c now).2.2.2.2.1=now:=by
    have ht:=hv.turn;have a0:=hv.l0;have a1:=hv.l1;have b0:=hv.m0;have b1:=hv.m1;have c0:=hv.p0;have c1:=hv.p1;unfold leftT at hu;unfold qgl;by_cases t0:c.2.2.2.1=0
    · rw[if_pos t0] at hu ⊢;obtain⟨_,q1,q2,q3⟩:=qko hcr hv.p0.1 hv.p0.2;by_cases hm:0<(perAt cr c.2.2.1.1).1∧(perAt cr c.2.2.1.1).1≤min 400 (c.2.1.1+1)
      · rw[if_pos hm];have hq:=q3 hm.1;obtain⟨_,r1,r2,r3⟩:=qko hcr (k:=c.2.2.1.1+1) (by omega) (by omega);refine⟨⟨h.ok,⟨?_,?_,?_,?_,?_,?_,?_,?_,?_⟩,?_,n1,rfl,rfl,?_⟩,?_,rfl⟩
        all_goals try (unfold leftT)
        all_goals simp only
        all_goals omega
      · rw[if_neg hm];refine⟨⟨h.ok,⟨?_,?_,?_,?_,?_,?_,?_,?_,?_⟩,?_,n1,rfl,rfl,?_⟩,?_,rfl⟩
        all_goals try (unfold leftT)
        all_goals simp only
        all_goals omega
    · rw[if_neg t0] at hu ⊢;obtain⟨_,q1,q2,q3⟩:=qko hcr hv.p1.1 hv.p1.2;by_cases hm:0<(perAt cr c.2.2.1.2.1).1∧(perAt cr c.2.2.1.2.1).1≤min 400 (c.2.1.2.1+1)
      · rw[if_pos hm];have hq:=q3 hm.1;obtain⟨_,r1,r2,r3⟩:=qko hcr (k:=c.2.2.1.2.1+1) (by omega) (by omega);refine⟨⟨h.ok,⟨?_,?_,?_,?_,?_,?_,?_,?_,?_⟩,?_,n1,rfl,rfl,?_⟩,?_,rfl⟩
        all_goals try (unfold leftT)
        all_goals simp only
        all_goals omega
      · rw[if_neg hm];refine⟨⟨h.ok,⟨?_,?_,?_,?_,?_,?_,?_,?_,?_⟩,?_,n1,rfl,rfl,?_⟩,?_,rfl⟩
        all_goals try (unfold leftT)
        all_goals simp only
        all_goals omega
  refine⟨?_,f1⟩;unfold qjE;rw[qyN hl h,Option.bind_some];simp only[show((0:Int)!=0)=false from rfl,cond_false,qvQ cr c now (by omega) (by omega) hd,h.run];obtain⟨⟨l0,l1,u1⟩,⟨m0,m1,u2⟩,⟨p0,p1,u3⟩,turn,since,stopped,fallen,u4⟩:=c;have ht:=hv.turn;have a0:=hv.l0;have a1:=hv.l1;have b0:=hv.m0;have b1:=hv.m1;have c0:=hv.p0;have c1:=hv.p1;have hup:=h.up;have hrun:=h.run;unfold leftT at hu;simp only at ht a0 a1 b0 b1 c0 c1 hup hrun hs n0 hu;by_cases t0:turn=0
  · subst t0;rw[if_pos rfl] at hu;obtain⟨q0,q1,q2,q3⟩:=qko hcr c0.1 c0.2
    have e1:w64 (w64 (l0-max 0 (now-since-cr.2.2.1))+cr.2.1)=l0-max 0 (now-since-cr.2.2.1)+cr.2.1:=by rw[qe (n:=l0-max 0 (now-since-cr.2.2.1)) (by omega) (by omega),qe (by omega) (by omega)]
    have e2:w64 (m0+1)=m0+1:=qe (by omega) (by omega);have e3:w64 (p0+1)=p0+1:=qe (by omega) (by omega);have g0:∀a b:Int,getD' [a,b] (0:Int).toNat 0=a:=fun a b=>rfl;have i0:inb (0:Int) 2=true:=rfl;have b00:((0:Int)==0)=true:=rfl;have b01:((0:Int)==1)=false:=rfl
    have him:∀b:Bool,imp b true=true:=fun b=>by cases b<;>rfl
    simp only[g0,i0,b00,b01,cond_true,cond_false,qc,q0,Option.bind_some,e1,e2,e3,min_if,him];unfold qgl;simp only[if_true];by_cases hm:0<(perAt cr p0).1∧(perAt cr p0).1≤min 400 (m0+1)
    · have hq:=q3 hm.1;obtain⟨r0,r1,r2,r3⟩:=qko hcr (k:=p0+1) (by omega) (by omega)
      have hb:(decide ((perAt cr p0).1>0)&&decide (min 400 (m0+1)≥(perAt cr p0).1))=true:=by simp only[Bool.and_eq_true,decide_eq_true_eq];omega
      have e4:w64 (min 100000000000 (l0-max 0 (now-since-cr.2.2.1)+cr.2.1)+(perAt cr (p0+1)).2.1)=min 100000000000 (l0-max 0 (now-since-cr.2.2.1)+cr.2.1)+(perAt cr (p0+1)).2.1:=qe (by omega) (by omega);rw[if_pos hm];simp only[hb,cond_true,r0,Option.bind_some,e4];subst hup hrun;rfl
    · have hb:(decide ((perAt cr p0).1>0)&&decide (min 400 (m0+1)≥(perAt cr p0).1))=false:=by
        rw[Bool.eq_false_iff];intro q;simp only[Bool.and_eq_true,decide_eq_true_eq] at q;omega
      rw[if_neg hm];simp only[hb,cond_false,Option.bind_some];subst hup hrun;rfl
  · obtain rfl:turn=1:=by omega
    rw[if_neg t0] at hu;obtain⟨q0,q1,q2,q3⟩:=qko hcr c1.1 c1.2
    have e1:w64 (w64 (l1-max 0 (now-since-cr.2.2.1))+cr.2.1)=l1-max 0 (now-since-cr.2.2.1)+cr.2.1:=by rw[qe (n:=l1-max 0 (now-since-cr.2.2.1)) (by omega) (by omega),qe (by omega) (by omega)]
    have e2:w64 (m1+1)=m1+1:=qe (by omega) (by omega);have e3:w64 (p1+1)=p1+1:=qe (by omega) (by omega);have g0:∀a b:Int,getD' [a,b] (1:Int).toNat 0=b:=fun a b=>rfl;have i0:inb (1:Int) 2=true:=rfl;have b00:((1:Int)==0)=false:=rfl;have b01:((1:Int)==1)=true:=rfl
    have him:∀b:Bool,imp b true=true:=fun b=>by cases b<;>rfl
    simp only[g0,i0,b00,b01,cond_true,cond_false,qc,q0,Option.bind_some,e1,e2,e3,min_if,him];unfold qgl;simp only[show((1:Int)=0)=False from by simp,if_false];by_cases hm:0<(perAt cr p1).1∧(perAt cr p1).1≤min 400 (m1+1)
    · have hq:=q3 hm.1;obtain⟨r0,r1,r2,r3⟩:=qko hcr (k:=p1+1) (by omega) (by omega)
      have hb:(decide ((perAt cr p1).1>0)&&decide (min 400 (m1+1)≥(perAt cr p1).1))=true:=by simp only[Bool.and_eq_true,decide_eq_true_eq];omega
      have e4:w64 (min 100000000000 (l1-max 0 (now-since-cr.2.2.1)+cr.2.1)+(perAt cr (p1+1)).2.1)=min 100000000000 (l1-max 0 (now-since-cr.2.2.1)+cr.2.1)+(perAt cr (p1+1)).2.1:=qe (by omega) (by omega);rw[if_pos hm];simp only[hb,cond_true,r0,Option.bind_some,e4];subst hup hrun;rfl
    · have hb:(decide ((perAt cr p1).1>0)&&decide (min 400 (m1+1)≥(perAt cr p1).1))=false:=by
        rw[Bool.eq_false_iff];intro q;simp only[Bool.and_eq_true,decide_eq_true_eq] at q;omega
      rw[if_neg hm];simp only[hb,cond_false,Option.bind_some];subst hup hrun;rfl

abbrev Offs:=(Int×Int×Unit)×((Int×Int×Unit)×(Int×Int×Unit)×Unit)×Unit
def offL (p:Int×Int×Unit):Bool:=(decide (p.1 < -1)||decide (p.1>400))||(decide (p.2.1 < -1)||decide (p.2.1>400))
theorem ocheckL2 (p:Int×Int×Unit):iterW (qb6 ((p,(0:Int),()),())) (((0:Int),()),())=some (bif offL p then .inr (.inr (.inr (.inr 4))) else .inl ((),())):=by
  have s0:qb6 ((p,(0:Int),()),()) (((0:Int),()),())=bif (decide (p.1 < -1)||decide (p.1>400)) then some (.inr (.inr (.inr (.inr (.inr 4))))) else some (.inl (((1:Int),()),())):=rfl;have s1:qb6 ((p,(0:Int),()),()) (((1:Int),()),())=bif (decide (p.2.1 < -1)||decide (p.2.1>400)) then some (.inr (.inr (.inr (.inr (.inr 4))))) else some (.inl (((2:Int),()),())):=rfl;have s2:qb6 ((p,(0:Int),()),()) (((2:Int),()),())=some (.inr (.inl ((),()))):=rfl;unfold offL;cases h0:(decide (p.1 < -1)||decide (p.1>400))
  · rw[h0,cond_false] at s0;rw[ql s0];cases h1:(decide (p.2.1 < -1)||decide (p.2.1>400))
    · rw[h1,cond_false] at s1;rw[ql s1,qh s2];rfl
    · rw[h1,cond_true] at s1;rw[qh s1];rfl
  · rw[h0,cond_true] at s0;rw[qh s0];rfl
def offK (p:Int×Int×Unit) (b:Int):Int:=if offL p=true then 4 else if (decide (b < -1)||decide (b>1))=true then 4 else if b=0∧p.1 = -1∨b=1∧p.2.1 = -1 then 3 else 0
def offE (o:Offs):Int:=if offK o.2.1.1 o.1.1=0 then offK o.2.1.2.1 o.1.2.1 else offK o.2.1.1 o.1.1
theorem him (b:Bool):imp b true=true:=by cases b<;>rfl
theorem qwJ (o:Offs):qjz o=some (offE o):=by
  have step:∀(i:Int) (p:Int×Int×Unit) (b:Int),(i=0∧p=o.2.1.1∧b=o.1.1∨i=1∧p=o.2.1.2.1∧b=o.1.2.1)→qeR o ((i,()),())=some (if offK p b=0 then .inl ((i+1,()),()) else .inr (.inr (offK p b))):=by
    intro i p b h
    have e:qeR o ((i,()),())=(Option.bind (α:=((Unit)×(Unit)) ⊕ (((Int×Unit)×(Unit)) ⊕ (((Unit)×(Unit)) ⊕ Int))) (Option.bind (α:=((Unit)×(Unit)) ⊕ (((Unit)×(Unit)) ⊕ (((Int×Unit)×(Unit)) ⊕ (((Unit)×(Unit)) ⊕ Int)))) (iterW (qb6 ((p,(0:Int),()),())) (((0:Int),()),())) (Sum.elim (fun x4 =>
        bif ((decide (b<(-1:Int)))||(decide (b>(1:Int)))) then some (Sum.inr (Sum.inr (Sum.inr (4:Int))))
        else Option.bind (req (imp (decide (b≥(0:Int))) true) (req (imp (decide (b≥(0:Int))) (inb b 2)) (some ((((decide (b≥(0:Int)))&&((getD' [p.1,p.2.1] (b.toNat) 0)==(-1:Int))),()),())))) fun x5:(Bool×Unit)×Unit =>
        bif x5.1.1 then some (Sum.inr (Sum.inr (Sum.inr (3:Int))))
        else some (Sum.inl ((),()))) some)) (Sum.elim (fun x6=>some (Sum.inl ((w64 (i+(1:Int)),()),()))) some)):=by
      rcases h with ⟨rfl,rfl,rfl⟩ | ⟨rfl,rfl,rfl⟩
      · rfl
      · rfl
    have hi:w64 (i+1)=i+1:=by rcases h with ⟨rfl,_⟩ | ⟨rfl,_⟩<;>rfl
    rw[e,ocheckL2,hi];unfold offK;cases hL:offL p
    · simp only[cond_false,Bool.false_eq_true,if_false,Option.bind_some,Sum.elim_inl];cases hb:(decide (b < -1)||decide (b>1))
      · simp only[cond_false,Bool.false_eq_true,if_false];simp only[Bool.or_eq_false_iff,decide_eq_false_iff_not] at hb;by_cases b0:b = -1
        · subst b0;rfl
        · by_cases b1:b=0
          · subst b1;have hg:getD' [p.1,p.2.1] ((0:Int).toNat) 0=p.1:=rfl;rw[hg];simp only[show decide ((0:Int)≥0)=true from rfl,show inb (0:Int) 2=true from rfl,him,qc,Option.bind_some,Bool.true_and];by_cases q:p.1 = -1
            · rw[beq_t q];simp[q]
            · rw[beq_f q];simp[q]
          · obtain rfl:b=1:=by omega
            have hg:getD' [p.1,p.2.1] ((1:Int).toNat) 0=p.2.1:=rfl;rw[hg];simp only[show decide ((1:Int)≥0)=true from rfl,show inb (1:Int) 2=true from rfl,him,qc,Option.bind_some,Bool.true_and];by_cases q:p.2.1 = -1
            · rw[beq_t q];simp[q]
            · rw[beq_f q];simp[q]
      · rfl
    · rfl
  unfold qjz offE;have s0:=step 0 o.2.1.1 o.1.1 (.inl ⟨rfl,rfl,rfl⟩);have s1:=step 1 o.2.1.2.1 o.1.2.1 (.inr ⟨rfl,rfl,rfl⟩);have s2:qeR o (((2:Int),()),())=some (.inr (.inl ((),()))):=rfl;by_cases c0:offK o.2.1.1 o.1.1=0
  · rw[if_pos c0] at s0 ⊢;rw[ql s0];by_cases c1:offK o.2.1.2.1 o.1.2.1=0
    · rw[if_pos c1] at s1;rw[show(0:Int)+1=1 from rfl,ql s1,show(1:Int)+1=2 from rfl,qh s2,c1];rfl
    · rw[if_neg c1] at s1;rw[show(0:Int)+1=1 from rfl,qh s1];rfl
  · rw[if_neg c0] at s0 ⊢;rw[qh s0];rfl
def offEi (o:Offs) (kind player moves:Int):Int:=if offE o=0 then if (((((kind !=0)&&(kind !=1))||((player !=0)&&(player !=1)))||decide (moves<0))||decide (moves>400))=true then 1 else 0 else offE o
theorem qf9 (o:Offs) (kind player moves:Int):qbN o kind player moves=some (offEi o kind player moves):=by
  unfold qbN offEi;rw[qwJ,Option.bind_some];by_cases c:offE o=0
  · rw[bne_f c,cond_false,if_pos c]
    cases (((((kind !=0)&&(kind !=1))||((player !=0)&&(player !=1)))||decide (moves<0))||decide (moves>400))<;>rfl
  · rw[bne_t c,cond_true,if_neg c]
theorem offEi_0 {o:Offs} {kind player moves:Int} (h:offEi o kind player moves=0):(kind=0∨kind=1)∧(player=0∨player=1)∧0≤moves∧moves≤400:=by
  unfold offEi at h;by_cases c:offE o=0
  · rw[if_pos c] at h;split at h
    · cases h
    · rename_i q;simp only[Bool.or_eq_true,Bool.and_eq_true,bne_iff_ne,ne_eq,decide_eq_true_eq] at q;omega
  · rw[if_neg c] at h;exact absurd h c
theorem qyG (o:Offs) (player:Int):∃o' e,qgE o player=some (o',e,()):=by
  unfold qgE;rw[qf9,Option.bind_some];by_cases c:offEi o 0 player 0=0
  · rw[bne_f c,cond_false]
    cases (o.1.1==w64 (1-player))<;>exact⟨_,_,rfl⟩
  · rw[bne_t c,cond_true];exact⟨_,_,rfl⟩
theorem in2 {k:Int} (h:k=0∨k=1):inb k 2=true:=by rcases h with rfl | rfl<;>rfl
theorem qrC (o:Offs) (kind player moves:Int):∃e,qiA o kind player moves=some e∧(e=0→(kind=0∨kind=1)∧(player=0∨player=1)∧0≤moves∧moves≤400):=by
  unfold qiA;rw[qf9,Option.bind_some];by_cases c:offEi o kind player moves=0
  · have h:=offEi_0 c;rw[bne_f c,cond_false,in2 h.1,qc];cases (getD' [o.1.1,o.1.2.1] kind.toNat 0 !=w64 (1-player))
    · exact⟨0,rfl,fun _=>h⟩
    · exact⟨10,rfl,fun q=>(by cases q)⟩
  · rw[bne_t c,cond_true];exact⟨_,rfl,fun q=>absurd q c⟩
theorem qum (o:Offs) (kind player moves:Int):∃o' e,qdu o kind player moves=some (o',e,())∧(e=0→(kind=0∨kind=1)∧(player=0∨player=1)∧0≤moves∧moves≤400):=by
  unfold qdu;obtain⟨e,he,h⟩:=qrC o kind player moves;rw[he,Option.bind_some];by_cases c:e=0
  · rw[bne_f c,cond_false];exact⟨_,_,rfl,fun _=>h c⟩
  · rw[bne_t c,cond_true];exact⟨_,_,rfl,fun q=>absurd q c⟩
theorem qsZ (o:Offs) (kind player moves:Int):∃o' e,qaL o kind player moves=some (o',e,()):=by
  unfold qaL;obtain⟨e,he,h⟩:=qrC o kind player moves;rw[he,Option.bind_some];by_cases c:e=0
  · rw[bne_f c,cond_false,in2 (h c).1,qc];exact⟨_,_,rfl⟩
  · rw[bne_t c,cond_true];exact⟨_,_,rfl⟩
def qh3 (player moves:Int):Int:=if (if (if 0>moves then 0 else moves).tmod 2=player then(2:Int) else 1)>moves∨player≠0∧player≠1 then 0 else if (if 0>moves then 0 else moves).tmod 2=player then 2 else 1
theorem qry (player moves:Int):qdz player moves=some (qh3 player moves):=by
  unfold qdz qh3 qin;by_cases c:(if (0:Int)>moves then 0 else moves).tmod 2=player
  · rw[beq_t c,cond_true,Option.bind_some,if_pos c];by_cases d:(2:Int)>moves∨player≠0∧player≠1
    · rw[if_pos d,show(decide ((2:Int)>moves)||((player !=0)&&(player !=1)))=true by simpa using d,cond_true]
    · rw[if_neg d,show(decide ((2:Int)>moves)||((player !=0)&&(player !=1)))=false by
        rw[Bool.eq_false_iff];intro q;exact d (by simpa using q),cond_false]
  · rw[beq_f c,cond_false,Option.bind_some,if_neg c];by_cases d:(1:Int)>moves∨player≠0∧player≠1
    · rw[if_pos d,show(decide ((1:Int)>moves)||((player !=0)&&(player !=1)))=true by simpa using d,cond_true]
    · rw[if_neg d,show(decide ((1:Int)>moves)||((player !=0)&&(player !=1)))=false by
        rw[Bool.eq_false_iff];intro q;exact d (by simpa using q),cond_false]
theorem qx5 (o:Offs) (kind player moves:Int):∃o' e,qcI o kind player moves=some (o',e,()):=by
  unfold qcI;rw[qf9,Option.bind_some];by_cases c:offEi o kind player moves=0
  · obtain⟨hk,hp,_,_⟩:=offEi_0 c;have i1:=in2 hk;have i2:=in2 hp;rw[bne_f c,cond_false,i1,qc];cases decide (getD' [o.1.1,o.1.2.1] kind.toNat 0≥0)
    · rw[cond_false,i2];simp only[qc];have:∃b:Bool,(bif (kind==0) then some ((((getD' [o.2.1.1.1,o.2.1.1.2.1] player.toNat 0)==moves,()),()):(Bool×Unit)×Unit) else some ((((getD' [o.2.1.2.1.1,o.2.1.2.1.2.1] player.toNat 0)==moves,()),()):(Bool×Unit)×Unit))=some ((b,()),()):=by
        cases (kind==0)<;>exact⟨_,rfl⟩
      obtain⟨b,hb⟩:=this;rw[hb,Option.bind_some];cases b
      · rw[cond_false];have:∃n,gopt (kind==1) 0 (qdz player moves)=some n:=by
          rw[qry]
          cases (kind==1)<;>exact⟨_,rfl⟩
        obtain⟨n,hn⟩:=this;rw[hn,Option.bind_some];cases ((kind==1)&&(n==0))
        · rw[cond_false]
          cases (kind==0)<;>exact⟨_,_,rfl⟩
        · exact⟨_,_,rfl⟩
      · exact⟨_,_,rfl⟩
    · exact⟨_,_,rfl⟩
  · rw[bne_t c,cond_true];exact⟨_,_,rfl⟩
theorem qyA (o:Offs) (moves:Int):∃o' e,qfd o moves=some (o',e,()):=by
  unfold qfd;rw[qf9,Option.bind_some];by_cases c:offEi o 0 0 moves=0
  · rw[bne_f c,cond_false];have l2:∀(i:Int),(i=0∨i=1)→∀(y:Int×Int×Int×Int×Int×Int×Unit) (x4:((Int×Int×Unit)×Int×Unit)×Unit),∃z,iterW (qeb ((i,()),(y,())) moves x4) (((0:Int),()),(y,()))=some ((),(z,())):=by
      intro i hi y x4;have s:∀(j:Int),(j=0∨j=1)→∀y2,∃y3,qeb ((i,()),(y,())) moves x4 ((j,()),(y2,()))=some (.inl ((j+1,()),(y3,()))):=by
        intro j hj y2
        rcases hi with rfl | rfl<;>rcases hj with rfl | rfl<;>exact⟨_,rfl⟩
      obtain⟨y1,h1⟩:=s 0 (.inl rfl) y;obtain⟨y2,h2⟩:=s 1 (.inr rfl) y1;refine⟨y2,?_⟩;rw[ql h1,show(0:Int)+1=1 from rfl,ql h2,show(1:Int)+1=2 from rfl];exact qh rfl
    have l1:∀(i:Int),(i=0∨i=1)→∀y,∃z,qio moves ((i,()),(y,()))=some (.inl ((i+1,()),(z,()))):=by
      intro i hi y;rcases hi with rfl | rfl
      · obtain⟨z,hz⟩:=l2 0 (.inl rfl) y ((((y.2.2.1,(y.2.2.2.1,())),(0:Int),())),());refine⟨z,?_⟩;show(Option.bind (Option.bind (iterW (qeb (((0:Int),()),(y,())) moves ((((y.2.2.1,(y.2.2.2.1,())),(0:Int),())),())) (((0:Int),()),(y,()))) fun x7=>some ((),(x7.2.1,()))) fun x8=>some (Sum.inl (((w64 ((0:Int)+1)),()),(x8.2.1,()))))=_;rw[hz];rfl
      · obtain⟨z,hz⟩:=l2 1 (.inr rfl) y (((y.2.2.2.2,(0:Int),())),());refine⟨z,?_⟩;show(Option.bind (Option.bind (iterW (qeb (((1:Int),()),(y,())) moves (((y.2.2.2.2,(0:Int),())),())) (((0:Int),()),(y,()))) fun x7=>some ((),(x7.2.1,()))) fun x8=>some (Sum.inl (((w64 ((1:Int)+1)),()),(x8.2.1,()))))=_;rw[hz];rfl
    obtain⟨y1,h1⟩:=l1 0 (.inl rfl) ((-1:Int),((-1:Int),(o.2.1.1.1,(o.2.1.1.2.1,o.2.1.2.1))));obtain⟨y2,h2⟩:=l1 1 (.inr rfl) y1;have h3:qio moves (((2:Int),()),(y2,()))=some (.inr ((),(y2,()))):=rfl;rw[ql h1,show(0:Int)+1=1 from rfl,ql h2,show(1:Int)+1=2 from rfl,qh h3,Option.bind_some];exact⟨_,_,rfl⟩
  · rw[bne_t c,cond_true];exact⟨_,_,rfl⟩

theorem bt_ext {a b:ByteArray} (h:a.data.toList=b.data.toList):a=b:=by
  obtain⟨⟨l⟩⟩:=a;obtain⟨⟨k⟩⟩:=b;simp only at h;rw[h]
theorem qqt (a b:ByteArray):(a++b).data.toList=a.data.toList++b.data.toList:=by simp[ByteArray.data_append]
theorem qk9 (a:ByteArray):a.size=a.data.toList.length:=by
  rw[Array.length_toList];rfl
def oneT (c:UInt8):ByteArray:=ByteArray.mk #[c]
def joinB (c:UInt8) (l:List ByteArray):ByteArray:=⟨(Go.Lib.join (l.map (·.data.toList)) [c]).toArray⟩
theorem quN (c:UInt8):joinB c []=ByteArray.mk #[]:=rfl
theorem quz (c:UInt8) (x:ByteArray):joinB c [x]=x:=bt_ext (by
  show Go.Lib.join [x.data.toList] [c]=_
  exact Go.Lib.join_one _ _)
theorem qrx (c:UInt8) (x y:ByteArray) (l:List ByteArray):joinB c (x::y::l)=(x++oneT c)++joinB c (y::l):=bt_ext (by
  rw[qqt,qqt];show Go.Lib.join (x.data.toList::y.data.toList::l.map (·.data.toList)) [c]=(x.data.toList++[c])++Go.Lib.join (y.data.toList::l.map (·.data.toList)) [c]
  simp[Go.Lib.join,List.intercalate,List.intersperse])
theorem qrX (c:UInt8) (m:Nat):∀l:List ByteArray,(∀x∈l,x.size≤m)→(joinB c l).size≤l.length*(m+1)
  | [],_=>by rw[quN];exact Nat.zero_le _
  | [x],h=>by rw[quz];have:=h x (by simp);simp;omega
  | x::y::l,h=>by
    have ih:=qrX c m (y::l) (fun z hz=>h z (List.mem_cons_of_mem _ hz));have:=h x (by simp);rw[qrx,qk9,qqt,qqt,List.length_append,List.length_append,←qk9,←qk9];have:(oneT c).size=1:=rfl;rw[this,←qk9];simp only[List.length_cons,Nat.add_mul] at ih ⊢;omega
theorem qx4 (c:UInt8) (l:List ByteArray) (h1:l.length≤140737488355328) (h2:(joinB c l).size≤140737488355328):joinS l (ByteArray.mk #[c])=some (joinB c l):=by
  unfold joinS
  have e:(Go.Lib.join (l.map (·.data.toList)) (ByteArray.mk #[c]).data.toList).length=(joinB c l).size:=by rw[qk9];rfl
  rw[e,Nat.ble_eq_true_of_le h1,Nat.ble_eq_true_of_le h2];rfl

theorem qxl {u:Nat} (h:u<10):(UInt8.ofNat (48+u)).toNat=48+u:=by
  rw[UInt8.toNat_ofNat'];omega
theorem dec_mem (u:Nat):∀c∈Go.Lib.decDigits u,48≤c.toNat∧c.toNat≤57:=by
  induction u using Nat.strongRecOn with
  | _ u ih =>
    intro c hc;rw[Go.Lib.decDigits] at hc;split at hc
    · rename_i h;rw[List.mem_singleton.1 hc,qxl h];omega
    · rename_i h;rcases List.mem_append.1 hc with hc | hc
      · exact ih (u / 10) (by omega) c hc
      · rw[List.mem_singleton.1 hc,qxl (by omega)];omega
def I64 (n:Int):Prop := -9223372036854775808≤n∧n≤9223372036854775807
def numS (n:Int):ByteArray:=⟨(Go.Lib.itoa n).toArray⟩
theorem qxK {n:Int} (h:I64 n):itoaS n=some (numS n):=by
  unfold itoaS;rw[decide_eq_true h.1,decide_eq_true h.2];rfl
theorem qw9 (n:Int):(numS n).data.toList=Go.Lib.itoa n:=by unfold numS;simp
theorem num_mem (n:Int):∀c∈(numS n).data.toList,c.toNat=45∨48≤c.toNat∧c.toNat≤57:=by
  rw[qw9];intro c hc;unfold Go.Lib.itoa at hc;split at hc
  · rcases List.mem_cons.1 hc with rfl | hc
    · exact .inl rfl
    · exact .inr (dec_mem _ c hc)
  · exact .inr (dec_mem _ c hc)
theorem qwN {n:Int} (h:I64 n):(numS n).size≤21:=by
  rw[qk9,qw9];exact Go.Lib.itoa_length_le n h.1 h.2
def OKT (s:ByteArray):Prop:=s.size≤200∧∀c∈s.data.toList,32≤c.toNat∧c.toNat≤126
theorem qw4 {s:ByteArray} (h:OKT s):qao s=0:=by
  unfold qao;rw[if_neg (by have:=h.1;omega)];have:∀(f pos:Nat),Go.Lib.idxFuncFrom qiX true s f pos = -1:=by
    intro f
    induction f with
    | zero=>intro pos;rfl
    | succ f ih =>
      intro pos;unfold Go.Lib.idxFuncFrom;by_cases hp:pos<s.size
      · have hm:=h.2 s[pos] (by
          rw[List.mem_iff_getElem]
          exact⟨pos,by rw[←qk9];exact hp,rfl⟩)
        have hd:=decode_ascii s pos hp (by omega);rw[if_pos hp,hd,ih];have:qiX (s[pos]'hp).toNat=false:=by
          unfold qiX;simp only[Bool.or_eq_false_iff,decide_eq_false_iff_not];omega
        rw[this];rfl
      · rw[if_neg hp]
  unfold Go.Lib.idxFunc;rw[this];rfl
abbrev Ev:=Int×Int×Int×Int×Mv×Unit
structure EvR (e:Ev):Prop where
  kind:I64 e.1
  player:I64 e.2.1
  n:I64 e.2.2.1
  now:I64 e.2.2.2.1
  a:I64 e.2.2.2.2.1.1
  b:I64 e.2.2.2.2.1.2.1
  c:I64 e.2.2.2.2.1.2.2.1
def evL (e:Ev):List Int:=[e.1,e.2.1,e.2.2.1,e.2.2.2.1,e.2.2.2.2.1.1,e.2.2.2.2.1.2.1,e.2.2.2.2.1.2.2.1]
theorem EvR.all {e:Ev} (h:EvR e):∀n∈evL e,I64 n:=by
  intro n hn;simp only[evL,List.mem_cons,List.not_mem_nil,or_false] at hn;rcases hn with rfl | rfl | rfl | rfl | rfl | rfl | rfl
  · exact h.kind
  · exact h.player
  · exact h.n
  · exact h.now
  · exact h.a
  · exact h.b
  · exact h.c
def qiT (e:Ev):ByteArray:=joinB 32 ((evL e).map numS)
theorem qln (e:Ev) (h:EvR e):((evL e).map numS).length=7∧∀x∈(evL e).map numS,x.size≤21:=by
  refine⟨rfl,fun x hx=>?_⟩;obtain⟨n,hn,rfl⟩:=List.mem_map.1 hx;exact qwN (h.all n hn)
theorem qrL (e:Ev) (h:EvR e):(qiT e).size≤154:=by
  have:=qrX 32 21 ((evL e).map numS) (qln e h).2;rw[(qln e h).1] at this;exact this
theorem qya (e:Ev) (h:EvR e):qjP e=some (qiT e):=by
  unfold qjP;have step:∀(i:Nat) (hi:i<7) (l:List ByteArray),l.length≤7→qc5 e ((l,(i:Int),()),())=some (.inl ((l++[numS ((evL e)[i]'hi)],((i+1:Nat):Int),()),())):=by
    intro i hi l hl;unfold qc5;have hg:getD' [e.1,e.2.1,e.2.2.1,e.2.2.2.1,e.2.2.2.2.1.1,e.2.2.2.2.1.2.1,e.2.2.2.2.1.2.2.1] ((i:Int)).toNat (0:Int)=(evL e)[i]'hi:=by
      rw[Int.toNat_natCast];show getD' (evL e) i 0=_;rw[gd_eq (evL e) i hi]
    have hn:I64 ((evL e)[i]'hi):=h.all _ (List.getElem_mem (l:=evL e) hi);simp only[show decide ((i:Int)<7)=true by simp;omega,cond_true];rw[show inb (i:Int) 7=true from inb_iff.2 ⟨by omega,by omega⟩,qc,hg,qxK hn,Option.bind_some,qI (by simp only[List.length_cons,List.length_nil];omega),qc,qe (by omega) (by omega)];rfl
  have all:∀(k i:Nat),i+k=7→iterW (qc5 e) ((((evL e).take i).map numS,(i:Int),()),())=some (((evL e).map numS,()),()):=by
    intro k
    induction k with
    | zero =>
      intro i hi
      have:i=7:=by omega
      subst this;refine qh ?_;rw[List.take_of_length_le (by exact Nat.le_refl _)];rfl
    | succ k ih =>
      intro i hi
      have hi7:i<7:=by omega
      rw[ql (step i hi7 _ (by rw[List.length_map,List.length_take];show min i 7≤7;omega))];have:=ih (i+1) (by omega);rw[List.take_succ_eq_append_getElem (show i<(evL e).length from hi7),List.map_append] at this;exact this
  have h0:=all 7 0 (by omega);rw[List.take_zero] at h0;have h0':iterW (qc5 e) ((([]:List ByteArray),(0:Int),()),())=_:=h0;rw[h0',Option.bind_some];have hsz:=qrL e h;have hj:=qx4 32 ((evL e).map numS) (by rw[(qln e h).1];omega) (by unfold qiT at hsz;omega);have hj':joinS ((((evL e).map numS,()),()):(List ByteArray×Unit)×Unit).1.1 (ByteArray.mk #[32])=some (qiT e):=hj;rw[hj'];rfl
theorem qxb (c d:UInt8):∀l:List ByteArray,d∈(joinB c l).data.toList→d=c∨∃x∈l,d∈x.data.toList
  | [],h=>by rw[quN] at h;cases h
  | [x],h=>by rw[quz] at h;exact .inr ⟨x,by simp,h⟩
  | x::y::l,h=>by
    rw[qrx,qqt,qqt] at h;rcases List.mem_append.1 h with h | h
    · rcases List.mem_append.1 h with h | h
      · exact .inr ⟨x,by simp,h⟩
      · exact .inl (List.mem_singleton.1 h)
    · rcases qxb c d (y::l) h with h | ⟨z,hz,h⟩
      · exact .inl h
      · exact .inr ⟨z,List.mem_cons_of_mem _ hz,h⟩
theorem entry_ok (e:Ev) (h:EvR e):OKT (qiT e):=by
  refine⟨by have:=qrL e h;omega,fun c hc=>?_⟩;rcases qxb 32 c _ hc with rfl | ⟨x,hx,hc⟩
  · decide
  · obtain⟨n,_,rfl⟩:=List.mem_map.1 hx;have:=num_mem n c hc;omega
abbrev Jn:=List (ByteArray×Int×Unit)
noncomputable def sumJ (b:Int) (s:ByteArray):Int:=(qdD b s).getD 0
theorem qxf (b:Int) (s:ByteArray) (hs:s.size≤1000000):qdD b s=some (sumJ b s):=by
  have:∃v,qdD b s=some v:=by
    unfold qdD;have key:∀(k i:Nat) (h:Int),i+k=s.size→∃h',iterW (qbZ s) ((h,(i:Int),()),())=some ((h',()),()):=by
      intro k
      induction k with
      | zero =>
        intro i h hi
        have:i=s.size:=by omega
        subst this;refine⟨h,qh ?_⟩;unfold qbZ;simp
      | succ k ih =>
        intro i h hi;obtain⟨c,hc⟩:∃c,strAt s (i:Int)=some c:=by
          have hi2:i<s.size:=by omega
          refine⟨s[i],?_⟩;unfold strAt;rw[show decide ((0:Int)≤(i:Int))=true by simp,cond_true,Int.toNat_natCast];simp[hi2]
        have e:qbZ s ((h,(i:Int),()),())=some (.inl ((wu64 ((ixor .u64 h (wu64 ((c.toNat:Nat):Int)))*1099511628211),((i+1:Nat):Int),()),())):=by
          unfold qbZ;simp only[show decide ((i:Int)<((s.size:Nat):Int))=true by simp;omega,cond_true];rw[hc,Option.bind_some,qe (by omega) (by omega)];rfl
        rw[ql e];exact ih (i+1) _ (by omega)
    obtain⟨h',hh⟩:=key s.size 0 (ixor .u64 b 14695981039346656037) (by omega);have hh':iterW (qbZ s) (((ixor .u64 b 14695981039346656037),(0:Int),()),())=_:=hh;rw[hh',Option.bind_some];exact⟨_,rfl⟩
  obtain⟨v,hv⟩:=this;unfold sumJ;rw[hv];rfl
def lastJ (l:Jn):Int:=match l.getLast? with
  | some x=>x.2.1
  | none=>0
theorem qru (l:Jn) (hl:l.length≤1000000):qdE l=some (lastJ l):=by
  unfold qdE lastJ;by_cases h:l=[]
  · subst h;rfl
  · have h0:0<l.length:=List.length_pos_iff.2 h;rw[beq_f (by omega),cond_false,qe (by omega) (by omega),show((l.length:Nat):Int)-1=((l.length-1:Nat):Int) by omega,qtf l _ (by omega),Option.bind_some,List.getLast?_eq_getElem?,List.getElem?_eq_getElem (by omega)]
def JOK (l:Jn):Prop:=l.length≤1000∧∀i (hi:i<l.length),OKT l[i].1∧l[i].2.1=sumJ (lastJ (l.take i)) l[i].1
theorem good_ok {l:Jn} (h:JOK l):qho l=some ((l.length:Nat):Int):=by
  unfold qho;have hlen:=h.1;have step:∀i (hi:i<l.length),qbo l (((i:Int),()),())=some (.inl ((((i+1:Nat):Int),()),())):=by
    intro i hi;obtain⟨h1,h2⟩:=h.2 i hi;unfold qbo;have hne:((i:Int)==1000)=false:=beq_f (by omega);simp only[ltd l i hi,cond_true];rw[qtf l i hi,Option.bind_some];have hb:qo 0 (i:Int) l.length=true:=by
      simp only[qo,Bool.and_eq_true,decide_eq_true_eq];omega
    simp only[hne,Bool.not_false,imp,cond_true,hb,qc,gopt,Int.toNat_natCast,List.drop_zero];rw[qru _ (by rw[List.length_take];omega),Option.bind_some];have hw:qd0 (lastJ (l.take i)) l[i]=some 0:=by
      unfold qd0;rw[qw4 h1,show((0:Int)!=0)=false from rfl,cond_false,qxf _ _ (by have:=h1.1;omega),Option.bind_some,h2,bne_f rfl,cond_false]
    rw[hw,Option.bind_some,qe (by omega) (by omega)];rfl
  have key:∀(k i:Nat),i+k=l.length→iterW (qbo l) (((i:Int),()),())=some (.inl ((),())):=by
    intro k
    induction k with
    | zero =>
      intro i hi
      have:i=l.length:=by omega
      subst this;refine qh ?_;unfold qbo;simp
    | succ k ih =>
      intro i hi;rw[ql (step i (by omega))];exact ih (i+1) (by omega)
  have h0:=key l.length 0 (by omega);have h0':iterW (qbo l) (((0:Int),()),())=_:=h0;rw[h0',Option.bind_some,Sum.elim_inl]
theorem check_okJ {l:Jn} (h:JOK l):qfM l=some 0:=by
  unfold qfM;have:=h.1;rw[show decide (((l.length:Nat):Int)>1000)=false by rw[decide_eq_false_iff_not];omega,cond_false,good_ok h,Option.bind_some,show decide (((l.length:Nat):Int)<((l.length:Nat):Int))=false by simp,cond_false]
theorem cloneJ (s:Jn) (h:s.length≤1000000):qaj s=some s:=by
  unfold qaj;have:room (([]:Jn).length+s.length) 24=true:=qI (by simp;omega);rw[this]
  cases s with
  | nil=>simp[qc,agree_self]
  | cons a l=>simp[qc]
noncomputable def nextJ (l:Jn) (s:ByteArray):Jn:=l++[(s,(sumJ (lastJ l) s,()))]
theorem qr1 {l:Jn} (h:JOK l) (hl:l.length<1000) {s:ByteArray} (hs:OKT s):qa5 l s=some (nextJ l s,(0,()))∧JOK (nextJ l s):=by
  have hlen:=h.1;constructor
  · unfold qa5;rw[check_okJ h,Option.bind_some,show((0:Int)!=0)=false from rfl,cond_false,qw4 hs,show((0:Int)!=0)=false from rfl,cond_false,beq_f (by omega),cond_false,cloneJ l (by omega),Option.bind_some,qru l (by omega),Option.bind_some,qxf _ _ (by have:=hs.1;omega),Option.bind_some,qI (by simp only[List.length_cons,List.length_nil];omega),qc];rfl
  · refine⟨by unfold nextJ;rw[List.length_append,List.length_singleton];omega,fun i hi=>?_⟩;unfold nextJ at hi ⊢;rw[List.length_append,List.length_singleton] at hi;by_cases c:i<l.length
    · rw[List.getElem_append_left c,List.take_append_of_le_length (by omega)];exact h.2 i c
    · have:i=l.length:=by omega
      subst this;rw[List.getElem_append_right (by omega),List.take_left']
      · simp only[Nat.sub_self,List.getElem_cons_zero];exact⟨hs,trivial⟩
      · rfl
end Go.Proofs.YtijkabgijfdpfaaGreatDoor
