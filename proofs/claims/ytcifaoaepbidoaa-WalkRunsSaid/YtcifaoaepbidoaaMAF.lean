/- Several texts in one: CoreR, CoreS2, CoreA, CoreB, Search, SearchP, CoreK, CoreT, WalkA, WalkB, WalkC, WalkD, WalkE, WalkF, WalkG, WalkH, WalkI, SearchR, WalkJ, WalkRunsL. -/
import Derived.Test.YtcifaoaepbidoaaMAE
import Derived.Test.YtcifaoaepbidoaaMAD
namespace Go.Proofs.Ytcifaoaepbidoaa
open Go.Den
set_option linter.unusedVariables false
set_option linter.unusedSimpArgs false
set_option maxRecDepth 100000

def own (r:Rules) (p:Place) (pl x y:Int):Bool:=onB r x y&&(decide (cellI p (sq r x y)>0)&&((cellI p (sq r x y)-1).tmod 2==pl))
def runB (r:Rules) (p:Place) (pl:Int) (n:Nat) (x y dx dy:Int):Bool:=(List.range n).all fun i=>own r p pl (x+(i:Int)*dx) (y+(i:Int)*dy)
theorem runB_cons (r:Rules) (p:Place) (pl:Int) (n:Nat) (x y dx dy:Int):runB r p pl (n+1) x y dx dy=(own r p pl x y&&runB r p pl n (x+dx) (y+dy) dx dy):=by
  unfold runB;rw[List.range_succ_eq_map,List.all_cons,List.all_map];have e:((fun i:Nat=>own r p pl (x+(i:Int)*dx) (y+(i:Int)*dy))∘Nat.succ)=fun i:Nat=>own r p pl (x+dx+(i:Int)*dx) (y+dy+(i:Int)*dy):=by
    funext i;simp only[Function.comp]
    have e1:x+((i.succ:Nat):Int)*dx=x+dx+(i:Int)*dx:=by rw[show((i.succ:Nat):Int)=(i:Int)+1 by omega,Int.add_mul];omega
    have e2:y+((i.succ:Nat):Int)*dy=y+dy+(i:Int)*dy:=by rw[show((i.succ:Nat):Int)=(i:Int)+1 by omega,Int.add_mul];omega
    rw[e1,e2]
  rw[e];simp
theorem runB_iff {r:Rules} {p:Place} {pl:Int} {n:Nat} {x y dx dy:Int}:runB r p pl n x y dx dy=true↔∀i:Nat,i<n→own r p pl (x+(i:Int)*dx) (y+(i:Int)*dy)=true:=by
  unfold runB;rw[List.all_eq_true];exact⟨fun h i hi=>h i (List.mem_range.2 hi),fun h i hi=>h i (List.mem_range.1 hi)⟩
theorem qfZ {r:Rules} {p:Place} {pl:Int} {n:Nat} {x y dx dy:Int} (h:runB r p pl n x y dx dy=true):runB r p pl n (x+((n:Int)-1)*dx) (y+((n:Int)-1)*dy) (-dx) (-dy)=true:=by
  rw[runB_iff] at *;intro i hi;have:=h (n-1-i) (by omega);have e1:x+((n:Int)-1)*dx+(i:Int)*(-dx)=x+((n-1-i:Nat):Int)*dx:=by
    rw[show((n-1-i:Nat):Int)=(n:Int)-1-(i:Int) by omega,Int.sub_mul ((n:Int)-1),Int.mul_neg];omega
  have e2:y+((n:Int)-1)*dy+(i:Int)*(-dy)=y+((n-1-i:Nat):Int)*dy:=by
    rw[show((n-1-i:Nat):Int)=(n:Int)-1-(i:Int) by omega,Int.sub_mul ((n:Int)-1),Int.mul_neg];omega
  rw[e1,e2];exact this
theorem qp5 {r:Rules} {p:Place} {pl x y:Int} (h:own r p pl x y=true):onB r x y=true:=by unfold own at h;rw[Bool.and_eq_true] at h;exact h.1
abbrev dX (d:Nat):Int:=getD' [(1:Int),(0:Int),(1:Int),(1:Int)] d 0
abbrev dY (d:Nat):Int:=getD' [(0:Int),(1:Int),(1:Int),(-1:Int)] d 0
abbrev eX (d:Nat):Int:=getD' [(-1:Int),(0:Int),(-1:Int),(1:Int)] d 0
abbrev eY (d:Nat):Int:=getD' [(0:Int),(-1:Int),(-1:Int),(-1:Int)] d 0
def lineB (r:Rules) (p:Place) (pl c:Int):Bool:=(List.range p.1.length).any fun s=>(List.range 4).any fun d=>runB r p pl c.toNat ((s:Int).tmod r.width) ((s:Int).tdiv r.width) (dX d) (dY d)
def qlf (r:Rules) (p:Place) (pl c:Int):Bool:=(List.range r.height.toNat).any fun y=>(List.range r.width.toNat).any fun x=>(List.range 4).any fun d=>runB r p pl c.toNat (x:Int) (y:Int) (eX d) (eY d)
theorem sq_div {r:Rules} {x y:Int} (h:onB r x y=true):(sq r x y).tmod r.width=x∧(sq r x y).tdiv r.width=y:=by
  obtain⟨h1,h2,h3,h4⟩:=onB_iff.1 h
  have h0:0≤sq r x y:=by unfold sq;have:=Int.mul_nonneg h3 (show 0≤r.width by omega);omega
  rw[Int.tmod_eq_emod_of_nonneg h0,Int.tdiv_eq_ediv_of_nonneg h0];unfold sq;rw[Int.add_comm,Int.add_mul_emod_self_right,Int.add_mul_ediv_right _ _ (by omega),Int.emod_eq_of_lt h1 h2,Int.ediv_eq_zero_of_lt h1 h2];omega
theorem qi6 {r:Rules} {p:Place} (h:Valid r p) {pl c x y:Int} {d:Nat} (hc:1≤c) (hd:d<4) (hr:runB r p pl c.toNat x y (dX d) (dY d)=true):lineB r p pl c=true:=by
  have hon:onB r x y=true:=by
    have:=runB_iff.1 hr 0 (by omega);exact qp5 (by simpa using this)
  have hs:=qi0 h.r0 hon;have hlen:((p.1.length:Nat):Int)=r.width*r.height:=h.cells;unfold lineB;rw[List.any_eq_true];refine⟨(sq r x y).toNat,List.mem_range.2 (by omega),?_⟩;rw[List.any_eq_true];refine⟨d,List.mem_range.2 hd,?_⟩;rw[Int.toNat_of_nonneg hs.1,(sq_div hon).1,(sq_div hon).2];exact hr
theorem qhj {r:Rules} {p:Place} (h:Valid r p) {pl c x y:Int} {d:Nat} (hc:1≤c) (hd:d<4) (hr:runB r p pl c.toNat x y (eX d) (eY d)=true):qlf r p pl c=true:=by
  have hon:onB r x y=true:=by
    have:=runB_iff.1 hr 0 (by omega);exact qp5 (by simpa using this)
  obtain⟨h1,h2,h3,h4⟩:=onB_iff.1 hon;unfold qlf;rw[List.any_eq_true];refine⟨y.toNat,List.mem_range.2 (by omega),?_⟩;rw[List.any_eq_true];refine⟨x.toNat,List.mem_range.2 (by omega),?_⟩;rw[List.any_eq_true];refine⟨d,List.mem_range.2 hd,?_⟩;rw[Int.toNat_of_nonneg h1,Int.toNat_of_nonneg h3];exact hr
theorem qqR {r:Rules} {p:Place} (h:Valid r p) {pl c:Int} (hc:1≤c):qlf r p pl c=lineB r p pl c:=by
  rw[Bool.eq_iff_iff];constructor
  · intro hl;unfold qlf at hl;simp only[List.any_eq_true,List.mem_range] at hl;obtain⟨y,_,x,_,d,hd,hr⟩:=hl
    have h4:d=0∨d=1∨d=2∨d=3:=by omega
    rcases h4 with rfl | rfl | rfl | rfl
    · exact qi6 h (d:=0) hc (by omega) (qfZ hr)
    · exact qi6 h (d:=1) hc (by omega) (qfZ hr)
    · exact qi6 h (d:=2) hc (by omega) (qfZ hr)
    · exact qi6 h (d:=3) hc (by omega) hr
  · intro hl;unfold lineB at hl;simp only[List.any_eq_true,List.mem_range] at hl;obtain⟨s,_,d,hd,hr⟩:=hl
    have h4:d=0∨d=1∨d=2∨d=3:=by omega
    rcases h4 with rfl | rfl | rfl | rfl
    · exact qhj h (d:=0) hc (by omega) (qfZ hr)
    · exact qhj h (d:=1) hc (by omega) (qfZ hr)
    · exact qhj h (d:=2) hc (by omega) (qfZ hr)
    · exact qhj h (d:=3) hc (by omega) hr
theorem dX_rng (d:Nat) : -1≤dX d∧dX d≤1:=by
  match d with
  | 0=>decide
  | 1=>decide
  | 2=>decide
  | 3=>decide
  | n+4=>simp[dX,getD']
theorem dY_rng (d:Nat) : -1≤dY d∧dY d≤1:=by
  match d with
  | 0=>decide
  | 1=>decide
  | 2=>decide
  | 3=>decide
  | n+4=>simp[dY,getD']
theorem line3 {r:Rules} {p:Place} (h:Valid r p) {pl c:Int} (d:Nat) (hc:c≤64):∀(m:Nat) (x y n:Int),0≤n→n+m=c→(-1≤x∧x≤8)→(-1≤y∧y≤8) →
    ∃n',iterW (qdf c r p pl (((d:Int),()),())) ((x,y,n,()),())=some ((n',()),())∧(n'==c)=runB r p pl m x y (dX d) (dY d)
  | 0,x,y,n,h0,hn,hx,hy=>by
    refine⟨n,qj ?_,?_⟩
    · unfold qdf
      have:decide (n<c)=false:=by simp;omega
      simp only[this,cond_false,Option.bind_some]
    · rw[beq_t (by omega)];rfl
  | m+1,x,y,n,h0,hn,hx,hy=>by
    have hr:=h.r0;have:=hr.w8;have:=hr.h8;have:=hr.w1;have:=hr.h1;have ha:=hr.area
    have hlt:decide (n<c)=true:=by simp;omega
    have hoff:((((decide (x<(0:Int)))||(decide (x≥r.2.1)))||(decide (y<(0:Int))))||(decide (y≥r.2.2.1))) = !onB r x y:=by
      rw[Bool.eq_iff_iff];simp only[Bool.or_eq_true,decide_eq_true_eq,Bool.not_eq_true',onB,decide_eq_false_iff_not];show((x<0∨x≥r.width)∨y<0)∨y≥r.height↔_;omega
    have hown:(bif (decide (n<c)) then(bif ((((decide (x<(0:Int)))||(decide (x≥r.2.1)))||(decide (y<(0:Int))))||(decide (y≥r.2.2.1))) then some ((false,()),())
        else Option.bind (at? p.1 (w64 ((w64 (y*r.2.1))+x))) fun d4 =>
        req (imp (decide (d4>(0:Int))) true) (some ((((decide (d4>(0:Int)))&&(((w64 (d4-(1:Int))).tmod (2:Int))==pl)),()),())))
        else some ((false,()),()))=some ((own r p pl x y,()),()):=by
      rw[hlt,cond_true,hoff];unfold own
      cases hb:onB r x y with
      | false=>rfl
      | true =>
        have hs:=qi0 hr hb;obtain⟨b1,b2,b3,b4⟩:=onB_iff.1 hb;have hmul:=qib (show 0≤r.width by omega) b3 b4;have w1:w64 (y*r.2.1)=y*r.2.1:=qc (by show _≤y*r.width;omega) (by show y*r.width≤_;omega);have w2:w64 (y*r.2.1+x)=sq r x y:=qc (by show _≤sq r x y;omega) (by show sq r x y≤_;omega);have hcs:=qcT h (sq r x y);rw[w1,w2,qbV (p:=p) hs.1 (by rw[h.cells];exact hs.2)]
        simp only[Bool.not_true,cond_false,Option.bind_some,show ∀b,imp b true=true from fun b=>by cases b<;>rfl,qg,Bool.true_and]
        rw[qc (n:=cellI p (sq r x y)-1) (by omega) (by omega)]
    rw[runB_cons]
    cases ho:own r p pl x y with
    | false =>
      refine⟨n,qj ?_,?_⟩
      · unfold qdf;rw[hown,ho];rfl
      · rw[beq_f (by omega)];rfl
    | true =>
      obtain⟨b1,b2,b3,b4⟩:=onB_iff.1 (qp5 ho);have r1:=dX_rng d;have r2:=dY_rng d;obtain⟨n',e1,e2⟩:=line3 h (pl:=pl) d hc m (x+dX d) (y+dY d) (n+1) (by omega) (by omega) (by omega) (by omega);refine⟨n',?_,by rw[e2];simp⟩
      rw[qm (y:=((x+dX d,y+dY d,n+1,()),())) (by
        unfold qdf;rw[hown,ho];simp only[Option.bind_some,cond_true,Int.toNat_natCast]
        rw[qc (n:=x+dX d) (by omega) (by omega),qc (n:=y+dY d) (by omega) (by omega),qc (n:=n+1) (by omega) (by omega)])]
      exact e1
theorem line_spec {r:Rules} {p:Place} (h:Valid r p) (pl:Int) {c:Int} (hc1:1≤c) (hc:c≤64):qjb r p pl c=some (lineB r p pl c):=by
  have hr:=h.r0;have:=hr.w8;have:=hr.h8;have:=hr.w1;have:=hr.h1;have ha:=hr.area;have hlen:((p.1.length:Nat):Int)=r.width*r.height:=h.cells;have hq:(r.2.1 !=0)=true:=bne_t (by show ¬r.width=0;omega);unfold qjb
  have hL:=qap (List.range p.1.length) (fun s=>(List.range 4).any fun d=>runB r p pl c.toNat ((s:Int).tmod r.width) ((s:Int).tdiv r.width) (dX d) (dY d)) (qeF p r c pl) (.inr true) (.inl ((),())) (fun s hs=>by
    have hs':s<p.1.length:=by simpa using hs
    have hdv:=qeC hr (show(0:Int)≤(s:Int) by omega) (show(s:Int)<r.width*r.height by omega)
    have hL2:=qap (List.range 4) (fun d=>runB r p pl c.toNat ((s:Int).tmod r.width) ((s:Int).tdiv r.width) (dX d) (dY d)) (qer r c p pl (((s:Int),()),())) (.inr (.inr (.inr (.inr true)))) (.inl ((),())) (fun d hd=>by
      have hd':d<4:=by simpa using hd
      have w1:w64 ((s:Int).tdiv r.2.1)=(s:Int).tdiv r.width:=qc (by show _≤(s:Int).tdiv r.width;omega) (by show(s:Int).tdiv r.width≤_;omega);obtain⟨n',e1,e2⟩:=line3 h (pl:=pl) (c:=c) d hc c.toNat ((s:Int).tmod r.width) ((s:Int).tdiv r.width) 0 (by omega) (by omega) (by omega) (by omega);unfold qer;simp only[show decide ((d:Int)<4)=true by simp;omega,cond_true,show inb (d:Int) 4=true from inb_iff.2 ⟨by omega,by omega⟩,qg,hq,w1];rw[show((s:Int).tmod r.2.1)=(s:Int).tmod r.width from rfl,e1,Option.bind_some];simp only[List.getElem_range];rw[←e2,qc (n:=(d:Int)+1) (by omega) (by omega)]
      cases (n'==c)<;>rfl) (by
      unfold qer
      rfl)
    unfold qeF;simp only[show decide ((s:Int)<((p.1.length:Nat):Int))=true by simp;omega,cond_true,List.getElem_range];rw[hL2,qc (n:=(s:Int)+1) (by omega) (by omega)]
    cases (List.range 4).any (fun d=>runB r p pl c.toNat ((s:Int).tmod r.width) ((s:Int).tdiv r.width) (dX d) (dY d))<;>rfl) (by
    unfold qeF
    simp)
  rw[hL];unfold lineB
  cases (List.range p.1.length).any (fun s=>(List.range 4).any fun d=>runB r p pl c.toNat ((s:Int).tmod r.width) ((s:Int).tdiv r.width) (dX d) (dY d))<;>rfl
theorem eXY_rng (d:Nat) (hd:d<4):(-1≤eX d∧eX d≤1)∧(-1≤eY d∧eY d≤1)∧¬(eX d=0∧eY d=0):=by
  have h4:d=0∨d=1∨d=2∨d=3:=by omega
  rcases h4 with rfl | rfl | rfl | rfl<;>decide
theorem qny {n d:Int} (h0:0≤n) (h1 : -1≤d) (h2:d≤1):(d=0∧n*d=0)∨(d=1∧n*d=n)∨(d = -1∧n*d = -n):=by
  have:d=0∨d=1∨d = -1:=by omega
  rcases this with rfl | rfl | rfl<;>simp
theorem lined4 {r:Rules} {p:Place} (h:Valid r p) {pl c:Int} (d:Nat) (hd:d<4) {x y:Int} (hon:onB r x y=true) (s1 s2:Unit) :
    ∃n':Nat,iterW (qcA r p ((x,()),()) ((eX d,eY d,()),()) ((y,()),()) pl) (((0:Int),()),())=some (((n':Int),()),())∧(∀i:Nat,i<n'→own r p pl (x+(i:Int)*eX d) (y+(i:Int)*eY d)=true)∧own r p pl (x+(n':Int)*eX d) (y+(n':Int)*eY d)=false:=by
  have hr:=h.r0;have:=hr.w8;have:=hr.h8;have:=hr.w1;have:=hr.h1;obtain⟨o1,o2,o3,o4⟩:=onB_iff.1 hon;obtain⟨rx,ry,rn⟩:=eXY_rng d hd
  obtain⟨res,h1,n',rfl,h3,h4⟩:=qh9 (f:=qcA r p ((x,()),()) ((eX d,eY d,()),()) ((y,()),()) pl) (fun s=>∃n:Nat,s=(((n:Int),()),())∧n≤8∧∀i:Nat,i<n→own r p pl (x+(i:Int)*eX d) (y+(i:Int)*eY d)=true) (fun s=>9-s.1.1.toNat) (fun res=>∃n':Nat,res=(((n':Int),()),())∧(∀i:Nat,i<n'→own r p pl (x+(i:Int)*eX d) (y+(i:Int)*eY d)=true)∧own r p pl (x+(n':Int)*eX d) (y+(n':Int)*eY d)=false) (by
    rintro s ⟨n,rfl,hn8,hall⟩
    have m1:=qny (n:=(n:Int)) (by omega) rx.1 rx.2;have m2:=qny (n:=(n:Int)) (by omega) ry.1 ry.2;have w1:w64 ((n:Int)*eX d)=(n:Int)*eX d:=qc (by omega) (by omega);have w2:w64 ((n:Int)*eY d)=(n:Int)*eY d:=qc (by omega) (by omega);have w3:w64 (x+(n:Int)*eX d)=x+(n:Int)*eX d:=qc (by omega) (by omega);have w4:w64 (y+(n:Int)*eY d)=y+(n:Int)*eY d:=qc (by omega) (by omega);have hAt:=qlA h (x+(n:Int)*eX d) (y+(n:Int)*eY d);have hmine:Option.bind (qk4 r p (x+(n:Int)*eX d) (y+(n:Int)*eY d)) (fun r6=>qd3 r6 pl)=some (own r p pl (x+(n:Int)*eX d) (y+(n:Int)*eY d)):=by
      rw[hAt,Option.bind_some];unfold own
      cases hb:onB r (x+(n:Int)*eX d) (y+(n:Int)*eY d) with
      | false=>simp[qd3,imp,req]
      | true =>
        have hc:=qcT h (sq r (x+(n:Int)*eX d) (y+(n:Int)*eY d));rw[cond_true,qfh _ _ hc.1 hc.2,Bool.true_and]
    have hstep:qcA r p ((x,()),()) ((eX d,eY d,()),()) ((y,()),()) pl (((n:Int),()),())=bif own r p pl (x+(n:Int)*eX d) (y+(n:Int)*eY d) then some (.inl ((((n+1:Nat):Int),()),())) else some (.inr (((n:Int),()),())):=by
      unfold qcA;simp only[w1,w2,w3,w4];rw[←Option.bind_assoc,hmine,Option.bind_some,qc (n:=(n:Int)+1) (by omega) (by omega)];rfl
    cases ho:own r p pl (x+(n:Int)*eX d) (y+(n:Int)*eY d) with
    | true =>
      left;obtain⟨q1,q2,q3,q4⟩:=onB_iff.1 (qp5 ho);refine⟨_,by rw[hstep,ho,cond_true],⟨n+1,rfl,by omega,fun i hi=>?_⟩,by simp;omega⟩;by_cases e:i=n
      · subst e;exact ho
      · exact hall i (by omega)
    | false =>
      right
      exact⟨_,by rw[hstep,ho,cond_false],n,rfl,hall,ho⟩) (((0:Int),()),()) ⟨0,rfl,by omega,fun i hi=>by omega⟩
  exact⟨n',h1,h3,h4⟩
theorem qq9 {r:Rules} {p:Place} (h:Valid r p) (pl:Int) {c:Int} (hc1:1≤c) (hc:c≤64):qe3 r p pl c=some (qlf r p pl c):=by
  have hr:=h.r0;have:=hr.w8;have:=hr.h8;have:=hr.w1;have:=hr.h1;unfold qe3
  have hW:((r.width.toNat:Nat):Int)=r.2.1:=by show _=r.width;omega
  have hH:((r.height.toNat:Nat):Int)=r.2.2.1:=by show _=r.height;omega
  have hL:=qap (List.range r.height.toNat) (fun y=>(List.range r.width.toNat).any fun x=>(List.range 4).any fun d=>runB r p pl c.toNat (x:Int) (y:Int) (eX d) (eY d)) (qdW r p pl c) (.inr true) (.inl ((),())) (fun y hy=>by
    have hy':y<r.height.toNat:=by simpa using hy
    have hL2:=qap (List.range r.width.toNat) (fun x=>(List.range 4).any fun d=>runB r p pl c.toNat (x:Int) (y:Int) (eX d) (eY d)) (qdE r p (((y:Int),()),()) pl c) (.inr (.inr (.inr (.inr true)))) (.inl ((),())) (fun x hx=>by
      have hx':x<r.width.toNat:=by simpa using hx
      have hL3:=qap (List.range 4) (fun d=>runB r p pl c.toNat (x:Int) (y:Int) (eX d) (eY d)) (qdC r p (((x:Int),()),()) (((y:Int),()),()) pl c) (.inr (.inr (.inr (.inr (.inr (.inr (.inr true))))))) (.inl ((),())) (fun d hd=>by
        have hd':d<4:=by simpa using hd
        have hon:onB r (x:Int) (y:Int)=true:=onB_iff.2 ⟨by omega,by omega,by omega,by omega⟩;obtain⟨n',e1,e2,e3⟩:=lined4 h (pl:=pl) (c:=c) d hd' hon () ();unfold qdC;simp only[show decide ((d:Int)<4)=true by simp;omega,cond_true,List.length_cons,List.length_nil,show inb (d:Int) (0+1+1+1+1)=true from inb_iff.2 ⟨by omega,by omega⟩,qg,agree_self,Option.bind_some,Int.toNat_natCast];rw[e1,Option.bind_some,qc (n:=(d:Int)+1) (by omega) (by omega)];simp only[List.getElem_range];have hrun:decide ((n':Int)≥c)=runB r p pl c.toNat (x:Int) (y:Int) (eX d) (eY d):=by
          rw[Bool.eq_iff_iff,runB_iff,decide_eq_true_eq];constructor
          · intro hge i hi;exact e2 i (by omega)
          · intro hall;by_cases hlt:(n':Int)≥c
            · exact hlt
            · have:=hall n' (by omega);rw[e3] at this;cases this
        rw[hrun]
        cases runB r p pl c.toNat (x:Int) (y:Int) (eX d) (eY d)<;>rfl) (by
        unfold qdC
        rfl)
      unfold qdE;simp only[show decide ((x:Int)<r.2.1)=true by rw[←hW];simp;omega,cond_true,List.getElem_range];rw[hL3,qc (n:=(x:Int)+1) (by omega) (by omega)]
      cases (List.range 4).any (fun d=>runB r p pl c.toNat (x:Int) (y:Int) (eX d) (eY d))<;>rfl) (by
      unfold qdE;rw[List.length_range,hW]
      simp)
    unfold qdW;simp only[show decide ((y:Int)<r.2.2.1)=true by rw[←hH];simp;omega,cond_true,List.getElem_range];rw[hL2,qc (n:=(y:Int)+1) (by omega) (by omega)]
    cases (List.range r.width.toNat).any (fun x=>(List.range 4).any fun d=>runB r p pl c.toNat (x:Int) (y:Int) (eX d) (eY d))<;>rfl) (by
    unfold qdW;rw[List.length_range,hH]
    simp)
  rw[hL];unfold qlf
  cases (List.range r.height.toNat).any (fun y=>(List.range r.width.toNat).any fun x=>(List.range 4).any fun d=>runB r p pl c.toNat (x:Int) (y:Int) (eX d) (eY d))<;>rfl

def qng (r:Rules) (p:Place) (x:End) (mover:Int):Bool:=(List.range p.1.length).any fun s=>(cellI p (s:Int)==2*x.2.1+mover+1)&&lastB r mover (s:Int)
def fewOf (p:Place) (x:End) (mover:Int):Int:=((p.1.countP (fun c=>c==2*x.2.1+1-mover+1):Nat):Int)
def metB (r:Rules) (p:Place) (x:End) (mover:Int):Bool:=bif x.1==0 then lineB r p mover x.2.2.1 else bif x.1==1 then qng r p x mover else decide (fewOf p x mover<x.2.2.1)
structure EndOk (r:Rules) (x:End):Prop where
  kind:0≤x.1∧x.1≤2
  cnt:x.1=0→1≤x.2.2.1∧x.2.2.1≤64
  pc:0≤x.2.1∧x.2.1≤6
theorem Valid.endOk {r:Rules} {p:Place} (h:Valid r p) {x:End} (hx:x∈r.ends):EndOk r x:=by
  obtain⟨h1,h2,h3⟩:=h.r0.ends x hx;have ht:=h.r0.t6;refine⟨h1,fun e=>?_,?_⟩
  · rw[if_neg (by omega)] at h2;exact h2
  · split at h3<;>omega
theorem qp2 (p:Place) (i:Nat) (hi:i<p.1.length):cellI p (i:Int)=p.1[i]:=by
  unfold cellI;rw[List.getD_eq_getElem?_getD,Int.toNat_natCast];simp[hi]
theorem qq2 {r:Rules} {p:Place} (h:Valid r p) {x:End} (hx:EndOk r x) {mover:Int} (hm:mover=0∨mover=1):qgT r p x mover=some (metB r p x mover):=by
  have hr:=h.r0;have ha:=hr.area;have h64:=qbL h;have hlen:((p.1.length:Nat):Int)=r.width*r.height:=h.cells;have hp:=hx.pc;unfold qgT metB;by_cases k0:x.1=0
  · rw[beq_t k0,cond_true,cond_true,line_spec h mover (hx.cnt k0).1 (hx.cnt k0).2];rfl
  · rw[beq_f k0,cond_false,cond_false];by_cases k1:x.1=1
    · rw[beq_t k1,cond_true,cond_true]
      have hL:=qap (List.range p.1.length) (fun s=>(cellI p (s:Int)==2*x.2.1+mover+1)&&lastB r mover (s:Int)) (qdU p x mover r) (.inr (.inr true)) (.inl ((),())) (fun s hs=>by
        have hs':s<p.1.length:=by simpa using hs
        unfold qdU;simp only[show decide ((s:Int)<((p.1.length:Nat):Int))=true by simp;omega,cond_true,List.getElem_range];rw[qbV (p:=p) (s:=(s:Int)) (by omega) (by show(s:Int)<((p.1.length:Nat):Int);omega),Option.bind_some,qkl hr mover (by omega) (by omega)];rw[qc (n:=2*x.2.1) (by omega) (by omega),qc (n:=2*x.2.1+mover) (by omega) (by omega),qc (n:=2*x.2.1+mover+1) (by omega) (by omega),qc (n:=(s:Int)+1) (by omega) (by omega)]
        cases (cellI p (s:Int)==2*x.2.1+mover+1)<;>cases lastB r mover (s:Int)<;>rfl) (by
        unfold qdU
        simp)
      rw[hL];unfold qng
      cases (List.range p.1.length).any (fun s=>(cellI p (s:Int)==2*x.2.1+mover+1)&&lastB r mover (s:Int))<;>rfl
    · rw[beq_f k1,cond_false,cond_false,Option.bind_some,Sum.elim_inl]
      have hL:=qqr p.1 (fun c=>c==2*x.2.1+1-mover+1) (qd0 p x mover) (fun c=>((c,()),())) (fun i hi c c0 ci=>by
        unfold qd0;simp only[show decide ((i:Int)<((p.1.length:Nat):Int))=true by simp;omega,cond_true];rw[qbV (p:=p) (s:=(i:Int)) (by omega) (by show(i:Int)<((p.1.length:Nat):Int);omega),Option.bind_some,qp2 p i hi];rw[qc (n:=2*x.2.1) (by omega) (by omega),qc (n:=2*x.2.1+1) (by omega) (by omega),qc (n:=2*x.2.1+1-mover) (by omega) (by omega),qc (n:=2*x.2.1+1-mover+1) (by omega) (by omega),qc (n:=(i:Int)+1) (by omega) (by omega),qc (n:=c+1) (by omega) (by omega)];cases (p.1[i]==2*x.2.1+1-mover+1)<;>rfl) (fun c=>by
        unfold qd0
        simp)
      rw[hL];rfl
def endE (r:Rules) (p:Place) (i:Nat):Option (((Unit)×(Unit)) ⊕ Int):=match r.2.2.2.2.2.2.2.1[i]? with
  | some x=>bif metB r p x (1-p.turn) then some (.inr (bif x.2.2.2.1 then 1+p.turn else 1+(1-p.turn))) else none
  | none=>none
def qjd (r:Rules) (p:Place):Int:=bif r.blocked==0 then 1+(1-p.turn) else bif r.blocked==1 then 1+p.turn else 3
def ql (r:Rules) (p:Place):Int:=match scan (endE r p) (.inl ((),())) 0 r.2.2.2.2.2.2.2.1.length with
  | .inl _=>bif (r.quiet !=0)&&decide (p.quiet≥r.quiet) then 3 else bif decide ((((qe r p).length:Nat):Int)>0) then 0 else qjd r p
  | .inr v=>v
theorem qnI {r:Rules} {p:Place} (h:Valid r p):w64 ((1:Int)-p.2.2.1)=1-p.turn∧w64 ((1:Int)+p.2.2.1)=1+p.turn∧w64 (1+(1-p.turn))=1+(1-p.turn)∧w64 (1+p.turn)=1+p.turn:=by
  have ht:=h.turn;refine⟨qc (by show _≤1-p.turn;omega) (by show 1-p.turn≤_;omega),qc (by show _≤1+p.turn;omega) (by show 1+p.turn≤_;omega),qc (by omega) (by omega),qc (by omega) (by omega)⟩
theorem qbA {r:Rules} {p:Place} (h:Valid r p):qaw r p=some (ql r p):=by
  have ht:=h.turn;obtain⟨t1,t2,t3,t4⟩:=qnI h;have h6:r.2.2.2.2.2.2.2.1.length≤6:=h.r0.ends6;unfold qaw ql
  have hL:=qkQ r.2.2.2.2.2.2.2.1.length (qcN r p) (endE r p) (.inl ((),())) (fun i hi=>by
    unfold qcN endE;rw[List.getElem?_eq_getElem hi];simp only[show decide ((i:Int)<((r.2.2.2.2.2.2.2.1.length:Nat):Int))=true by simp;omega,cond_true];rw[at?_eq r.2.2.2.2.2.2.2.1 (i:Int) (by omega) (by omega),Option.bind_some,t1];simp only[Int.toNat_natCast];rw[qq2 h (h.endOk (List.getElem_mem hi)) (by omega),Option.bind_some];cases metB r p r.2.2.2.2.2.2.2.1[i] (1-p.turn)
    · simp only[cond_false];rw[qc (n:=(i:Int)+1) (by omega) (by omega)];rfl
    · simp only[cond_true,show decide ((i:Int)≥0)=true by simp,Option.bind_some];unfold qbT;rw[t3,show p.2.2.1=p.turn from rfl,t4]
      cases (r.2.2.2.2.2.2.2.1[i]).2.2.2.1<;>rfl) (by
    unfold qcN
    simp)
  rw[hL,Option.bind_some]
  cases scan (endE r p) (.inl ((),())) 0 r.2.2.2.2.2.2.2.1.length with
  | inr v=>rfl
  | inl u =>
    simp only[Sum.elim_inl];rw[show((r.2.2.2.2.2.2.2.2.2.1 !=(0:Int))&&(decide (p.2.2.2.1≥r.2.2.2.2.2.2.2.2.2.1)))=((r.quiet !=0)&&decide (p.quiet≥r.quiet)) from rfl];cases ((r.quiet !=0)&&decide (p.quiet≥r.quiet))
    · rw[cond_false,cond_false,qhK h,Option.bind_some];cases decide ((((qe r p).length:Nat):Int)>0)
      · rw[cond_false,cond_false,t1];unfold qjd qbT;rw[t3,show p.2.2.1=p.turn from rfl,t4,show r.2.2.2.2.2.2.2.2.1=r.blocked from rfl]
        cases (r.blocked==0)<;>cases (r.blocked==1)<;>rfl
      · rfl
    · rfl
theorem qqP {A C R:Type} (n:Nat) (f:((A×C×Int×Unit)×Unit)→Option (((A×C×Int×Unit)×Unit) ⊕ R)) (a:Nat→A) (c:Nat→C) (res:R)
    (hs:∀i,i<n→f ((a i,c i,(i:Int),()),())=some (.inl ((a (i+1),c (i+1),((i:Int)+1),()),()))) (he:f ((a n,c n,(n:Int),()),())=some (.inr res)) :
    iterW f ((a 0,c 0,(0:Int),()),())=some res :=
  qcu (f:=f) n (fun i=>((a i,c i,(i:Int),()),())) res (fun i hi=>by rw[hs i hi];rfl) he
theorem far2 {r:Rules} (hr:VR0 r) {mover:Int} (hm:mover=0∨mover=1) {t:Int} (h0:0≤t) (h1:t<r.width*r.height):qeG r mover (w64 (t.tdiv r.2.1))=lastB r mover t:=by
  have:=hr.w8;have:=hr.h8;have:=hr.w1;have:=hr.h1;have hd:=qeC hr h0 h1;have w1:w64 (t.tdiv r.2.1)=t.tdiv r.width:=qc (by show _≤t.tdiv r.width;omega) (by show t.tdiv r.width≤_;omega);have w2:w64 (r.2.2.1-1)=r.height-1:=qc (by show _≤r.height-1;omega) (by show r.height-1≤_;omega);unfold qeG lastB;rw[w1,w2]
  rcases hm with e | e<;>rw[e]<;>simp
theorem refLoop {r:Rules} {p:Place} (h:Valid r p) {x:End} (hx:EndOk r x) (b0:Bool):iterW (qbK p x r) ((b0,(0:Int),(0:Int),()),())=some ((b0||((x.1==1)&&qng r p x (1-p.turn)),fewOf p x (1-p.turn),()),()):=by
  have hr:=h.r0;have:=hr.w1;have ha:=hr.area;have h64:=qbL h;have hlen:((p.1.length:Nat):Int)=r.width*r.height:=h.cells;have hp:=hx.pc;have ht:=h.turn;obtain⟨t1,t2,t3,t4⟩:=qnI h;have hq:(r.2.1 !=0)=true:=bne_t (by show ¬r.width=0;omega)
  have himp:∀b,imp b true=true:=fun b=>by cases b<;>rfl
  have key:=qqP p.1.length (qbK p x r) (fun i=>b0||((x.1==1)&&(List.range i).any fun s=>(cellI p (s:Int)==2*x.2.1+(1-p.turn)+1)&&lastB r (1-p.turn) (s:Int))) (fun i=>(((p.1.take i).countP (fun c=>c==2*x.2.1+1-(1-p.turn)+1):Nat):Int)) ((b0||((x.1==1)&&qng r p x (1-p.turn)),fewOf p x (1-p.turn),()),()) (fun i hi=>by
    unfold qbK;simp only[show decide ((i:Int)<((p.1.length:Nat):Int))=true by simp;omega,cond_true];rw[qbV (p:=p) (s:=(i:Int)) (by omega) (by show(i:Int)<((p.1.length:Nat):Int);omega),Option.bind_some,hq,himp,qg,t1,far2 hr (by omega) (by omega) (by omega)];rw[show p.2.2.1=p.turn from rfl,qc (n:=2*x.2.1) (by omega) (by omega),qc (n:=2*x.2.1+(1-p.turn)) (by omega) (by omega),qc (n:=2*x.2.1+(1-p.turn)+1) (by omega) (by omega),qc (n:=2*x.2.1+p.turn) (by omega) (by omega),qc (n:=2*x.2.1+p.turn+1) (by omega) (by omega),qc (n:=(i:Int)+1) (by omega) (by omega)];have hcl:(p.1.take i).countP (fun c=>c==2*x.2.1+1-(1-p.turn)+1)≤i:=Nat.le_trans List.countP_le_length (by simp;omega)
    rw[qc (n:=(((p.1.take i).countP (fun c=>c==2*x.2.1+1-(1-p.turn)+1):Nat):Int)+1) (by omega) (by omega)];rw[List.range_succ,List.any_append,List.take_succ_eq_append_getElem hi,List.countP_append,←qp2 p i hi];simp only[List.any_cons,List.any_nil,Bool.or_false,List.countP_cons,List.countP_nil];rw[show 2*x.2.1+1-(1-p.turn)+1=2*x.2.1+p.turn+1 by omega]
    have e1:(bif ((x.1==1&&cellI p (i:Int)==2*x.2.1+(1-p.turn)+1)&&lastB r (1-p.turn) (i:Int)) then some ((true,()),()) else some (((b0||((x.1==1)&&(List.range i).any fun s=>(cellI p (s:Int)==2*x.2.1+(1-p.turn)+1)&&lastB r (1-p.turn) (s:Int))),()),()))=some (((b0||((x.1==1)&&((List.range i).any (fun s=>(cellI p (s:Int)==2*x.2.1+(1-p.turn)+1)&&lastB r (1-p.turn) (s:Int))||((cellI p (i:Int)==2*x.2.1+(1-p.turn)+1)&&lastB r (1-p.turn) (i:Int))))),()),()):=by
      generalize (List.range i).any (fun s=>(cellI p (s:Int)==2*x.2.1+(1-p.turn)+1)&&lastB r (1-p.turn) (s:Int))=q
      cases b0<;>cases (x.1==1)<;>cases (cellI p (i:Int)==2*x.2.1+(1-p.turn)+1)<;>cases lastB r (1-p.turn) (i:Int)<;>cases q<;>rfl
    rw[e1,Option.bind_some]
    cases (cellI p (i:Int)==2*x.2.1+p.turn+1)<;>simp) (by
    unfold qbK;simp only[show decide (((p.1.length:Nat):Int)<((p.1.length:Nat):Int))=false by simp,cond_false,List.take_length]
    rfl)
  simpa using key
theorem qY {r:Rules} {p:Place} (h:Valid r p):qa1 r p=some (ql r p):=by
  have ht:=h.turn;obtain⟨t1,t2,t3,t4⟩:=qnI h;have h6:r.2.2.2.2.2.2.2.1.length≤6:=h.r0.ends6;have hbl:=h.r0.blocked;unfold qa1 ql
  have hL:=qkQ r.2.2.2.2.2.2.2.1.length (qcO r p) (endE r p) (.inl ((),())) (fun i hi=>by
    have hx:=h.endOk (List.getElem_mem hi);unfold qcO endE;rw[List.getElem?_eq_getElem hi];simp only[show decide ((i:Int)<((r.2.2.2.2.2.2.2.1.length:Nat):Int))=true by simp;omega,cond_true];rw[at?_eq r.2.2.2.2.2.2.2.1 (i:Int) (by omega) (by omega),Option.bind_some,t1];simp only[Int.toNat_natCast];obtain⟨x,hxe⟩:∃x,r.2.2.2.2.2.2.2.1[i]=x:=⟨_,rfl⟩;rw[show r.ends[i]=r.2.2.2.2.2.2.2.1[i] from rfl,hxe] at hx;simp only[hxe];have hl:gopt (x.1==0) false (qe3 r p (1-p.turn) x.2.2.1)=some ((x.1==0)&&lineB r p (1-p.turn) x.2.2.1):=by
      by_cases k0:x.1=0
      · rw[beq_t k0,qq9 h (1-p.turn) (hx.cnt k0).1 (hx.cnt k0).2,qqR h (hx.cnt k0).1];rfl
      · rw[beq_f k0];rfl
    rw[hl,Option.bind_some,refLoop h hx,Option.bind_some,t2,t3,qc (n:=(i:Int)+1) (by omega) (by omega)]
    have hk:x.1=0∨x.1=1∨x.1=2:=by have:=hx.kind;omega
    unfold metB
    rcases hk with k | k | k<;>rw[k]<;>simp only[show((0:Int)==0)=true from rfl,show((0:Int)==1)=false from rfl,show((0:Int)==2)=false from rfl,show((1:Int)==0)=false from rfl,show((1:Int)==1)=true from rfl,show((1:Int)==2)=false from rfl,show((2:Int)==0)=false from rfl,show((2:Int)==1)=false from rfl,show((2:Int)==2)=true from rfl,Bool.true_and,Bool.false_and,Bool.or_false,Bool.false_or,cond_true,cond_false]
    · cases lineB r p (1-p.turn) x.2.2.1<;>cases x.2.2.2.1<;>rfl
    · cases qng r p x (1-p.turn)<;>cases x.2.2.2.1<;>rfl
    · cases decide (fewOf p x (1-p.turn)<x.2.2.1)<;>cases x.2.2.2.1<;>rfl) (by
    unfold qcO
    simp)
  rw[hL,Option.bind_some]
  cases scan (endE r p) (.inl ((),())) 0 r.2.2.2.2.2.2.2.1.length with
  | inr v=>rfl
  | inl u =>
    simp only[Sum.elim_inl];rw[show((r.2.2.2.2.2.2.2.2.2.1 !=(0:Int))&&(decide (p.2.2.2.1≥r.2.2.2.2.2.2.2.2.2.1)))=((r.quiet !=0)&&decide (p.quiet≥r.quiet)) from rfl];cases ((r.quiet !=0)&&decide (p.quiet≥r.quiet))
    · rw[cond_false,cond_false,qbn h,Option.bind_some];cases decide ((((qe r p).length:Nat):Int)>0)
      · rw[cond_false,cond_false,t1,t2,t3]
        have hb:r.blocked=0∨r.blocked=1∨r.blocked=2:=by omega
        unfold qjd;rw[show r.2.2.2.2.2.2.2.2.1=r.blocked from rfl]
        rcases hb with e | e | e<;>rw[e]<;>rfl
      · rfl
    · rfl

def qfy (p:Place) (m:Mv):Int:=2*m.2.2.1+p.turn+1
def qdK (p:Place) (m:Mv):List Int:=(bif decide (m.1≥0) then p.1.set m.1.toNat 0 else p.1).set m.2.1.toNat (qfy p m)
def handD (m:Mv) (h:List Int):List Int:=bif decide (m.1≥0) then h else h.set m.2.2.1.toNat (h.getD m.2.2.1.toNat 0-1)
def handK (r:Rules) (c:Int) (h:List Int):List Int:=bif decide (c>0)&&r.keeps then h.set (qW c).toNat (if 1000<h.getD (qW c).toNat 0+1 then 1000 else h.getD (qW c).toNat 0+1) else h
def handA (r:Rules) (p:Place) (m:Mv) (h:List Int):List Int:=handK r (cellI p m.2.1) (handD m h)
def qkx (p:Place) (m:Mv):Int:=bif decide (cellI p m.2.1>0)||decide (m.1<0) then 0 else if 200<p.quiet+1 then 200 else p.quiet+1
def qa3 (r:Rules) (p:Place) (m:Mv):Place:=(qdK p m,((bif p.turn==0 then handA r p m p.2.1.1 else p.2.1.1),(bif p.turn==0 then p.2.1.2.1 else handA r p m p.2.1.2.1),()),1-p.turn,qkx p m,())
theorem copy_spec {r:Rules} {p:Place} (h:Valid r p):qhw p=some p:=by
  have h64:=qbL h;have ht:=h.r0.t6;have a0:p.2.1.1.length=r.pieces.length:=h.l0;have a1:p.2.1.2.1.length=r.pieces.length:=h.l1;unfold qhw;rw[qmo p.1 (by omega),qmo p.2.1.1 (by omega),qmo p.2.1.2.1 (by omega)];simp only[Option.bind_some,agree_self]
theorem qbZ {r:Rules} {p:Place} {m:Mv} (ha:qA r p m=true):(-1≤m.1∧m.1<((p.1.length:Nat):Int))∧(0≤m.2.1∧m.2.1<((p.1.length:Nat):Int))∧(0≤m.2.2.1∧m.2.2.1<((r.pieces.length:Nat):Int)):=by
  unfold qA mvOk at ha;rw[Bool.and_eq_true,decide_eq_true_eq] at ha;exact ha.1
theorem qgt {r:Rules} {p:Place} {m:Mv} (ha:qA r p m=true) (hm:m.1 = -1):handI p m.2.2.1>0∧cellI p m.2.1=0:=by
  unfold qA putOk at ha;rw[beq_t hm,cond_true] at ha;simp only[Bool.and_eq_true,decide_eq_true_eq,beq_iff_eq] at ha;exact⟨ha.2.1,ha.2.2.1⟩
theorem qfo (m:Mv) (h:List Int):(handD m h).length=h.length:=by unfold handD;cases decide (m.1≥0)<;>simp
theorem qjI (r:Rules) (c:Int) (h:List Int):(handK r c h).length=h.length:=by unfold handK;cases (decide (c>0)&&r.keeps)<;>simp
theorem qfS {l:List Int} {b:Int} (hb:0≤b) (h:∀c∈l,0≤c∧c≤b) (i:Nat):0≤l.getD i 0∧l.getD i 0≤b:=by
  rw[List.getD_eq_getElem?_getD]
  cases e:l[i]? with
  | none=>simp;exact hb
  | some c=>exact h c (List.mem_of_getElem? e)
theorem qji {r:Rules} {p:Place} {m:Mv} (h:Valid r p) (ha:qA r p m=true):∀c∈handD m (qa8 p),0≤c∧c≤1000:=by
  have hr:=qmD h;unfold handD
  cases hd:decide (m.1≥0) with
  | true=>exact hr
  | false =>
    intro c hc;rw[cond_false] at hc
    have hm:m.1 = -1:=by have:=(qbZ ha).1.1;simp at hd;omega
    have hp:=(qgt ha hm).1;have hg:=qfS (by omega) hr m.2.2.1.toNat;rcases List.mem_or_eq_of_mem_set hc with h1 | h1
    · exact hr c h1
    · unfold handI at hp;omega
theorem handK_rng {r:Rules} {c:Int} {h:List Int} (hh:∀x∈h,0≤x∧x≤1000):∀x∈handK r c h,0≤x∧x≤1000:=by
  unfold handK
  cases (decide (c>0)&&r.keeps) with
  | false=>exact hh
  | true =>
    intro x hx;have hg:=qfS (by omega) hh (qW c).toNat;rcases List.mem_or_eq_of_mem_set hx with h1 | h1
    · exact hh x h1
    · rw[h1];split<;>omega
theorem qno {r:Rules} {p:Place} {m:Mv} (hv:Valid r p) (ha:qA r p m=true) (l:List Int) (hl:l=qa8 p) :
    (decide (m.1≥0)=false→inb m.2.2.1 l.length=true∧w64 (getD' l m.2.2.1.toNat 0-1)=l.getD m.2.2.1.toNat 0-1) ∧
    (decide (cellI p m.2.1>0)=true→inb (qW (cellI p m.2.1)) (handD m l).length=true∧w64 (getD' (handD m l) (qW (cellI p m.2.1)).toNat 0+1)=(handD m l).getD (qW (cellI p m.2.1)).toNat 0+1):=by
  subst hl;have hr:=qmD hv;have hl:=qg4 hv;obtain⟨r1,r2,r3⟩:=qbZ ha;refine⟨fun _=>⟨inb_iff.2 ⟨r3.1,by rw[hl];exact r3.2⟩,?_⟩,fun hc=>⟨?_,?_⟩⟩
  · have:=qfS (by omega) hr m.2.2.1.toNat;exact qc (by show _≤(qa8 p).getD m.2.2.1.toNat 0-1;omega) (by show(qa8 p).getD m.2.2.1.toNat 0-1≤_;omega)
  · have hk:=qdR hv (of_decide_eq_true hc);exact inb_iff.2 ⟨hk.2.1,by rw[qfo,hl];exact hk.2.2⟩
  · have:=qfS (by omega) (qji hv ha) (qW (cellI p m.2.1)).toNat;exact qc (by show _≤(handD m (qa8 p)).getD (qW (cellI p m.2.1)).toNat 0+1;omega) (by show(handD m (qa8 p)).getD (qW (cellI p m.2.1)).toNat 0+1≤_;omega)
theorem qnK {r:Rules} {p:Place} {m:Mv} (h:Valid r p) (ha:qA r p m=true):qcz r p m=some (qa3 r p m):=by
  obtain⟨r1,r2,r3⟩:=qbZ ha;have ht6:=h.r0.t6;have hq:=h.quiet;have htn:=h.turn;have h64:=qbL h;have hto:inb m.2.1 p.1.length=true:=inb_iff.2 r2;have wv:w64 (w64 (w64 (2*m.2.2.1)+p.2.2.1)+1)=qfy p m:=by
    unfold qfy;rw[show p.2.2.1=p.turn from rfl,qc (n:=2*m.2.2.1) (by omega) (by omega),qc (n:=2*m.2.2.1+p.turn) (by omega) (by omega),qc (by omega) (by omega)]
  have wq:w64 (p.2.2.2.1+1)=p.quiet+1:=qc (by show _≤p.quiet+1;omega) (by show p.quiet+1≤_;omega);have wt:w64 (1-p.2.2.1)=1-p.turn:=(qnI h).1;have hcell:getD' p.1 m.2.1.toNat 0=cellI p m.2.1:=rfl;have hin:inb p.2.2.1 2=true:=inb_iff.2 (by show 0≤p.turn∧p.turn<((2:Nat):Int);omega);have wk:decide (cellI p m.2.1>0)=true→w64 ((w64 (cellI p m.2.1-1)).tdiv 2)=qW (cellI p m.2.1):=fun hc=>(qdR h (of_decide_eq_true hc)).1;have hho:qa8 p=if p.turn=0 then p.2.1.1 else p.2.1.2.1:=qfz h;have hneg:decide (m.1<0) = !decide (m.1≥0):=by
    rw[Bool.eq_iff_iff];simp only[decide_eq_true_eq,Bool.not_eq_true',decide_eq_false_iff_not];omega
  unfold qcz qa3;rw[copy_spec h,Option.bind_some];simp only[hcell,hto,qg,wv,wq,wt,hin,hneg];rcases htn with e | e
  · have e':p.2.2.1=0:=e;rw[if_pos e] at hho;obtain⟨k1,k2⟩:=qno h ha p.2.1.1 hho.symm;simp only[e',e,show((0:Int)==0)=true from rfl,cond_true];unfold handA qdK qkx handK;simp only[hneg]
    cases hd:decide (m.1≥0) with
    | true =>
      have hf:inb m.1 p.1.length=true:=inb_iff.2 ⟨of_decide_eq_true hd,r1.2⟩
      have hD:handD m p.2.1.1=p.2.1.1:=by unfold handD;rw[hd];rfl
      rw[hD] at k2 ⊢;simp only[cond_true,hf,qg,Option.bind_some,List.length_set,hto]
      cases hc:decide (cellI p m.2.1>0) with
      | false=>rfl
      | true =>
        obtain⟨k3,k4⟩:=k2 hc
        cases hk:r.2.2.2.2.2.2.1 with
        | false=>rw[show r.keeps=false from hk];rfl
        | true =>
          rw[show r.keeps=true from hk];simp only[Bool.true_and,cond_true,wk hc,k3,qg,k4,Option.bind_some];rfl
    | false =>
      obtain⟨k5,k6⟩:=k1 hd
      have hD:handD m p.2.1.1=p.2.1.1.set m.2.2.1.toNat (p.2.1.1.getD m.2.2.1.toNat 0-1):=by unfold handD;rw[hd];rfl
      have hz:decide (cellI p m.2.1>0)=false:=by
        have:=(qgt ha (by simp at hd;omega)).2;rw[this];rfl
      rw[hD];simp only[cond_false,k5,k6,qg,Option.bind_some,hz,Bool.false_and,hto];rfl
  · have e':p.2.2.1=1:=e;rw[if_neg (by omega)] at hho;obtain⟨k1,k2⟩:=qno h ha p.2.1.2.1 hho.symm;simp only[e',e,show((1:Int)==0)=false from rfl,cond_false];unfold handA qdK qkx handK;simp only[hneg]
    cases hd:decide (m.1≥0) with
    | true =>
      have hf:inb m.1 p.1.length=true:=inb_iff.2 ⟨of_decide_eq_true hd,r1.2⟩
      have hD:handD m p.2.1.2.1=p.2.1.2.1:=by unfold handD;rw[hd];rfl
      rw[hD] at k2 ⊢;simp only[cond_true,hf,qg,Option.bind_some,List.length_set,hto]
      cases hc:decide (cellI p m.2.1>0) with
      | false=>rfl
      | true =>
        obtain⟨k3,k4⟩:=k2 hc
        cases hk:r.2.2.2.2.2.2.1 with
        | false=>rw[show r.keeps=false from hk];rfl
        | true =>
          rw[show r.keeps=true from hk];simp only[Bool.true_and,cond_true,wk hc,k3,qg,k4,Option.bind_some];rfl
    | false =>
      obtain⟨k5,k6⟩:=k1 hd
      have hD:handD m p.2.1.2.1=p.2.1.2.1.set m.2.2.1.toNat (p.2.1.2.1.getD m.2.2.1.toNat 0-1):=by unfold handD;rw[hd];rfl
      have hz:decide (cellI p m.2.1>0)=false:=by
        have:=(qgt ha (by simp at hd;omega)).2;rw[this];rfl
      rw[hD];simp only[cond_false,k5,k6,qg,Option.bind_some,hz,Bool.false_and,hto];rfl
theorem qon {r:Rules} {p:Place} {m:Mv} (h:Valid r p) (ha:qA r p m=true):Valid r (qa3 r p m):=by
  obtain⟨r1,r2,r3⟩:=qbZ ha;have htn:=h.turn;have hq:=h.quiet;have hK:=handK_rng (r:=r) (c:=cellI p m.2.1) (qji h ha);have hho:=qfz h;refine⟨h.r0,?_,?_,?_,?_,?_,?_,?_,?_⟩
  · show((((bif decide (m.1≥0) then p.1.set m.1.toNat 0 else p.1).set m.2.1.toNat (qfy p m)).length:Nat):Int)=_
    have:((bif decide (m.1≥0) then p.1.set m.1.toNat 0 else p.1).set m.2.1.toNat (qfy p m)).length=p.1.length:=by cases decide (m.1≥0)<;>simp
    rw[this];exact h.cells
  · show(bif p.turn==0 then handA r p m p.2.1.1 else p.2.1.1).length=_;cases (p.turn==0)
    · exact h.l0
    · rw[cond_true];unfold handA;rw[qjI,qfo];exact h.l0
  · show(bif p.turn==0 then p.2.1.2.1 else handA r p m p.2.1.2.1).length=_;cases (p.turn==0)
    · rw[cond_false];unfold handA;rw[qjI,qfo];exact h.l1
    · exact h.l1
  · intro c hc;have hc:c∈(bif decide (m.1≥0) then p.1.set m.1.toNat 0 else p.1).set m.2.1.toNat (qfy p m):=hc;rcases List.mem_or_eq_of_mem_set hc with h1 | h1
    · cases hd:decide (m.1≥0) with
      | false=>rw[hd,cond_false] at h1;exact h.cell c h1
      | true =>
        rw[hd,cond_true] at h1;rcases List.mem_or_eq_of_mem_set h1 with h2 | h2
        · exact h.cell c h2
        · have:=h.r0.t1;omega
    · rw[h1];unfold qfy;omega
  · intro c hc;have hc:c∈(bif p.turn==0 then handA r p m p.2.1.1 else p.2.1.1):=hc;rcases htn with e | e
    · rw[beq_t e,cond_true] at hc;rw[if_pos e] at hho;have hc:c∈handK r (cellI p m.2.1) (handD m p.h0):=hc;rw[←hho] at hc;exact hK c hc
    · rw[beq_f (by omega),cond_false] at hc;exact h.hand0 c hc
  · intro c hc;have hc:c∈(bif p.turn==0 then p.2.1.2.1 else handA r p m p.2.1.2.1):=hc;rcases htn with e | e
    · rw[beq_t e,cond_true] at hc;exact h.hand1 c hc
    · rw[beq_f (by omega),cond_false] at hc;rw[if_neg (by omega)] at hho;have hc:c∈handK r (cellI p m.2.1) (handD m p.h1):=hc;rw[←hho] at hc;exact hK c hc
  · show 1-p.turn=0∨1-p.turn=1;omega
  · show 0≤qkx p m∧qkx p m≤200;unfold qkx;cases (decide (cellI p m.2.1>0)||decide (m.1<0))
    · rw[cond_false];split<;>omega
    · simp
def newC (p:Place) (m:Mv) (i:Nat):Int:=bif ((i:Int)==m.2.1) then qfy p m else bif ((i:Int)==m.1) then 0 else p.1.getD i 0
theorem newC_list {p:Place} {m:Mv} (h1 : -1≤m.1) (h2:0≤m.2.1∧m.2.1<((p.1.length:Nat):Int)):(List.range p.1.length).map (newC p m)=qdK p m:=by
  have hl:(qdK p m).length=p.1.length:=by unfold qdK;cases decide (m.1≥0)<;>simp
  apply List.ext_getElem?;intro i;by_cases hi:i<p.1.length
  · rw[List.getElem?_map,List.getElem?_range hi,Option.map_some];unfold newC qdK
    have hg:p.1[i]?=some (p.1.getD i 0):=by rw[List.getD_eq_getElem?_getD,List.getElem?_eq_getElem hi];rfl
    have hl2:(bif decide (m.1≥0) then p.1.set m.1.toNat 0 else p.1).length=p.1.length:=by cases decide (m.1≥0)<;>simp
    rw[List.getElem?_set];by_cases e:(i:Int)=m.2.1
    · rw[beq_t e,cond_true,if_pos (by omega),if_pos (by rw[hl2];omega)]
    · rw[beq_f e,cond_false,if_neg (by omega)];by_cases c:m.1≥0
      · rw[show decide (m.1≥0)=true by simp;omega,cond_true,List.getElem?_set];by_cases e2:(i:Int)=m.1
        · rw[beq_t e2,cond_true,if_pos (by omega),if_pos (by omega)]
        · rw[beq_f e2,cond_false,if_neg (by omega),hg]
      · rw[show decide (m.1≥0)=false by simp;omega,cond_false,beq_f (by omega),cond_false,hg]
  · rw[List.getElem?_eq_none (by simp;omega),List.getElem?_eq_none (by rw[hl];omega)]
def newH (r:Rules) (p:Place) (m:Mv) (h:List Int) (i:Nat):Int :=
  let n:=bif (m.1 == -1)&&((i:Int)==m.2.2.1) then h.getD i 0-1 else h.getD i 0
  bif ((r.keeps&&decide (cellI p m.2.1>0))&&((i:Int)==qW (cellI p m.2.1)))&&decide (n<1000) then n+1 else n
theorem newH_list {r:Rules} {p:Place} {m:Mv} (hv:Valid r p) (ha:qA r p m=true) (l:List Int) (hl:l=qa8 p):(List.range l.length).map (newH r p m l)=handA r p m l:=by
  obtain⟨r1,r2,r3⟩:=qbZ ha
  have hlen:(handA r p m l).length=l.length:=by unfold handA;rw[qjI,qfo]
  have hDr:∀c∈handD m l,0≤c∧c≤1000:=by rw[hl];exact qji hv ha
  have hDl:=qfo m l
  have hgD:∀(xs:List Int) (i:Nat),i<xs.length→xs[i]?=some (xs.getD i 0):=fun xs i hi=>by rw[List.getD_eq_getElem?_getD,List.getElem?_eq_getElem hi];rfl
  have hd:∀i,i<l.length→(handD m l).getD i 0=bif (m.1 == -1)&&((i:Int)==m.2.2.1) then l.getD i 0-1 else l.getD i 0:=fun i hi=>by
    by_cases c:m.1≥0
    · have:handD m l=l:=by unfold handD;rw[show decide (m.1≥0)=true by simp;omega];rfl
      rw[this,beq_f (by omega),Bool.false_and,cond_false]
    · have:handD m l=l.set m.2.2.1.toNat (l.getD m.2.2.1.toNat 0-1):=by unfold handD;rw[show decide (m.1≥0)=false by simp;omega];rfl
      rw[this,beq_t (by omega),Bool.true_and,List.getD_eq_getElem?_getD,List.getElem?_set];by_cases e:(i:Int)=m.2.2.1
      · rw[beq_t e,cond_true,if_pos (by omega),if_pos (by omega),show m.2.2.1.toNat=i by omega];rfl
      · rw[beq_f e,cond_false,if_neg (by omega),←List.getD_eq_getElem?_getD]
  apply List.ext_getElem?;intro i;by_cases hi:i<l.length
  · rw[List.getElem?_map,List.getElem?_range hi,Option.map_some];unfold newH;simp only;rw[←hd i hi];have hb:=qfS (by omega) hDr i;unfold handA;obtain⟨D0,hD0⟩:∃D0,handD m l=D0:=⟨_,rfl⟩;rw[hD0] at hb hDl ⊢;unfold handK
    cases hc:decide (cellI p m.2.1>0) with
    | false=>simp only[Bool.and_false,Bool.false_and,cond_false];exact(hgD D0 i (by omega)).symm
    | true =>
      have hk:=qdR hv (of_decide_eq_true hc)
      cases hkp:r.keeps with
      | false=>simp only[Bool.and_false,Bool.false_and,cond_false];exact(hgD D0 i (by omega)).symm
      | true =>
        simp only[Bool.true_and,cond_true];rw[List.getElem?_set];by_cases e:(i:Int)=qW (cellI p m.2.1)
        · have ei:(qW (cellI p m.2.1)).toNat=i:=by omega
          rw[beq_t e,Bool.true_and,if_pos ei,ei,if_pos (by omega)];by_cases c:D0.getD i 0<1000
          · rw[show decide (D0.getD i 0<1000)=true by simp;simpa using c,cond_true,if_neg (by omega)]
          · rw[show decide (D0.getD i 0<1000)=false by simp;simpa using c,cond_false,if_pos (by omega)];congr 1;omega
        · rw[beq_f e,Bool.false_and,cond_false,if_neg (by omega),hgD D0 i (by omega)]
  · rw[List.getElem?_eq_none (by simp;omega),List.getElem?_eq_none (by rw[hlen];omega)]
theorem qmC {A:Type} (F:Nat→A) (i:Nat):(List.range (i+1)).map F=(List.range i).map F++[F i]:=by rw[List.range_succ,List.map_append];rfl
theorem qg2 {r:Rules} {p:Place} {m:Mv} (h:Valid r p) (ha:qA r p m=true):qbe r p m=some (qa3 r p m):=by
  obtain⟨r1,r2,r3⟩:=qbZ ha;have ht6:=h.r0.t6;have hq:=h.quiet;have htn:=h.turn;have h64:=qbL h;have a0:p.2.1.1.length=r.pieces.length:=h.l0;have a1:p.2.1.2.1.length=r.pieces.length:=h.l1;have hat:=qbV (p:=p) (s:=m.2.1) r2.1 r2.2;have wv:w64 (w64 (w64 (2*m.2.2.1)+p.2.2.1)+1)=qfy p m:=by
    unfold qfy;rw[show p.2.2.1=p.turn from rfl,qc (n:=2*m.2.2.1) (by omega) (by omega),qc (n:=2*m.2.2.1+p.turn) (by omega) (by omega),qc (by omega) (by omega)]
  have wq:w64 (p.2.2.2.1+1)=p.quiet+1:=qc (by show _≤p.quiet+1;omega) (by show p.quiet+1≤_;omega);have wt:w64 (1-p.2.2.1)=1-p.turn:=(qnI h).1;unfold qbe;rw[hat,Option.bind_some,wq,wt]
  have hL1:=qcu (f:=qcx p m) p.1.length (fun i=>(((i:Int),()),(((List.range i).map (newC p m),(([]:List Int),(([]:List Int),(1-p.turn,(p.quiet+1,()))))),()))) ((),((qdK p m,(([]:List Int),(([]:List Int),(1-p.turn,(p.quiet+1,()))))),())) (fun i hi=>by
    unfold qcx;simp only[show decide ((i:Int)<((p.1.length:Nat):Int))=true by simp;omega,cond_true];rw[qbV (p:=p) (s:=(i:Int)) (by omega) (by show(i:Int)<((p.1.length:Nat):Int);omega),Option.bind_some,wv,qc (n:=(i:Int)+1) (by omega) (by omega),qmC];have e:(bif ((i:Int)==m.2.1) then some ((qfy p m,()),()) else Option.bind (bif ((i:Int)==m.1) then some (((0:Int),()),()) else some ((cellI p (i:Int),()),())) fun x5=>some ((x5.1.1,()),()))=some ((newC p m i,()),()):=by
      unfold newC;rw[show p.1.getD i 0=cellI p (i:Int) from rfl]
      cases ((i:Int)==m.2.1)<;>cases ((i:Int)==m.1)<;>rfl
    rw[e,Option.bind_some];have hroom:room (((List.range i).map (newC p m)).length+[newC p m i].length) 8=true:=qbv (by simp;omega);simp only[hroom,qg]
    rfl) (by
    unfold qcx;simp only[show decide (((p.1.length:Nat):Int)<((p.1.length:Nat):Int))=false by simp,cond_false]
    rw[newC_list r1.1 r2])
  have hL1':iterW (qcx p m) (((0:Int),()),((([]:List Int),(([]:List Int),(([]:List Int),(1-p.turn,(p.quiet+1,()))))),()))=_:=hL1;rw[hL1',Option.bind_some];have hng:decide (m.1<0)=(m.1 == -1):=by
    by_cases c:m.1 = -1
    · rw[beq_t c,c];rfl
    · rw[beq_f c];simp;omega
  have kg:decide (cellI p m.2.1>0)=true→w64 ((w64 (cellI p m.2.1-1)).tdiv 2)=qW (cellI p m.2.1):=fun hc=>(qdR h (of_decide_eq_true hc)).1
  have hL3:∀(o:Nat) (l:List Int) (c:List Int) (q0 q1:List Int) (x8:(Int×Unit)×(((List Int)×(List Int)×(List Int)×Int×Int×Unit)×Unit)),o<2→x8.1.1=(o:Int)→l=getD' [p.2.1.1,p.2.1.2.1] o []→l.length≤6→(∀x∈l,0≤x∧x≤1000)→(o=0→q0=[])→(o=1→q1=[]) →
      iterW (qcm p x8 m r (cellI p m.2.1)) (((0:Int),()),((c,(q0,(q1,(1-p.turn,(p.quiet+1,()))))),()))=some ((),((c,((if o=0 then(List.range l.length).map (fun i=>bif ((o:Int)==p.turn) then newH r p m l i else l.getD i 0) else q0),((if o=0 then q1 else(List.range l.length).map (fun i=>bif ((o:Int)==p.turn) then newH r p m l i else l.getD i 0)),(1-p.turn,(p.quiet+1,()))))),())):=by
    intro o l c q0 q1 x8 ho hx8 hl hl6 hlr z0 z1
    have:=qcu (f:=qcm p x8 m r (cellI p m.2.1)) l.length (fun i=>(((i:Int),()),((c,((if o=0 then(List.range i).map (fun i=>bif ((o:Int)==p.turn) then newH r p m l i else l.getD i 0) else q0),((if o=0 then q1 else(List.range i).map (fun i=>bif ((o:Int)==p.turn) then newH r p m l i else l.getD i 0)),(1-p.turn,(p.quiet+1,()))))),()))) ((),((c,((if o=0 then(List.range l.length).map (fun i=>bif ((o:Int)==p.turn) then newH r p m l i else l.getD i 0) else q0),((if o=0 then q1 else(List.range l.length).map (fun i=>bif ((o:Int)==p.turn) then newH r p m l i else l.getD i 0)),(1-p.turn,(p.quiet+1,()))))),())) (fun i hi=>by
      unfold qcm;rw[hx8];simp only[Int.toNat_natCast,←hl];simp only[show decide ((i:Int)<((l.length:Nat):Int))=true by simp;omega,cond_true];have hatl:at? l (i:Int)=some (l.getD i 0):=by
        rw[at?_eq l _ (by omega) (by omega),List.getD_eq_getElem?_getD,List.getElem?_eq_getElem hi];rfl
      have hgr:=qfS (by omega) hlr i;rw[hatl,Option.bind_some,show p.2.2.1=p.turn from rfl,qc (n:=l.getD i 0-1) (by omega) (by omega),qc (n:=(i:Int)+1) (by omega) (by omega)];have e1:(bif ((((o:Int)==p.turn)&&(m.1==(-1:Int)))&&((i:Int)==m.2.2.1)) then some ((l.getD i 0-1,()),()) else some ((l.getD i 0,()),()))=some (((bif ((((o:Int)==p.turn)&&(m.1==(-1:Int)))&&((i:Int)==m.2.2.1)) then l.getD i 0-1 else l.getD i 0),()),()):=by
        cases ((((o:Int)==p.turn)&&(m.1==(-1:Int)))&&((i:Int)==m.2.2.1))<;>rfl
      rw[e1,Option.bind_some]
      simp only[show ∀b,imp b true=true from fun b=>by cases b<;>rfl,qg]
      obtain⟨n,hn⟩:∃n,(bif ((((o:Int)==p.turn)&&(m.1==(-1:Int)))&&((i:Int)==m.2.2.1)) then l.getD i 0-1 else l.getD i 0)=n:=⟨_,rfl⟩;have hnr : -1≤n∧n≤1000:=by
        rw[←hn];cases ((((o:Int)==p.turn)&&(m.1==(-1:Int)))&&((i:Int)==m.2.2.1))
        · rw[cond_false];omega
        · rw[cond_true];omega
      rw[hn,qc (n:=n+1) (by omega) (by omega)];have e2:(bif ((((((o:Int)==p.turn)&&r.2.2.2.2.2.2.1)&&(decide (cellI p m.2.1>(0:Int))))&&((i:Int)==(w64 ((w64 (cellI p m.2.1-(1:Int))).tdiv (2:Int)))))&&(decide (n<(1000:Int)))) then some ((n+1,()),()) else some ((n,()),()))=some (((bif ((o:Int)==p.turn) then newH r p m l i else l.getD i 0),()),()):=by
        unfold newH;rw[show r.2.2.2.2.2.2.1=r.keeps from rfl]
        cases hot:((o:Int)==p.turn) with
        | false =>
          rw[hot] at hn;simp only[Bool.false_and,cond_false] at hn ⊢;rw[hn]
        | true =>
          rw[hot] at hn;simp only[Bool.true_and,cond_true] at hn ⊢;rw[hn]
          cases hc:decide (cellI p m.2.1>0) with
          | false=>simp
          | true =>
            rw[kg hc]
            cases r.keeps<;>cases ((i:Int)==qW (cellI p m.2.1))<;>cases decide (n<1000)<;>rfl
      rw[e2,Option.bind_some];have ho2:inb (o:Int) 2=true:=inb_iff.2 ⟨by omega,by omega⟩;have hroom:∀(F:Nat→Int) (z:Int),room (((List.range i).map F).length+[z].length) 8=true:=fun F z=>qbv (by simp;omega);simp only[ho2,qg];rcases(show o=0∨o=1 by omega) with rfl | rfl
      · simp only[↓reduceIte,show(((0:Nat):Int)==0)=true from rfl,cond_true,hroom,qg,Option.bind_some,qmC];rfl
      · simp only[if_neg (show ¬(1:Nat)=0 by omega),show(((1:Nat):Int)==0)=false from rfl,cond_false,hroom,qg,Option.bind_some,qmC]
        rfl) (by
      unfold qcm;rw[hx8];simp only[Int.toNat_natCast,←hl]
      simp only[show decide (((l.length:Nat):Int)<((l.length:Nat):Int))=false by simp,cond_false])
    rcases(show o=0∨o=1 by omega) with rfl | rfl
    · rw[z0 rfl];simpa using this
    · rw[z1 rfl];simpa using this
  have hsame:∀l:List Int,(List.range l.length).map (fun i=>l.getD i 0)=l:=fun l=>by
    apply List.ext_getElem
    · simp
    · intro i h1 h2;simp[List.getD_eq_getElem?_getD,h2]
  have hho:=qfz h;have hfin:∀(o:Nat) (l:List Int),l=getD' [p.2.1.1,p.2.1.2.1] o []→o<2→(List.range l.length).map (fun i=>bif ((o:Int)==p.turn) then newH r p m l i else l.getD i 0)=bif ((o:Int)==p.turn) then handA r p m l else l:=fun o l hl ho=>by
    cases hot:((o:Int)==p.turn) with
    | false=>simp only[cond_false];exact hsame l
    | true =>
      simp only[cond_true];refine newH_list h ha l ?_;rw[hl];unfold qa8;rw[beq_iff_eq] at hot;rw[show p.2.2.1=(o:Int) from hot.symm];rfl
  have hL2:iterW (qdY p m r (cellI p m.2.1)) (((0:Int),()),((qdK p m,(([]:List Int),(([]:List Int),(1-p.turn,(p.quiet+1,()))))),()))=some ((),((qdK p m,((bif p.turn==0 then handA r p m p.2.1.1 else p.2.1.1),((bif p.turn==0 then p.2.1.2.1 else handA r p m p.2.1.2.1),(1-p.turn,(p.quiet+1,()))))),())):=by
    rw[qm (y:=(((1:Int),()),((qdK p m,((bif p.turn==0 then handA r p m p.2.1.1 else p.2.1.1),(([]:List Int),(1-p.turn,(p.quiet+1,()))))),()))) (by
      unfold qdY;simp only[show decide ((0:Int)<2)=true from rfl,cond_true,show inb (0:Int) 2=true from rfl,qg];rw[hL3 0 p.2.1.1 (qdK p m) [] [] _ (by omega) rfl rfl (by omega) h.hand0 (fun _=>rfl) (fun h=>by omega),Option.bind_some];simp only[↓reduceIte];rw[hfin 0 p.2.1.1 rfl (by omega)]
      have:(((0:Nat):Int)==p.turn)=(p.turn==0):=by rw[Bool.eq_iff_iff,beq_iff_eq,beq_iff_eq];omega
      rw[this]
      rfl)]
    rw[qm (y:=(((2:Int),()),((qdK p m,((bif p.turn==0 then handA r p m p.2.1.1 else p.2.1.1),((bif p.turn==0 then p.2.1.2.1 else handA r p m p.2.1.2.1),(1-p.turn,(p.quiet+1,()))))),()))) (by
      unfold qdY;simp only[show decide ((1:Int)<2)=true from rfl,cond_true,show inb (1:Int) 2=true from rfl,qg];rw[hL3 1 p.2.1.2.1 (qdK p m) _ [] _ (by omega) rfl rfl (by omega) h.hand1 (fun h=>by omega) (fun _=>rfl),Option.bind_some];simp only[if_neg (show ¬(1:Nat)=0 by omega)];rw[hfin 1 p.2.1.2.1 rfl (by omega)];have:(((1:Nat):Int)==p.turn) = !(p.turn==0):=by
        rcases htn with e | e<;>rw[e]<;>rfl
      rw[this]
      cases (p.turn==0)<;>rfl)]
    exact qj rfl
  simp only;rw[hL2,Option.bind_some];unfold qa3 qkx;rw[hng];simp only;by_cases c:p.quiet+1>200
  · rw[show decide (p.quiet+1>200)=true by simp;omega,if_pos (by omega)]
    cases (decide (cellI p m.2.1>0)||m.1 == -1)<;>rfl
  · rw[show decide (p.quiet+1>200)=false by simp;omega,if_neg (by omega)]
    cases (decide (cellI p m.2.1>0)||m.1 == -1)<;>rfl

theorem qaf {r:Rules} {p:Place} (h:Valid r p):(qe r p).length≤100000:=by
  have h64:=qbL h;refine Nat.le_trans (qaS _ 384 _ fun i _=>at1_len h i) ?_;rw[List.length_range];omega

def qcv (r:Rules) (p:Place):List Mv:=if ql r p=0 then qe r p else []
theorem qga {r:Rules} {p:Place} (h:Valid r p):qc6 r p=some (qcv r p):=by
  unfold qc6 qcv;rw[qbA h,Option.bind_some];by_cases c:ql r p=0
  · rw[bne_f c,cond_false,if_pos c,qhK h];rfl
  · rw[bne_t c,cond_true,if_neg c]
theorem qiw {r:Rules} {p:Place} {m:Mv} (hm:m∈qcv r p):qA r p m=true:=by
  unfold qcv at hm;split at hm
  · exact(qjA m).1 hm
  · cases hm

theorem qfW {A:Type} (xs:List A) (i:Nat) (hi:i<xs.length) (d:A):getD' xs ((i:Int)).toNat d=xs[i]:=by
  simp[getD',hi]
theorem qk1 {A:Type} (xs:List A) (i:Nat) (hi:i<xs.length):decide ((i:Int)<((xs.length:Nat):Int))=true:=by simp;omega
theorem qjw {A:Type} (xs:List A):decide (((xs.length:Nat):Int)<((xs.length:Nat):Int))=false:=by simp
theorem qaj {A:Type} (xs:List A) (i:Nat) (hi:i<xs.length):inb (i:Int) xs.length=true:=inb_iff.2 ⟨by omega,by omega⟩
theorem qpQ {β:Type} {e:Nat→Option β} {B:β} (Q:β→Prop) (hB:Q B) (he:∀i b,e i=some b→Q b):∀(k i:Nat),Q (scan e B i k)
  | 0,_=>hB
  | k+1,i=>by
    unfold scan
    match h:e i with
    | some b=>exact he i b h
    | none=>exact qpQ Q hB he k (i+1)
theorem end_rng {r:Rules} {p:Place} (h:Valid r p):∀i b,endE r p i=some b→∃v,b = .inr v∧(v=1∨v=2):=by
  intro i b hb;have ht:=h.turn;unfold endE at hb;split at hb
  · rename_i x _
    cases hm:metB r p x (1-p.turn) with
    | false=>rw[hm] at hb;cases hb
    | true =>
      rw[hm] at hb;simp only[cond_true,Option.some.injEq] at hb;subst hb;refine⟨_,rfl,?_⟩;cases x.2.2.2.1
      · simp only[cond_false];omega
      · simp only[cond_true];omega
  · cases hb
theorem qmY {r:Rules} {p:Place} (h:Valid r p):(ql r p=0∧0<(qe r p).length)∨ql r p=1∨ql r p=2∨ql r p=3:=by
  have ht:=h.turn;unfold ql;have:=qpQ (e:=endE r p) (B := .inl ((),())) (fun b=>b = .inl ((),())∨∃v,b = .inr v∧(v=1∨v=2)) (.inl rfl) (fun i b hb => .inr (end_rng h i b hb)) r.2.2.2.2.2.2.2.1.length 0;rcases this with e | ⟨v,e,hv⟩
  · rw[e];simp only
    cases (r.quiet !=0)&&decide (p.quiet≥r.quiet) with
    | true=>right;right;right;rfl
    | false =>
      simp only[cond_false];by_cases c:(((qe r p).length:Nat):Int)>0
      · rw[decide_eq_true c];left;exact⟨rfl,by omega⟩
      · rw[decide_eq_false c];right;simp only[cond_false];unfold qjd;cases r.blocked==0
        · cases r.blocked==1
          · right;right;rfl
          · simp only[cond_false,cond_true];omega
        · simp only[cond_true];omega
  · rw[e];simp only;omega
theorem qni {r:Rules} {p:Place} (h:ql r p=0):qcv r p=qe r p:=if_pos h
theorem open_n {r:Rules} {p:Place} (h:¬ql r p=0):qcv r p=[]:=if_neg h
theorem qg9 {r:Rules} {p:Place} {ms:List Mv} (h:Valid r p) (hm:ms=qcv r p) {i:Nat} (hi:i<ms.length):qA r p ms[i]=true∧Valid r (qa3 r p ms[i]):=by
  have:ms[i]∈qcv r p:=hm▸List.getElem_mem hi;exact⟨qiw this,qon h (qiw this)⟩

theorem wu_eq (n:Int):wu64 n=n % 18446744073709551616:=by
  simp[wu64,IntKind.wrap,IntKind.signed,IntKind.bits]
theorem shr_eq (a:Int) (h0:0≤a) (h1:a<18446744073709551616) (k:Nat) (hk:k≤64) (c:Int) (hc:c=2 ^ k) (hc1:1≤c):shK .shr .u64 a (k:Int)=wu64 (a.tdiv c):=by
  have e:shK .shr .u64 a (k:Int)=a.fdiv c:=by
    unfold shK;rw[hc,Int.toNat_natCast,show min k (IntKind.bits .u64)=k from Nat.min_eq_left hk]
  rw[e,wu_eq,Int.fdiv_eq_ediv_of_nonneg _ (by omega),Int.tdiv_eq_ediv_of_nonneg h0];have h2:=Int.ediv_nonneg h0 (show 0≤c by omega);have h3:a / c≤a:=Int.ediv_le_self _ h0;rw[Int.emod_eq_of_lt h2 (by omega)]
theorem qju (n:Int):0≤wu64 n∧wu64 n<18446744073709551616:=by rw[wu_eq];omega
theorem mix_eq (n:Int):qcY n=qef n:=by
  unfold qcY qef;have e1:wu64 (wu64 (wu64 n+1)*11400714819323198485)=wu64 (wu64 (wu64 n*11400714819323198485)+11400714819323198485):=by
    simp only[wu_eq];omega
  rw[e1];have s:∀a,shK .shr .u64 (wu64 a) (30:Int)=wu64 ((wu64 a).tdiv 1073741824):=fun a=>shr_eq _ (qju a).1 (qju a).2 30 (by omega) _ (by decide) (by omega);have s2:∀a,shK .shr .u64 (wu64 a) (27:Int)=wu64 ((wu64 a).tdiv 134217728):=fun a=>shr_eq _ (qju a).1 (qju a).2 27 (by omega) _ (by decide) (by omega);have s3:∀a,shK .shr .u64 (wu64 a) (31:Int)=wu64 ((wu64 a).tdiv 2147483648):=fun a=>shr_eq _ (qju a).1 (qju a).2 31 (by omega) _ (by decide) (by omega);simp only[s,s2,s3]
def k1 (p:Place) (i:Nat) (a:Int):Int:=bif p.1.getD i 0 !=0 then wu64 (a+qcY (16*(i:Int)+p.1.getD i 0)) else a
def k2 (o:Int) (l:List Int) (i:Nat) (a:Int):Int:=wu64 (a+wu64 (qcY (2000+8*o+(i:Int))*wu64 (l.getD i 0)))

def emptyP:Place:=([],([],[],()),0,0,())

theorem fixW_rel {T α:Type} {G:(T→Option α)→T→Option α} (hG:Mono G) (R:Nat→T→α→Prop)
    (h:∀n φ x y,R n x y→(∀m x' y',m<n→R m x' y'→φ x'=some y')→G φ x=some y):∀n x y,R n x y→fixW G x=some y:=by
  have a2:∀k n x y,R n x y→n<k→fixN G k x=some y:=by
    intro k
    induction k with
    | zero=>intro n x y _ hl;omega
    | succ k ih=>intro n x y hr hl;exact h n _ x y hr fun m x' y' hm hr'=>ih m x' y' hr' (by omega)
  intro n x y hr;exact Le.fix (fun φ ψ hs y=>hG φ ψ hs y) hG (n+1) x _ (a2 _ n x y hr (Nat.lt_succ_self _))

abbrev Wn:=Place×Int×Int×Unit
abbrev ArW:=List (Wn×Option (List Nat))
abbrev Sn:=(Place×Unit)×List Int×Int×Int×Bool×Unit
abbrev dWn:Wn:=(([],(([],([],())),((0:Int),((0:Int),())))),((0:Int),((0:Int),())))
abbrev dSn:Sn:=((([],(([],([],())),((0:Int),((0:Int),())))),()),([],((0:Int),((0:Int),(false,())))))
structure WN where
  p:Place
  ks:List Nat
  v:Nat
  s:Nat
def dN:WN:=⟨emptyP,[],0,0⟩
def wP (n:WN):Wn×Option (List Nat):=((n.p,((n.v:Int),((n.s:Int),()))),if n.ks=[] then none else some (n.ks.map (· + 1)))
def wR (n:WN):Sn:=((n.p,()),(n.ks.map (fun k:Nat=>(k:Int)),((n.v:Int),((n.s:Int),(!n.ks.isEmpty,())))))
def nd (M:List WN) (i:Nat):WN:=M.getD i dN
theorem qnQ {M:List WN} {i:Nat} (h:i<M.length):M[i]?=some (nd M i):=by
  unfold nd;rw[List.getD_eq_getElem?_getD,List.getElem?_eq_getElem h];rfl
theorem ndP_w {M:List WN} {i:Nat} (h:i<M.length):ndP (M.map wP) dWn (i+1)=(wP (nd M i)).1:=by
  unfold ndP getD';rw[List.getD_eq_getElem?_getD,Nat.add_sub_cancel,List.getElem?_map,qnQ h];rfl
theorem kqP_w {M:List WN} {i:Nat} (h:i<M.length):kqP (M.map wP) dWn (i+1)=(wP (nd M i)).2:=by
  unfold kqP getD';rw[List.getD_eq_getElem?_getD,Nat.add_sub_cancel,List.getElem?_map,qnQ h];rfl
theorem kdP_w {M:List WN} {i:Nat} (h:i<M.length):kdP (M.map wP) dWn (i+1)=(nd M i).ks.map (· + 1):=by
  have:kdP (M.map wP) dWn (i+1)=(kqP (M.map wP) dWn (i+1)).getD []:=rfl;rw[this,kqP_w h];unfold wP;by_cases hk:(nd M i).ks=[]
  · rw[if_pos hk,hk];rfl
  · rw[if_neg hk];rfl
theorem getR {M:List WN} {i:Nat} (h:i<M.length):getD' (M.map wR) i dSn=wR (nd M i):=by
  unfold getD';rw[List.getD_eq_getElem?_getD,List.getElem?_map,qnQ h];rfl
theorem atR {M:List WN} {i:Nat} (h:i<M.length):at? (M.map wR) (i:Int)=some (wR (nd M i)):=by
  have:=List.getElem?_map (f:=wR) (l:=M) (i:=i);rw[qnQ h] at this;unfold at?;rw[show decide (0≤(i:Int))=true from decide_eq_true (by omega),cond_true,Int.toNat_natCast];exact this
theorem setP_w {M:List WN} {i:Nat} (h:i<M.length) (v:Wn) (n:WN) (h1:n.ks=(nd M i).ks) (h2:(wP n).1=v):setP (M.map wP) dWn (i+1) v=(M.set i n).map wP:=by
  have e:setP (M.map wP) dWn (i+1) v=(M.map wP).set i (v,kqP (M.map wP) dWn (i+1)):=rfl;rw[e,kqP_w h,List.map_set,←h2];unfold wP;rw[h1]
theorem qed {M:List WN} {i:Nat} (h:i<M.length) (n:WN):nd (M.set i n) i=n:=by
  unfold nd;rw[List.getD_eq_getElem?_getD,List.getElem?_set_self h];rfl
theorem qcB {M:List WN} {i j:Nat} (h:i≠j) (n:WN):nd (M.set i n) j=nd M j:=by
  unfold nd;rw[List.getD_eq_getElem?_getD,List.getElem?_set_ne h,List.getD_eq_getElem?_getD]
theorem qpx {M N:List WN} {i:Nat} (h:i<M.length):nd (M++N) i=nd M i:=by
  unfold nd;rw[List.getD_eq_getElem?_getD,List.getElem?_append_left h,List.getD_eq_getElem?_getD]
theorem nd_app2 {M N:List WN} {i:Nat} (h:M.length≤i):nd (M++N) i=nd N (i-M.length):=by
  unfold nd;rw[List.getD_eq_getElem?_getD,List.getElem?_append_right h,List.getD_eq_getElem?_getD]
def drawN (seed:Int) (k n:Nat):Nat:=((qcY (4096*seed+(k:Int))).tdiv 2).toNat % n
theorem u64_rng (n:Int):0≤IntKind.u64.wrap n∧IntKind.u64.wrap n<18446744073709551616:=qju n
theorem mix_rng (n:Int):0≤qcY n∧qcY n<18446744073709551616:=u64_rng _
theorem qmB (n:Int):0≤(qcY n).tdiv 2∧(qcY n).tdiv 2<9223372036854775808:=by
  obtain⟨h1,h2⟩:=mix_rng n;rw[Int.tdiv_eq_ediv_of_nonneg h1];omega
theorem ql0 (seed:Int) (k:Nat) {n:Nat} (h:0<n):drawN seed k n<n:=Nat.mod_lt _ h
theorem wu_id {n:Int} (h1:0≤n) (h2:n<18446744073709551616):wu64 n=n:=by rw[wu_eq];exact Int.emod_eq_of_lt h1 h2
theorem draw_eq {seed:Int} (k:Nat) {n:Nat} (hn:0<n):((qcY (4096*seed+(k:Int))).tdiv 2).tmod (n:Int)=(drawN seed k n:Int):=by
  obtain⟨h1,h2⟩:=qmB (4096*seed+(k:Int));unfold drawN;generalize (qcY (4096*seed+(k:Int))).tdiv 2=y at *;obtain⟨m,rfl⟩:=Int.eq_ofNat_of_zero_le h1;rw[Int.tmod_eq_emod_of_nonneg h1];simp
theorem qqy {seed:Int} (hs:0≤seed∧seed≤100000000) {k:Nat} (hk:k≤1000000) {n:Nat} (h0:0<n) (h1:n≤100000):qaM (seed,((k:Int),())) ((n:Nat):Int)=some ((seed,(((k+1:Nat):Int),())),((drawN seed (k+1) n:Int),((0:Int),()))):=by
  have e1:decide (((n:Nat):Int)<1)=false:=decide_eq_false (by omega);have e2:decide (((n:Nat):Int)>100000000)=false:=decide_eq_false (by omega)
  have e3:(((n:Nat):Int)!=0)=true:=by simp;omega
  have w1:w64 ((k:Int)+1)=((k+1:Nat):Int):=by rw[qc (by omega) (by omega)];omega
  have w2:w64 (4096*seed)=4096*seed:=qc (by omega) (by omega);have w3:w64 (4096*seed+((k+1:Nat):Int))=4096*seed+((k+1:Nat):Int):=qc (by omega) (by omega);obtain⟨g1,g2⟩:=qmB (4096*seed+((k+1:Nat):Int));unfold qaM;simp only[e1,e2,e3,Bool.or_false,cond_false,qg,w1,w2,w3];rw[wu_id g1 (by omega),qc (by omega) (by omega),draw_eq (k+1) h0]
def flB (r:Rules) (seed:Int) (k:Nat) (xs:List Sn):=(r.1,(r.2.1,(r.2.2.1,(r.2.2.2.1,(r.2.2.2.2.1,(r.2.2.2.2.2.1,(r.2.2.2.2.2.2.1,(r.2.2.2.2.2.2.2.1,(r.2.2.2.2.2.2.2.2.1,(r.2.2.2.2.2.2.2.2.2.1,(r.2.2.2.2.2.2.2.2.2.2.1,(seed,((k:Int),((xs,()),()))))))))))))))
theorem qqB (r:Rules) {seed:Int} (hs:0≤seed∧seed≤100000000) {k:Nat} (hk:k≤1000000) (xs:List Sn) {n:Nat} (h0:0<n) (h1:n≤100000):qN (r,(seed,((k:Int),((xs,()),())))) ((n:Nat):Int)=some ((r,(seed,(((k+1:Nat):Int),((xs,()),())))),(drawN seed (k+1) n:Int)):=by
  have w1:w64 ((k:Int)+1)=((k+1:Nat):Int):=by rw[qc (by omega) (by omega)];omega
  have w2:w64 (seed*4096)=4096*seed:=by rw[qc (by omega) (by omega)];omega
  have w3:w64 (4096*seed+((k+1:Nat):Int))=4096*seed+((k+1:Nat):Int):=qc (by omega) (by omega);obtain⟨g1,g2⟩:=qmB (4096*seed+((k+1:Nat):Int));have hw:wu64 ((n:Nat):Int)=((n:Nat):Int):=wu_id (by omega) (by omega)
  have e3:(((n:Nat):Int)!=0)=true:=by simp;omega
  have hd:=ql0 seed (k+1) h0;unfold qN;simp only[hw,e3,qg,w1,w2,w3,←mix_eq];rw[wu_id g1 (by omega),draw_eq (k+1) h0,qc (by omega) (by omega)]
def moveN (r:Rules) (seed:Int) (p:Place) (k:Nat):Mv:=getD' (qe r p) (drawN seed (k+1) (qe r p).length) ((0:Int),((0:Int),((0:Int),())))
def gm (r:Rules) (seed:Int):Nat→Place→Nat→Place×Nat
  | 0,p,k=>(p,k)
  | f+1,p,k=>if ql r p=0 then gm r seed f (qa3 r p (moveN r seed p k)) (k+1) else(p,k)
theorem qjq {A:Type} {xs:List A} {i:Nat} (h:i<xs.length) (d:A):getD' xs i d=xs[i]:=by
  unfold getD';rw[List.getD_eq_getElem?_getD,List.getElem?_eq_getElem h];rfl
theorem qcM {r:Rules} {p:Place} (h:Valid r p) (h0:ql r p=0):0<(qe r p).length:=by
  rcases qmY h with h | h | h | h<;>omega
theorem ql4 {r:Rules} {p:Place} (h:Valid r p) (h0:ql r p=0) (seed:Int) (k:Nat):qA r p (moveN r seed p k)=true∧Valid r (qa3 r p (moveN r seed p k)):=by
  have hl:=qcM h h0;unfold moveN;rw[qjq (ql0 seed (k+1) hl)];exact qg9 h (qni h0).symm _
theorem gm_pos {r:Rules} {seed:Int} {f:Nat} {p:Place} {k:Nat} (h0:ql r p=0):gm r seed (f+1) p k=gm r seed f (qa3 r p (moveN r seed p k)) (k+1):=if_pos h0
theorem gm_neg {r:Rules} {seed:Int} {f:Nat} {p:Place} {k:Nat} (h0:¬ql r p=0):gm r seed f p k=(p,k):=by
  cases f with
  | zero=>rfl
  | succ f=>exact if_neg h0
theorem gm_k (r:Rules) (seed:Int):∀(f:Nat) (p:Place) (k:Nat),(gm r seed f p k).2≤k+f
  | 0,p,k=>Nat.le_refl _
  | f+1,p,k=>by
    unfold gm;split
    · have:=gm_k r seed f (qa3 r p (moveN r seed p k)) (k+1);omega
    · simp only;omega
theorem qlM {r:Rules} (seed:Int):∀(f:Nat) {p:Place} (k:Nat),Valid r p→Valid r (gm r seed f p k).1
  | 0,p,k,h=>h
  | f+1,p,k,h=>by
    unfold gm;split
    · rename_i h0;exact qlM seed f (k+1) (ql4 h h0 seed k).2
    · exact h
abbrev flq (p:Place):(List Int)×(List Int)×(List Int)×Int×Int×Unit:=(p.1,(p.2.1.1,(p.2.1.2.1,p.2.2)))
theorem qnN (r:Rules) (s0:Int×Int×Unit) (i:Int) (s:Int×Int×Unit) (p:Place):qO (r,(s0,())) ((i,()),(s,(flq p,()))) =
    bif (decide (i<(200:Int))) then(Option.bind (qc6 r p) fun r3 =>
      bif (((r3.length:Nat):Int)==(0:Int)) then some (Sum.inr ((),(s,(flq p,()))))
      else Option.bind (qaM s ((r3.length:Nat):Int)) fun r4 =>
      req (inb r4.2.1 r3.length) (Option.bind (qcz r p (getD' r3 ((r4.2.1).toNat) ((0:Int),((0:Int),((0:Int),()))))) fun r5 =>
      some (Sum.inl (((w64 (i+(1:Int))),()),(r4.1,(flq r5,()))))))
    else some (Sum.inr ((),(s,(flq p,())))):=rfl
theorem qom (r:Rules) (s0 s s':Int×Int×Unit) (i d:Int) (p q:Place) (ms:List Mv) (hm:qc6 r p=some ms) (h0:(((ms.length:Nat):Int)==(0:Int))=false)
    (hb:qaM s ((ms.length:Nat):Int)=some (s',(d,((0:Int),())))) (hin:inb d ms.length=true) (ha:qcz r p (getD' ms d.toNat ((0:Int),((0:Int),((0:Int),()))))=some q) (hi:decide (i<(200:Int))=true) :
    qO (r,(s0,())) ((i,()),(s,(flq p,())))=some (.inl ((w64 (i+1),()),(s',(flq q,())))):=by
  rw[qnN,hi,hm];simp only[cond_true,Option.bind_some,h0,cond_false,hb,hin,qg,ha]
theorem qjm (r:Rules) (s0 s:Int×Int×Unit) (i:Int) (p:Place) (h:decide (i<(200:Int))=false∨qc6 r p=some []) :
    qO (r,(s0,())) ((i,()),(s,(flq p,())))=some (.inr ((),(s,(flq p,())))):=by
  rw[qnN];rcases h with h | h
  · rw[h,cond_false]
  · cases hd:decide (i<(200:Int)) with
    | false=>rw[cond_false]
    | true =>
      rw[h,cond_true,Option.bind_some]
      have:(((([]:List Mv).length:Nat):Int)==(0:Int))=true:=by decide
      rw[this,cond_true]
theorem qoZ {r:Rules} {seed:Int} (hs:0≤seed∧seed≤100000000) (s0:Int×Int×Unit):∀(f i:Nat) (p:Place) (k:Nat),i+f=200→Valid r p→k+f≤1000000 →
    iterW (qO (r,(s0,()))) ((((i:Nat):Int),()),((seed,((k:Int),())),(flq p,())))=some ((),((seed,(((gm r seed f p k).2:Int),())),(flq (gm r seed f p k).1,()))):=by
  intro f
  induction f with
  | zero =>
    intro i p k hi hv hk;rw[qj (qjm r s0 _ _ p (.inl (decide_eq_false (by omega))))];rfl
  | succ f ih =>
    intro i p k hi hv hk;have hd:decide (((i:Nat):Int)<200)=true:=decide_eq_true (by omega);by_cases h0:ql r p=0
    · have hl:=qcM hv h0;have hdr:=ql0 seed (k+1) hl;obtain⟨m1,m2⟩:=ql4 hv h0 seed k
      have hne:((((qe r p).length:Nat):Int)==0)=false:=by simp;exact fun e=>by rw[e] at hl;simp at hl
      have hin:inb (drawN seed (k+1) (qe r p).length:Int) (qe r p).length=true:=qaj _ _ hdr
      have e:=qom r s0 (seed,((k:Int),())) _ (i:Int) _ p (qa3 r p (moveN r seed p k)) (qe r p) (by rw[qga hv,qni h0]) hne (qqy hs (by omega) hl (qaf hv)) hin (by
        rw[Int.toNat_natCast];exact qnK hv m1) hd
      rw[qc (by omega) (by omega)] at e;rw[qm e];have:=ih (i+1) _ (k+1) (by omega) m2 (by omega);rw[show(((i+1:Nat)):Int)=(i:Int)+1 by omega] at this;rw[this,gm_pos h0]
    · rw[qj (qjm r s0 _ _ p (.inr (by rw[qga hv,open_n h0]))),gm_neg h0]
theorem qoO {r:Rules} {seed:Int} (hs:0≤seed∧seed≤100000000) {p:Place} {k:Nat} (hv:Valid r p) (hk:k+200≤1000000) :
    qaO (r,((seed,((k:Int),())),())) p=some ((r,((seed,(((gm r seed 200 p k).2:Int),())),())),ql r (gm r seed 200 p k).1):=by
  unfold qaO;have:=qoZ hs (seed,((k:Int),())) 200 0 p k rfl hv hk;rw[show iterW (qO (r,((seed,((k:Int),())),()))) (((0:Int),()),((r,((seed,((k:Int),())),())).2.1,((p.1,(p.2.1.1,(p.2.1.2.1,p.2.2))),())))=_ from this];simp only[Option.bind_some];have hr:=qbA (qlM seed 200 k hv);rw[show qaw r ((flq (gm r seed 200 p k).1).1,(((flq (gm r seed 200 p k).1).2.1,((flq (gm r seed 200 p k).1).2.2.1,())),(flq (gm r seed 200 p k).1).2.2.2))=_ from hr];rfl
theorem game_step (r:Rules) (p q:Place) (seed:Int) (k k':Nat) (xs:List Sn) (i d:Int) (ms:List Mv) (hres:qa1 r p=some 0) (hm:qaZ r p=some ms)
    (hd:qN (r,(seed,((k:Int),((xs,()),())))) ((ms.length:Nat):Int)=some ((r,(seed,((k':Int),((xs,()),())))),d)) (hin:inb d ms.length=true)
    (ha:qbe r p (getD' ms d.toNat ((0:Int),((0:Int),((0:Int),()))))=some q) (hi:decide (i<(200:Int))=true) :
    qac ((i,()),(flB r seed k xs,(flq p,())))=some (.inl ((w64 (i+1),()),(flB r seed k' xs,(flq q,())))):=by
  obtain⟨r1,r2,r3,r4,r5,r6,r7,r8,r9,r10,r11,⟨⟩⟩:=r;obtain⟨p1,⟨p2,p3,⟨⟩⟩,p4⟩:=p;obtain⟨q1,⟨q2,q3,⟨⟩⟩,q4⟩:=q;unfold qac;simp only[flB,flq,hi,cond_true,hres,Option.bind_some,show((0:Int)!=0)=false from rfl,cond_false,hm,hd,hin,qg,ha,agree_self]
theorem qm6 (r:Rules) (p:Place) (seed:Int) (k:Nat) (xs:List Sn) (i v:Int) (hres:qa1 r p=some v) (hv:(v !=0)=true∨decide (i<(200:Int))=false) :
    qac ((i,()),(flB r seed k xs,(flq p,())))=some (.inr ((),(flB r seed k xs,(flq p,())))):=by
  obtain⟨r1,r2,r3,r4,r5,r6,r7,r8,r9,r10,r11,⟨⟩⟩:=r;obtain⟨p1,⟨p2,p3,⟨⟩⟩,p4⟩:=p;unfold qac;by_cases hi:decide (i<(200:Int))=true
  · have hv:(v !=0)=true:=hv.resolve_right (by rw[hi];exact fun h=>by cases h);simp only[flB,flq,hi,cond_true,hres,Option.bind_some,hv]
  · simp only[flB,flq,Bool.eq_false_iff.2 hi,cond_false]
theorem game_loop {r:Rules} {seed:Int} (hs:0≤seed∧seed≤100000000) (xs:List Sn):∀(f i:Nat) (p:Place) (k:Nat),i+f=200→Valid r p→k+f≤1000000 →
    iterW qac ((((i:Nat):Int),()),(flB r seed k xs,(flq p,())))=some ((),(flB r seed (gm r seed f p k).2 xs,(flq (gm r seed f p k).1,()))):=by
  intro f
  induction f with
  | zero =>
    intro i p k hi hv hk;rw[qj (qm6 r p seed k xs _ _ (qY hv) (.inr (decide_eq_false (by omega))))];rfl
  | succ f ih =>
    intro i p k hi hv hk;have hd:decide (((i:Nat):Int)<200)=true:=decide_eq_true (by omega);by_cases h0:ql r p=0
    · have hl:=qcM hv h0;have hdr:=ql0 seed (k+1) hl;obtain⟨m1,m2⟩:=ql4 hv h0 seed k;have hin:inb (drawN seed (k+1) (qe r p).length:Int) (qe r p).length=true:=qaj _ _ hdr
      have e:=game_step r p (qa3 r p (moveN r seed p k)) seed k (k+1) xs (i:Int) _ _ (by rw[qY hv,h0]) (qbn hv) (qqB r hs (by omega) xs hl (qaf hv)) hin (by
        rw[Int.toNat_natCast];exact qg2 hv m1) hd
      rw[qc (by omega) (by omega)] at e;rw[qm e];have:=ih (i+1) _ (k+1) (by omega) m2 (by omega);rw[show(((i+1:Nat)):Int)=(i:Int)+1 by omega] at this;rw[this,gm_pos h0]
    · rw[qj (qm6 r p seed k xs _ _ (qY hv) (.inl (by simp;exact h0))),gm_neg h0]
theorem game_spec {r:Rules} {seed:Int} (hs:0≤seed∧seed≤100000000) {p:Place} {k:Nat} (xs:List Sn) (hv:Valid r p) (hk:k+200≤1000000) :
    qa6 (r,(seed,((k:Int),((xs,()),())))) p=some ((r,(seed,(((gm r seed 200 p k).2:Int),((xs,()),())))),ql r (gm r seed 200 p k).1):=by
  have hr:=qY (qlM seed 200 k hv);unfold qa6;refine(congrArg (fun o=>Option.bind o _) (game_loop hs xs 200 0 p k rfl hv hk)).trans ?_;rw[Option.bind_some];refine(congrArg (fun o=>Option.bind o _) hr).trans ?_;rfl

def newN (r:Rules) (p:Place) (m:Mv):WN:=⟨qa3 r p m,[],0,0⟩
def qv (a m:Nat):List Nat:=(List.range m).map (a + ·)
theorem qev (a m:Nat):qv a (m+1)=qv a m++[a+m]:=by simp[qv,List.range_succ]
theorem qam (a m:Nat):(qv a m).length=m:=by simp[qv]
theorem mem_kidsFrom {a m k:Nat}:k∈qv a m↔a≤k∧k<a+m:=by
  simp only[qv,List.mem_map,List.mem_range];constructor
  · rintro ⟨j,hj,rfl⟩;omega
  · intro h;exact⟨k-a,by omega,by omega⟩
def gpart (r:Rules) (M:List WN) (i j:Nat):List WN:=(M.set i { nd M i with ks:=qv M.length j })++((qe r (nd M i).p).take j).map (newN r (nd M i).p)
def growM (r:Rules) (M:List WN) (i:Nat):List WN:=if (nd M i).ks=[] then gpart r M i (qe r (nd M i).p).length else M
structure Gd (r:Rules) (B:Nat) (M:List WN):Prop where
  val:∀j<M.length,Valid r (nd M j).p
  kid:∀j<M.length,∀k∈(nd M j).ks,j<k∧k<M.length
  kl:∀j<M.length,(nd M j).ks.length≤100000
  v:∀j<M.length,(nd M j).v≤B
  s:∀j<M.length,(nd M j).s≤2*B
theorem putP_w {M:List WN} {i:Nat} (h:i<M.length) (ks:List Nat) (hk:ks≠[]):putP (M.map wP) dWn (i+1) (ks.map (· + 1))=(M.set i { nd M i with ks:=ks }).map wP:=by
  have e:putP (M.map wP) dWn (i+1) (ks.map (· + 1))=(M.map wP).set i (ndP (M.map wP) dWn (i+1),some (ks.map (· + 1))):=rfl;rw[e,ndP_w h,List.map_set];unfold wP;simp only[if_neg hk]
theorem grow_step (r:Rules) (s0:(Int×Int×Unit)×Unit) (ms:List Mv) (n:Nat) (ns:ArW) (j:Int) (p q:Place) (v s:Int) (hj:decide (j<((ms.length:Nat):Int))=true) (hin:inb j ms.length=true) (hn:Nat.blt 0 n=true)
    (hp:ndP ns dWn n=(p,(v,(s,())))) (hm:qcz r p (getD' ms j.toNat ((0:Int),((0:Int),((0:Int),()))))=some q)
    (hroom:room ((kdP (addP ns (q,((0:Int),((0:Int),())))) dWn n).length+[ns.length+1].length) 8=true) :
    qab ms n (r,s0) ((j,()),(ns,()))=some (.inl ((w64 (j+1),()),(putP (addP ns (q,((0:Int),((0:Int),())))) dWn n (kdP (addP ns (q,((0:Int),((0:Int),())))) dWn n++[ns.length+1]),()))):=by
  obtain⟨p1,⟨p2,p3,⟨⟩⟩,p4⟩:=p;obtain⟨q1,⟨q2,q3,⟨⟩⟩,q4⟩:=q;have hb:Nat.beq (n-1) (n-1)=true:=Nat.beq_refl _;unfold qab;simp only[hj,cond_true,hin,qg,hn,hp,hm,Option.bind_some,hroom,hb]
theorem qfn (r:Rules) (M:List WN) (i:Nat) {j:Nat} (hj:j≤(qe r (nd M i).p).length):(gpart r M i j).length=M.length+j:=by
  simp[gpart,Nat.min_eq_left hj]
theorem qbX (r:Rules) {M:List WN} {i:Nat} (hi:i<M.length) (j:Nat):nd (gpart r M i j) i={ nd M i with ks:=qv M.length j }:=by
  unfold gpart;rw[qpx (by simpa using hi),qed hi]
theorem qq3 (r:Rules) {M:List WN} {i:Nat} (hi:i<M.length) {j:Nat} (hj:j<(qe r (nd M i).p).length) :
    gpart r M i (j+1)=(gpart r M i j++[newN r (nd M i).p (qe r (nd M i).p)[j]]).set i { nd (gpart r M i j) i with ks:=qv M.length (j+1) }:=by
  rw[qbX r hi];unfold gpart;rw[List.append_assoc,List.set_append_left _ _ (by simpa using hi),List.set_set,List.take_succ_eq_append_getElem hj,List.map_append];rfl
theorem grow_loop {r:Rules} {M:List WN} {i:Nat} (hi:i<M.length) (hv:Valid r (nd M i).p) (h0:ql r (nd M i).p=0) (hL:M.length≤100000000) (s0:(Int×Int×Unit)×Unit):∀(f j:Nat),j+f=(qe r (nd M i).p).length →
    iterW (qab (qe r (nd M i).p) (i+1) (r,s0)) (((j:Int),()),((gpart r M i j).map wP,()))=some ((),((gpart r M i (qe r (nd M i).p).length).map wP,())):=by
  intro f;have hml:=qaf hv
  induction f with
  | zero =>
    intro j hj
    obtain rfl:j=(qe r (nd M i).p).length:=by omega
    refine qj ?_;unfold qab;rw[qjw,cond_false]
  | succ f ih =>
    intro j hj
    have hj':j<(qe r (nd M i).p).length:=by omega
    have hgl:=qfn r M i (Nat.le_of_lt hj')
    have hgi:i<(gpart r M i j).length:=by omega
    have hma:=qg9 hv (qni h0).symm hj'
    have hgi':i<(gpart r M i j++[newN r (nd M i).p (qe r (nd M i).p)[j]]).length:=by rw[List.length_append];omega
    have eadd:addP ((gpart r M i j).map wP) (qa3 r (nd M i).p (qe r (nd M i).p)[j],((0:Int),((0:Int),())))=(gpart r M i j++[newN r (nd M i).p (qe r (nd M i).p)[j]]).map wP:=by
      rw[List.map_append];rfl
    have eki:nd (gpart r M i j++[newN r (nd M i).p (qe r (nd M i).p)[j]]) i=nd (gpart r M i j) i:=qpx hgi;have ek:kdP (addP ((gpart r M i j).map wP) (qa3 r (nd M i).p (qe r (nd M i).p)[j],((0:Int),((0:Int),())))) dWn (i+1)=(qv M.length j).map (· + 1):=by
      rw[eadd,kdP_w hgi',eki,qbX r hi]
    have e:=grow_step r s0 (qe r (nd M i).p) (i+1) ((gpart r M i j).map wP) (j:Int) (nd M i).p (qa3 r (nd M i).p (qe r (nd M i).p)[j]) (nd M i).v (nd M i).s (qk1 _ _ hj') (qaj _ _ hj') (by simp) (by
        rw[ndP_w hgi,qbX r hi];rfl) (by rw[qfW _ _ hj'];exact qnK hv hma.1) (by
        rw[ek];refine qbv ?_;simp[qam];omega)
    rw[ek,eadd,qc (by omega) (by omega)] at e;have e2:(qv M.length j).map (· + 1)++[((gpart r M i j).map wP).length+1]=(qv M.length (j+1)).map (· + 1):=by
      rw[qev,List.map_append,List.length_map,hgl];rfl
    rw[e2,putP_w hgi' _ (by rw[qev];simp),eki,←qq3 r hi hj'] at e;rw[qm e];have:=ih (j+1) (by omega);rw[show(((j+1:Nat)):Int)=(j:Int)+1 by omega] at this;exact this
theorem gpart_0 (r:Rules) {M:List WN} {i:Nat} (hi:i<M.length) (hk:(nd M i).ks=[]):gpart r M i 0=M:=by
  have e:({ nd M i with ks:=qv M.length 0 }:WN)=nd M i:=by
    have:qv M.length 0=(nd M i).ks:=by rw[hk];rfl
    rw[this]
  unfold gpart;rw[e,List.take_zero,List.map_nil,List.append_nil];refine List.ext_getElem? fun t=>?_;rw[List.getElem?_set];split
  · rename_i h;subst h;rw[qnQ hi]
  · rfl
theorem okq (ks:List Nat):okO (if ks=[] then none else some (ks.map (· + 1)))=true:=by
  cases ks with
  | nil=>rfl
  | cons k ks=>rw[if_neg (by simp)];rfl
theorem grow_pre (r:Rules) (s0:(Int×Int×Unit)) (ns:ArW) (n:Nat) (p:Place) (v s:Int) (ms:List Mv) (q:Option (List Nat)) (ns':ArW) (hn:Nat.blt 0 n=true) (hq:kqP ns dWn n=q) (hok:okO q=true) (hp:ndP ns dWn n=(p,(v,(s,())))) (hm:qby r p=some ms)
    (hl:q=none→iterW (qab ms n (r,(s0,()))) (((0:Int),()),(ns,()))=some ((),(ns',()))) (hs:q≠none→ns'=ns) :
    qK (r,(s0,())) ns n=some ((r,(s0,())),(ns',())):=by
  obtain⟨p1,⟨p2,p3,⟨⟩⟩,p4⟩:=p;unfold qK
  cases q with
  | none =>
    have h1:qdy true (none:Option (List Nat))=false:=rfl;simp only[hn,qg,hq,hok,h1,cond_false,hp,hm,Option.bind_some,hl rfl]
  | some q =>
    have h1:qdy true (some q)=true:=rfl;rw[hs (by simp)];simp only[hn,qg,hq,hok,h1,cond_true]
theorem qk5 {r:Rules} {M:List WN} {i:Nat} (hi:i<M.length) (hv:Valid r (nd M i).p) (h0:ql r (nd M i).p=0) (hL:M.length≤100000000) (s0:Int×Int×Unit) :
    qK (r,(s0,())) (M.map wP) (i+1)=some ((r,(s0,())),((growM r M i).map wP,())):=by
  refine grow_pre r s0 _ _ (nd M i).p (nd M i).v (nd M i).s _ _ _ (by simp) (kqP_w hi) (okq _) (ndP_w hi) (qhK hv) (fun hq=>?_) fun hq=>?_
  · have hk:(nd M i).ks=[]:=by
      unfold wP at hq;by_cases hk:(nd M i).ks=[]
      · exact hk
      · rw[if_neg hk] at hq;cases hq
    have:=grow_loop hi hv h0 hL (s0,()) _ 0 (Nat.zero_add _);rw[gpart_0 r hi hk] at this;rw[growM,if_pos hk];exact this
  · have hk:¬(nd M i).ks=[]:=fun hk=>hq (by unfold wP;rw[if_pos hk]);rw[growM,if_neg hk]
theorem qeu (r:Rules) {M:List WN} {i:Nat} (hv:Valid r (nd M i).p):M.length≤(growM r M i).length∧(growM r M i).length≤M.length+100000:=by
  have:=qaf hv;unfold growM;split
  · rw[qfn r M i (Nat.le_refl _)];omega
  · omega
theorem qb8 (r:Rules) {M:List WN} {i j t:Nat} (hj:j<M.length) (h:i≠j):nd (gpart r M i t) j=nd M j:=by
  unfold gpart;rw[qpx (by simpa using hj),qcB h]
theorem nd_map {A:Type} (f:A→WN) (l:List A) {t:Nat} (h:t<l.length):nd (l.map f) t=f l[t]:=by
  unfold nd;rw[List.getD_eq_getElem?_getD,List.getElem?_map,List.getElem?_eq_getElem h];rfl
theorem qa9 (r:Rules) {M:List WN} {i j:Nat} (hj:M.length≤j) (h2:j<(gpart r M i (qe r (nd M i).p).length).length):∃m,m∈qe r (nd M i).p∧nd (gpart r M i (qe r (nd M i).p).length) j=newN r (nd M i).p m:=by
  rw[qfn r M i (Nat.le_refl _)] at h2;unfold gpart;rw[nd_app2 (by simpa using hj),List.length_set,List.take_length]
  have h3:j-M.length<(qe r (nd M i).p).length:=by omega
  exact⟨(qe r (nd M i).p)[j-M.length],List.getElem_mem h3,nd_map _ _ h3⟩
theorem qll (r:Rules) {M:List WN} {i j:Nat} (hj:j<M.length) (h:i≠j):nd (growM r M i) j=nd M j:=by
  unfold growM;split
  · exact qb8 r hj h
  · rfl
theorem qjs (r:Rules) {M:List WN} {i:Nat} (hi:i<M.length):∃ks,nd (growM r M i) i={ nd M i with ks:=ks }:=by
  unfold growM;split
  · exact⟨_,qbX r hi _⟩
  · exact⟨_,rfl⟩
theorem qkz {r:Rules} {M:List WN} {i:Nat} (hi:i<M.length) (hv:Valid r (nd M i).p) (h0:ql r (nd M i).p=0):(nd (growM r M i) i).ks≠[]:=by
  unfold growM;split
  · rw[qbX r hi];have hp:=qcM hv h0;intro h;have:=congrArg List.length h;rw[qam] at this;simp only[List.length_nil] at this;omega
  · assumption
theorem Gd.grow {r:Rules} {B:Nat} {M:List WN} (h:Gd r B M) {i:Nat} (hi:i<M.length) (h0:ql r (nd M i).p=0):Gd r B (growM r M i):=by
  unfold growM;split
  · rename_i hk;have hlen:=qfn r M i (Nat.le_refl _)
    have key:∀j<(gpart r M i (qe r (nd M i).p).length).length,j=i∨(j≠i∧j<M.length)∨M.length≤j:=fun j hj=>by omega
    refine⟨fun j hj=>?_,fun j hj k hkm=>?_,fun j hj=>?_,fun j hj=>?_,fun j hj=>?_⟩
    · rcases key j hj with rfl | ⟨h1,h2⟩ | h1
      · rw[qbX r hi];exact h.val j hi
      · rw[qb8 r h2 (Ne.symm h1)];exact h.val j h2
      · obtain⟨m,hm,e⟩:=qa9 r h1 hj;rw[e];obtain⟨t,ht,rfl⟩:=List.mem_iff_getElem.1 hm;exact(qg9 (h.val i hi) (qni h0).symm ht).2
    · rcases key j hj with rfl | ⟨h1,h2⟩ | h1
      · rw[qbX r hi] at hkm;have:=mem_kidsFrom.1 hkm;omega
      · rw[qb8 r h2 (Ne.symm h1)] at hkm;have:=h.kid j h2 k hkm;omega
      · obtain⟨m,hm,e⟩:=qa9 r h1 hj;rw[e] at hkm;cases hkm
    · rcases key j hj with rfl | ⟨h1,h2⟩ | h1
      · rw[qbX r hi];show(qv _ _).length≤_;rw[qam];exact qaf (h.val j hi)
      · rw[qb8 r h2 (Ne.symm h1)];exact h.kl j h2
      · obtain⟨m,hm,e⟩:=qa9 r h1 hj;rw[e];exact Nat.zero_le _
    · rcases key j hj with rfl | ⟨h1,h2⟩ | h1
      · rw[qbX r hi];exact h.v j hi
      · rw[qb8 r h2 (Ne.symm h1)];exact h.v j h2
      · obtain⟨m,hm,e⟩:=qa9 r h1 hj;rw[e];exact Nat.zero_le _
    · rcases key j hj with rfl | ⟨h1,h2⟩ | h1
      · rw[qbX r hi];exact h.s j hi
      · rw[qb8 r h2 (Ne.symm h1)];exact h.s j h2
      · obtain⟨m,hm,e⟩:=qa9 r h1 hj;rw[e];exact Nat.zero_le _
  · exact h
set_option linter.unusedSectionVars false

def rt:Nat→Nat→Nat→Nat
  | 0,k,_=>k
  | f+1,k,n=>if (k+1)*(k+1)≤n then rt f (k+1) n else k
def rootN (n:Nat):Nat:=rt (n+1) 0 n
theorem rt_le (n:Nat):∀(f k:Nat),k≤n→rt f k n≤n:=by
  intro f
  induction f with
  | zero=>intro k h;exact h
  | succ f ih =>
    intro k h;unfold rt;split
    · rename_i h2;have:k+1≤(k+1)*(k+1):=Nat.le_mul_of_pos_right _ (by omega);exact ih _ (by omega)
    · exact h
theorem qnh {n:Nat} (hn:n≤1000000):∀(f k:Nat),k≤n→n+1≤f+k→iterW (qbC (n:Int)) (((k:Int),()),())=some (((rt f k n:Int),()),()):=by
  intro f
  induction f with
  | zero=>intro k h h2;omega
  | succ f ih =>
    intro k h h2
    have w1:w64 ((k:Int)+1)=((k+1:Nat):Int):=by rw[qc (by omega) (by omega)];omega
    have hsq:(k+1)*(k+1)≤1000001*1000001:=Nat.mul_le_mul (by omega) (by omega)
    have w2:w64 (((k+1:Nat):Int)*((k+1:Nat):Int))=(((k+1)*(k+1):Nat):Int):=by rw[qc (by rw[←Int.natCast_mul];omega) (by rw[←Int.natCast_mul];omega),Int.natCast_mul]
    have e:qbC (n:Int) (((k:Int),()),())=bif decide ((((k+1)*(k+1):Nat):Int)≤(n:Int)) then some (.inl ((((k+1:Nat):Int),()),())) else some (.inr (((k:Int),()),())):=by
      unfold qbC;simp only[w1,w2]
    unfold rt;by_cases hc:(k+1)*(k+1)≤n
    · rw[show decide ((((k+1)*(k+1):Nat):Int)≤(n:Int))=true from decide_eq_true (by omega),cond_true] at e;have h3:k+1≤(k+1)*(k+1):=Nat.le_mul_of_pos_right _ (by omega);rw[qm e,if_pos hc];exact ih (k+1) (by omega) (by omega)
    · rw[show decide ((((k+1)*(k+1):Nat):Int)≤(n:Int))=false from decide_eq_false (by omega),cond_false] at e;rw[qj e,if_neg hc]
theorem root_spec {n:Nat} (hn:n≤1000000):qhq (n:Int)=some (rootN n:Int):=by
  unfold qhq;rw[show iterW (qbC (n:Int)) (((0:Int),()),())=_ from qnh hn (n+1) 0 (by omega) (by omega)];rfl
theorem qqg (n:Nat):rootN n≤n:=rt_le n _ 0 (Nat.zero_le _)
def zeroK (M:List WN) (ks:List Nat):Option Nat:=ks.find? fun k=>(nd M k).v==0
def betM (M:List WN) (b:Nat) (c k:Nat):Nat:=if (10*(nd M k).s+b)*(nd M c).v>(10*(nd M c).s+b)*(nd M k).v then k else c
def qw (M:List WN) (i:Nat):Nat:=match zeroK M (nd M i).ks with
  | some k=>k
  | none=>(nd M i).ks.foldl (betM M (rootN (100*(nd M i).v))) ((nd M i).ks.headD 0)
theorem qqc (M:List WN) (b:Nat):∀(l:List Nat) (c:Nat) (P:Nat→Prop),P c→(∀k∈l,P k)→P (l.foldl (betM M b) c)
  | [],c,P,h,_=>h
  | k::l,c,P,h,hl=>qqc M b l _ P (by unfold betM;split;exact hl k List.mem_cons_self;exact h) fun k hk=>hl k (List.mem_cons_of_mem _ hk)
theorem qqV {M:List WN} {i:Nat} (h:(nd M i).ks≠[]):qw M i∈(nd M i).ks:=by
  unfold qw;split
  · rename_i k hk;exact List.mem_of_find?_eq_some hk
  · refine qqc M _ _ _ (· ∈ (nd M i).ks) ?_ fun k hk=>hk
    cases hks:(nd M i).ks with
    | nil=>exact absurd hks h
    | cons a l=>exact List.mem_cons_self
abbrev SelfW:=((Rules×(Int×Int×Unit)×Unit)×Unit×ArW×Nat×Bool×Unit)→Option ((Rules×(Int×Int×Unit)×Unit)×ArW×Int)
def flS (r:Rules) (s:Int×Int×Unit):=(r.1,(r.2.1,(r.2.2.1,(r.2.2.2.1,(r.2.2.2.2.1,(r.2.2.2.2.2.1,(r.2.2.2.2.2.2.1,(r.2.2.2.2.2.2.2.1,(r.2.2.2.2.2.2.2.2.1,(r.2.2.2.2.2.2.2.2.2.1,(r.2.2.2.2.2.2.2.2.2.2.1,(s,()))))))))))))
theorem step_L1a (r:Rules) (s s':Int×Int×Unit) (ns ns':ArW) (n c:Nat) (self:SelfW) (j v v2 out:Int) (ks:List Nat) (p:Place) (hk:kdP ns dWn n=ks) (hj:decide (j<((ks.length:Nat):Int))=true) (hin:inb j ks.length=true)
    (hc:getD' ks j.toNat 0=c) (hc0:Nat.blt 0 c=true) (hn:ndP ns dWn c=(p,(v,(v2,())))) (hz:(v==0)=true) (hs:self ((r,(s,())),(),ns,c,false,())=some ((r,(s',())),ns',out)) :
    qo ((r,(s,())),(ns,())) n self ((j,()),())=some (.inr (.inr ((out,()),(flS r s',(ns',()))))):=by
  unfold qo;simp only[hk,hj,cond_true,hin,qg,hc,hc0,hn,hz,hs,Option.bind_some,Option.map_some];rfl
theorem qpO (r:Rules) (s:Int×Int×Unit) (ns:ArW) (n c:Nat) (self:SelfW) (j v v2:Int) (ks:List Nat) (p:Place) (hk:kdP ns dWn n=ks) (hj:decide (j<((ks.length:Nat):Int))=true) (hin:inb j ks.length=true)
    (hc:getD' ks j.toNat 0=c) (hc0:Nat.blt 0 c=true) (hn:ndP ns dWn c=(p,(v,(v2,())))) (hz:(v==0)=false) :
    qo ((r,(s,())),(ns,())) n self ((j,()),())=some (.inl ((w64 (j+1),()),())):=by
  unfold qo;simp only[hk,hj,cond_true,hin,qg,hc,hc0,hn,hz,cond_false]
theorem step_L1c (r:Rules) (s:Int×Int×Unit) (ns:ArW) (n:Nat) (self:SelfW) (j:Int) (ks:List Nat) (hk:kdP ns dWn n=ks) (hj:decide (j<((ks.length:Nat):Int))=false) :
    qo ((r,(s,())),(ns,())) n self ((j,()),())=some (.inr (.inl ((),()))):=by
  unfold qo;simp only[hk,hj,cond_false]
section
variable {r : Rules} {B : Nat} {M : List WN} (h : Gd r B M) {i : Nat} (hi : i < M.length) (s s' : Int × Int × Unit) (self : SelfW)
include h hi
theorem qmG {j:Nat} (hj:j<(nd M i).ks.length):getD' ((nd M i).ks.map (· + 1)) ((j:Int)).toNat 0=(nd M i).ks[j]+1:=by
  rw[qfW _ _ (by simpa using hj)];simp
theorem qlt {j:Nat} (hj:j<(nd M i).ks.length):i<(nd M i).ks[j]∧(nd M i).ks[j]<M.length:=h.kid i hi _ (List.getElem_mem hj)
theorem L1_none (hz:zeroK M (nd M i).ks=none):∀(f j:Nat),j+f=(nd M i).ks.length→(nd M i).ks.length≤100000→iterW (qo ((r,(s,())),(M.map wP,())) (i+1) self) (((j:Int),()),())=some (.inl ((),())):=by
  intro f
  induction f with
  | zero =>
    intro j hj hL;refine qj (step_L1c r s _ _ self _ _ (kdP_w hi) ?_);rw[List.length_map,←hj];exact decide_eq_false (by omega)
  | succ f ih =>
    intro j hj hL
    have hj':j<(nd M i).ks.length:=by omega
    have hk:=qlt h hi hj';have hv:((nd M (nd M i).ks[j]).v==0)=false:=by
      have:=List.find?_eq_none.1 hz _ (List.getElem_mem hj');simpa using this
    have e:=qpO r s (M.map wP) (i+1) _ self (j:Int) _ _ _ _ (kdP_w hi) (by rw[List.length_map];exact decide_eq_true (by omega)) (by rw[List.length_map];exact qaj _ _ hj') (qmG h hi hj') (by simp) (ndP_w hk.2) (by
      have:¬(nd M (nd M i).ks[j]).v=0:=by simpa using hv
      simp;omega)
    rw[qc (by omega) (by omega)] at e;rw[qm e];have:=ih (j+1) (by omega) hL;rw[show(((j+1:Nat)):Int)=(j:Int)+1 by omega] at this;exact this
theorem L1_some {c:Nat} (ns':ArW) (out:Int) (hs:self ((r,(s,())),(),M.map wP,c+1,false,())=some ((r,(s',())),ns',out)):∀(f j:Nat),j+f=(nd M i).ks.length→(nd M i).ks.length≤100000→zeroK M ((nd M i).ks.drop j)=some c →
    iterW (qo ((r,(s,())),(M.map wP,())) (i+1) self) (((j:Int),()),())=some (.inr ((out,()),(flS r s',(ns',())))):=by
  intro f
  induction f with
  | zero =>
    intro j hj hL hz;rw[List.drop_eq_nil_of_le (by omega)] at hz;cases hz
  | succ f ih =>
    intro j hj hL hz
    have hj':j<(nd M i).ks.length:=by omega
    have hk:=qlt h hi hj';rw[List.drop_eq_getElem_cons hj'] at hz;unfold zeroK at hz;rw[List.find?_cons] at hz
    have hjd:decide ((j:Int)<((((nd M i).ks.map (· + 1)).length:Nat):Int))=true:=by rw[List.length_map];exact decide_eq_true (by omega)
    have hjn:inb (j:Int) ((nd M i).ks.map (· + 1)).length=true:=by rw[List.length_map];exact qaj _ _ hj'
    cases hv:((nd M (nd M i).ks[j]).v==0) with
    | true =>
      rw[hv] at hz
      have hc:(nd M i).ks[j]=c:=by simpa using hz
      refine qj (step_L1a r s s' (M.map wP) ns' (i+1) (c+1) self (j:Int) _ _ out _ _ (kdP_w hi) hjd hjn (by rw[qmG h hi hj',hc]) (by simp) (ndP_w (hc▸hk.2)) ?_ hs)
      have:(nd M c).v=0:=by rw[←hc];simpa using hv
      rw[this];rfl
    | false =>
      rw[hv] at hz
      have e:=qpO r s (M.map wP) (i+1) _ self (j:Int) _ _ _ _ (kdP_w hi) hjd hjn (qmG h hi hj') (by simp) (ndP_w hk.2) (by
        have:¬(nd M (nd M i).ks[j]).v=0:=by simpa using hv
        simp;omega)
      rw[qc (by omega) (by omega)] at e;rw[qm e];have:=ih (j+1) (by omega) hL hz;rw[show(((j+1:Nat)):Int)=(j:Int)+1 by omega] at this;exact this
end
theorem step_L2a (r:Rules) (s:Int×Int×Unit) (ns:ArW) (n c b:Nat) (j g v v2 w w2:Int) (ks:List Nat) (p p':Place) (hk:kdP ns dWn n=ks) (hj:decide (j<((ks.length:Nat):Int))=true) (hin:inb j ks.length=true)
    (hc:getD' ks j.toNat 0=c) (hc0:Nat.blt 0 c=true) (hb0:Nat.blt 0 b=true) (hn:ndP ns dWn c=(p,(v,(v2,())))) (hnb:ndP ns dWn b=(p',(w,(w2,())))) :
    qM ((r,(s,())),(ns,())) n g ((b,j,()),())=some (.inl (((bif decide (w64 (w64 (w64 (10*v2)+g)*w)>w64 (w64 (w64 (10*w2)+g)*v)) then c else b),w64 (j+1),()),())):=by
  unfold qM;simp only[hk,hj,cond_true,hin,qg,hc,hc0,hb0,hn,hnb]
  cases decide (w64 (w64 (w64 (10*v2)+g)*w)>w64 (w64 (w64 (10*w2)+g)*v))<;>rfl
theorem step_L2b (r:Rules) (s:Int×Int×Unit) (ns:ArW) (n b:Nat) (j g:Int) (ks:List Nat) (hk:kdP ns dWn n=ks) (hj:decide (j<((ks.length:Nat):Int))=false) :
    qM ((r,(s,())),(ns,())) n g ((b,j,()),())=some (.inr ((b,()),())):=by
  unfold qM;simp only[hk,hj,cond_false]
theorem qlV {a b v:Nat} (ha:a≤1000) (hb:b≤100000) (hv:v≤1000):w64 (w64 (w64 (10*(a:Int))+(b:Int))*(v:Int))=(((10*a+b)*v:Nat):Int):=by
  have h1:(10*a+b)*v≤110000*1000:=Nat.mul_le_mul (by omega) hv;rw[qc (n:=10*(a:Int)) (by omega) (by omega),qc (n:=10*(a:Int)+(b:Int)) (by omega) (by omega)]
  have e:(10*(a:Int)+(b:Int))*(v:Int)=(((10*a+b)*v:Nat):Int):=by rw[Int.natCast_mul];rfl
  rw[e];exact qc (by omega) (by omega)
section
variable {r : Rules} {B : Nat} {M : List WN} (h : Gd r B M) (hB : B ≤ 500) {i : Nat} (hi : i < M.length) (s : Int × Int × Unit)
include h hi hB
theorem L2_loop {g:Nat} (hg:g≤100000):∀(f j:Nat),j+f=(nd M i).ks.length→(nd M i).ks.length≤100000→∀b,b<M.length →
    iterW (qM ((r,(s,())),(M.map wP,())) (i+1) (g:Int)) ((b+1,(j:Int),()),())=some ((((nd M i).ks.drop j).foldl (betM M g) b+1,()),()):=by
  intro f
  induction f with
  | zero =>
    intro j hj hL b hb;rw[List.drop_eq_nil_of_le (by omega)];refine qj (step_L2b r s _ _ _ _ _ _ (kdP_w hi) ?_);rw[List.length_map,←hj];exact decide_eq_false (by omega)
  | succ f ih =>
    intro j hj hL b hb
    have hj':j<(nd M i).ks.length:=by omega
    have hk:=qlt h hi hj'
    have hjd:decide ((j:Int)<((((nd M i).ks.map (· + 1)).length:Nat):Int))=true:=by rw[List.length_map];exact decide_eq_true (by omega)
    have hjn:inb (j:Int) ((nd M i).ks.map (· + 1)).length=true:=by rw[List.length_map];exact qaj _ _ hj'
    have v1:=h.v b hb;have v2:=h.s b hb;have v3:=h.v _ hk.2;have v4:=h.s _ hk.2;have e:=step_L2a r s (M.map wP) (i+1) _ (b+1) (j:Int) (g:Int) _ _ _ _ _ _ _ (kdP_w hi) hjd hjn (qmG h hi hj') (by simp) (by simp) (ndP_w hk.2) (ndP_w hb);rw[qlV (by omega) hg (by omega),qlV (by omega) hg (by omega),qc (by omega) (by omega)] at e;have e2:(bif decide ((((10*(nd M (nd M i).ks[j]).s+g)*(nd M b).v:Nat):Int)>(((10*(nd M b).s+g)*(nd M (nd M i).ks[j]).v:Nat):Int)) then(nd M i).ks[j]+1 else b+1)=betM M g b (nd M i).ks[j]+1:=by
      unfold betM;by_cases hc:(10*(nd M (nd M i).ks[j]).s+g)*(nd M b).v>(10*(nd M b).s+g)*(nd M (nd M i).ks[j]).v
      · rw[if_pos hc,show decide _=true from decide_eq_true (Int.ofNat_lt.2 hc),cond_true]
      · rw[if_neg hc,show decide _=false from decide_eq_false (fun hh=>hc (Int.ofNat_lt.1 hh)),cond_false]
    rw[e2] at e;rw[qm e,List.drop_eq_getElem_cons hj',List.foldl_cons]
    have hb':betM M g b (nd M i).ks[j]<M.length:=by unfold betM;split;exact hk.2;exact hb
    have:=ih (j+1) (by omega) hL _ hb';rw[show(((j+1:Nat)):Int)=(j:Int)+1 by omega] at this;exact this
end
end Go.Proofs.Ytcifaoaepbidoaa
namespace Go.Proofs.Ytcifaoaepbidoaa
open Go.Den
set_option linter.unusedVariables false
set_option linter.unusedSimpArgs false
set_option linter.unusedSectionVars false
set_option maxRecDepth 100000

theorem ql3 (out t:Int) (A B' C:ArW) (f:Unit×ArW×Unit→Option ((Rules×(Int×Int×Unit)×Unit)×ArW×Int)) :
    (Option.bind (bif out==t then some ((),(A,())) else Option.bind (bif out==3 then some (((out==3),()),()) else some (((out==0),()),())) fun (x22:(Bool×Unit)×Unit) =>
      Option.bind (bif x22.1.1 then some ((),(B',())) else some ((),(C,()))) fun (x25:Unit×ArW×Unit)=>some ((),(x25.2.1,()))) f)=f ((),(bif out==t then A else bif (out==3||out==0) then B' else C,())):=by
  cases h1:out==t with
  | true=>rfl
  | false =>
    cases h3:out==3 with
    | true=>rfl
    | false=>cases h0:out==0<;>rfl
section
variable (self : SelfW) (r : Rules) (s s' : Int × Int × Unit) (ns ns' ns1 nsA nsB ns2 : ArW) (n : Nat) (first : Bool) (p : Place) (v v2 v1 s1 out : Int)
  (hn0:Nat.blt 0 n=true) (hp:ndP ns dWn n=(p,(v,(v2,()))))
  (ht1:ndP ns' dWn n=(p,(v1,(s1,())))) (ht2:setP ns' dWn n (p,(w64 (v1+1),(s1,())))=ns1) (ht3:ndP ns1 dWn n=(p,(w64 (v1+1),(s1,()))))
  (htA:setP ns1 dWn n (p,(w64 (v1+1),(w64 (s1+2),())))=nsA) (htB:setP ns1 dWn n (p,(w64 (v1+1),(w64 (s1+1),())))=nsB)
  (ht4:(bif out==w64 (2-p.2.2.1) then nsA else bif (out==3||out==0) then nsB else ns1)=ns2)
include hn0 hp ht1 ht2 ht3 htA htB ht4
theorem stepF_A (hres:qaw r p=some out) (h0:(out !=0)=true) (hs:s'=s) (hns:ns'=ns):qx self (r,(s,())) ns n first=some ((r,(s',())),(ns2,out)):=by
  subst hs hns;obtain⟨rfl,rfl⟩:v=v1∧v2=s1:=by
    have e:=hp.symm.trans ht1;exact⟨congrArg (fun x=>x.2.1) e,congrArg (fun x=>x.2.2.1) e⟩
  obtain⟨r1,r2,r3,r4,r5,r6,r7,r8,r9,r10,r11,⟨⟩⟩:=r;obtain⟨p1,⟨p2,p3,⟨⟩⟩,⟨p4,p5,⟨⟩⟩⟩:=p;unfold qx;simp only[hn0,qg,hp,hres,Option.bind_some,h0,cond_true,ht1,ht2,ht3,htA,htB];rw[ql3];simp only at ht4;rw[ht4]
theorem stepF_B (hres:qaw r p=some 0) (h0:(!first&&(v==0))=true) (hsm:qaO (r,(s,())) p=some ((r,(s',())),out)) (hns:ns'=ns):qx self (r,(s,())) ns n first=some ((r,(s',())),(ns2,out)):=by
  subst hns;obtain⟨rfl,rfl⟩:v=v1∧v2=s1:=by
    have e:=hp.symm.trans ht1;exact⟨congrArg (fun x=>x.2.1) e,congrArg (fun x=>x.2.2.1) e⟩
  obtain⟨r1,r2,r3,r4,r5,r6,r7,r8,r9,r10,r11,⟨⟩⟩:=r;obtain⟨p1,⟨p2,p3,⟨⟩⟩,⟨p4,p5,⟨⟩⟩⟩:=p
  have hi:imp (!first) true=true:=by cases first<;>rfl
  have e0:((0:Int)!=0)=false:=rfl;unfold qx;simp only[hn0,hi,qg,hp,hres,Option.bind_some,e0,cond_false,h0,cond_true,hsm,ht1,ht2,ht3,htA,htB];rw[ql3];simp only at ht4;rw[ht4]
theorem stepF_C (nsg:ArW) (hres:qaw r p=some 0) (h0:(!first&&(v==0))=false) (hg:qK (r,(s,())) ns n=some ((r,(s,())),(nsg,())))
    (hL1:iterW (qo ((r,(s,())),(nsg,())) n self) (((0:Int),()),())=some (.inr ((out,()),(flS r s',(ns',()))))):qx self (r,(s,())) ns n first=some ((r,(s',())),(ns2,out)):=by
  obtain⟨r1,r2,r3,r4,r5,r6,r7,r8,r9,r10,r11,⟨⟩⟩:=r;obtain⟨p1,⟨p2,p3,⟨⟩⟩,⟨p4,p5,⟨⟩⟩⟩:=p
  have hi:imp (!first) true=true:=by cases first<;>rfl
  have e0:((0:Int)!=0)=false:=rfl;unfold qx;simp only[hn0,hi,qg,hp,hres,Option.bind_some,e0,cond_false,h0,hg,hL1,Sum.elim_inr,flS,ht1,ht2,ht3,htA,htB];rw[ql3];simp only at ht4;rw[ht4]
theorem stepF_D (nsg:ArW) (pg:Place) (vg sg g:Int) (ks:List Nat) (c:Nat) (hres:qaw r p=some 0) (h0:(!first&&(v==0))=false) (hg:qK (r,(s,())) ns n=some ((r,(s,())),(nsg,())))
    (hL1:iterW (qo ((r,(s,())),(nsg,())) n self) (((0:Int),()),())=some (.inl ((),()))) (hpg:ndP nsg dWn n=(pg,(vg,(sg,())))) (hroot:qhq (w64 (100*vg))=some g) (hk:kdP nsg dWn n=ks) (hin:inb (0:Int) ks.length=true)
    (hL2:iterW (qM ((r,(s,())),(nsg,())) n g) ((getD' ks 0 0,(0:Int),()),())=some ((c,()),())) (hs:self ((r,(s,())),(),nsg,c,false,())=some ((r,(s',())),ns',out)) :
    qx self (r,(s,())) ns n first=some ((r,(s',())),(ns2,out)):=by
  obtain⟨r1,r2,r3,r4,r5,r6,r7,r8,r9,r10,r11,⟨⟩⟩:=r;obtain⟨p1,⟨p2,p3,⟨⟩⟩,⟨p4,p5,⟨⟩⟩⟩:=p
  have hi:imp (!first) true=true:=by cases first<;>rfl
  have e0:((0:Int)!=0)=false:=rfl;unfold qx;simp only[hn0,hi,qg,hp,hres,Option.bind_some,e0,cond_false,h0,hg,hL1,Sum.elim_inl,hpg,hroot,hk,hin,hL2,hs,ht1,ht2,ht3,htA,htB];rw[ql3];simp only at ht4;rw[ht4]
end
def updM (out:Int) (n:WN):WN:=⟨n.p,n.ks,n.v+1,n.s+(if out=2-n.p.2.2.1 then 2 else if out=3∨out=0 then 1 else 0)⟩
def stopB (r:Rules) (M:List WN) (i:Nat) (first:Bool):Bool:=(ql r (nd M i).p !=0)||(!first&&((nd M i).v==0))
def stepM (r:Rules) (seed:Int):Nat→List WN→Nat→Bool→Nat→List WN×Nat×Int
  | 0,M,i,_,k=>(M,k,0)
  | f+1,M,i,first,k =>
    let g:=if stopB r M i first=true then(M,(gm r seed 200 (nd M i).p k).2,ql r (gm r seed 200 (nd M i).p k).1) else stepM r seed f (growM r M i) (qw (growM r M i) i) false k
    (g.1.set i (updM g.2.2 (nd g.1 i)),g.2.1,g.2.2)
def FC (f:Nat) (M:List WN) (i:Nat) (first:Bool):Prop:=1≤f∧((first=false∧(nd M i).v=0)∨(M.length+1≤f+i∧M.length≤50000000))
theorem qeL {r:Rules} {M:List WN} {i:Nat} {first:Bool} (h:¬stopB r M i first=true):ql r (nd M i).p=0∧(!first&&((nd M i).v==0))=false:=by
  unfold stopB at h;simp only[Bool.or_eq_true,bne_iff_ne,not_or,Decidable.not_not,Bool.not_eq_true] at h;exact h
theorem qaC {r:Rules} {B:Nat} {M:List WN} (h:Gd r B M) {i:Nat} (hi:i<M.length) {first:Bool} {f:Nat} (hf:FC (f+1) M i first) (hs:¬stopB r M i first=true) :
    i<qw (growM r M i) i∧qw (growM r M i) i<(growM r M i).length∧FC f (growM r M i) (qw (growM r M i) i) false∧M.length≤50000000∧((growM r M i).length≤M.length∨(nd (growM r M i) (qw (growM r M i) i)).v=0):=by
  obtain⟨h0,h1⟩:=qeL hs;have hg:=h.grow hi h0;have hl:=(qeu r (h.val i hi)).1;have hc:=qqV (qkz hi (h.val i hi) h0);obtain⟨k1,k2⟩:=hg.kid i (by omega) _ hc;have hF:M.length+1≤f+1+i∧M.length≤50000000:=by
    rcases hf.2 with ⟨e1,e2⟩ | h
    · rw[e1,e2] at h1;cases h1
    · exact h
  refine⟨k1,k2,⟨by omega,?_⟩,hF.2,?_⟩
  all_goals
    by_cases hk:(nd M i).ks=[]
    · have e:growM r M i=gpart r M i (qe r (nd M i).p).length:=if_pos hk;rw[e] at hc k2 ⊢;rw[qbX r hi] at hc;have hm:=mem_kidsFrom.1 hc;obtain⟨m,_,e2⟩:=qa9 r (i:=i) hm.1 k2
      first
        | exact .inl ⟨rfl,by rw[e2];rfl⟩
        | exact .inr (by rw[e2];rfl)
    · have e:growM r M i=M:=if_neg hk;rw[e] at k1 k2 ⊢
      first
        | exact .inr ⟨by omega,hF.2⟩
        | exact .inl (Nat.le_refl _)
theorem Gd.mono {r:Rules} {B B':Nat} {M:List WN} (h:Gd r B M) (hB:B≤B'):Gd r B' M:=⟨h.val,h.kid,h.kl,fun j hj=>Nat.le_trans (h.v j hj) hB,fun j hj=>Nat.le_trans (h.s j hj) (by omega)⟩
theorem Gd.upd {r:Rules} {B:Nat} {M:List WN} (h:Gd r (B+1) M) {i:Nat} (hi:i<M.length) (out:Int) (h1:(nd M i).v≤B) (h2:(nd M i).s≤2*B):Gd r (B+1) (M.set i (updM out (nd M i))):=by
  have key:∀j<(M.set i (updM out (nd M i))).length,(j=i∧nd (M.set i (updM out (nd M i))) j=updM out (nd M i))∨(j<M.length∧nd (M.set i (updM out (nd M i))) j=nd M j):=fun j hj=>by
    rw[List.length_set] at hj;by_cases e:i=j
    · subst e;exact .inl ⟨rfl,qed hi _⟩
    · exact .inr ⟨hj,qcB e _⟩
  refine⟨fun j hj=>?_,fun j hj k hk=>?_,fun j hj=>?_,fun j hj=>?_,fun j hj=>?_⟩
  · rcases key j hj with ⟨rfl,e⟩ | ⟨g,e⟩
    · rw[e];exact h.val j hi
    · rw[e];exact h.val j g
  · rw[List.length_set];rcases key j hj with ⟨rfl,e⟩ | ⟨g,e⟩
    · rw[e] at hk;exact h.kid j hi k hk
    · rw[e] at hk;exact h.kid j g k hk
  · rcases key j hj with ⟨rfl,e⟩ | ⟨g,e⟩
    · rw[e];exact h.kl j hi
    · rw[e];exact h.kl j g
  · rcases key j hj with ⟨rfl,e⟩ | ⟨g,e⟩
    · rw[e];show(nd M j).v+1≤B+1;omega
    · rw[e];exact h.v j g
  · rcases key j hj with ⟨rfl,e⟩ | ⟨g,e⟩
    · rw[e];show(nd M j).s+_≤_;split
      · omega
      · split<;>omega
    · rw[e];exact h.s j g
structure StepOK (r:Rules) (B:Nat) (M:List WN) (i k:Nat) (x:List WN×Nat×Int):Prop where
  l1:M.length≤x.1.length
  l2:x.1.length≤M.length+100000
  lt:∀j<i,nd x.1 j=nd M j
  gd:Gd r (B+1) x.1
  k2:x.2.1≤k+200
theorem qmw {r:Rules} (seed:Int) {B:Nat}:∀(f:Nat) (M:List WN) (i:Nat) (first:Bool) (k:Nat),Gd r B M→i<M.length→FC f M i first→StepOK r B M i k (stepM r seed f M i first k):=by
  intro f
  induction f with
  | zero=>intro M i first k h hi hf;exact absurd hf.1 (by omega)
  | succ f ih =>
    intro M i first k h hi hf;unfold stepM;by_cases hs:stopB r M i first=true
    · simp only[if_pos hs];have hk:=gm_k r seed 200 (nd M i).p k;exact⟨by simp,by simp,fun j hj=>qcB (by omega) _,(h.mono (Nat.le_succ B)).upd hi _ (h.v i hi) (h.s i hi),hk⟩
    · simp only[if_neg hs];obtain⟨h0,h1⟩:=qeL hs;obtain⟨c1,c2,c3,c4,c5⟩:=qaC h hi hf hs;have hgd:=h.grow hi h0;have hl:=qeu r (h.val i hi);have o:=ih (growM r M i) (qw (growM r M i) i) false k hgd c2 c3;have l2:(stepM r seed f (growM r M i) (qw (growM r M i) i) false k).1.length≤M.length+100000:=by
        rcases c5 with e | e
        · have:=o.l2;omega
        · cases f with
          | zero=>exact absurd c3.1 (by omega)
          | succ f =>
            have hst:stopB r (growM r M i) (qw (growM r M i) i) false=true:=by unfold stopB;rw[e];simp
            unfold stepM;simp only[if_pos hst,List.length_set];exact hl.2
      obtain⟨ks,ei⟩:=qjs r hi;have hlt:=o.lt i c1;rw[ei] at hlt
      have hii:i<(stepM r seed f (growM r M i) (qw (growM r M i) i) false k).1.length:=by have:=o.l1;omega
      refine⟨by rw[List.length_set];have:=o.l1;omega,by rw[List.length_set];exact l2,fun j hj=>?_,o.gd.upd hii _ (by rw[hlt];exact h.v i hi) (by rw[hlt];exact h.s i hi),o.k2⟩;rw[qcB (by omega),o.lt j (by omega),qll r (by omega) (by omega)]
end Go.Proofs.Ytcifaoaepbidoaa
namespace Go.Proofs.Ytcifaoaepbidoaa
open Go.Den
set_option linter.unusedVariables false
set_option linter.unusedSimpArgs false
set_option linter.unusedSectionVars false
set_option maxRecDepth 100000

theorem qkZ {r:Rules} {G:List WN} {i:Nat} (hi:i<G.length) (hv:Valid r (nd G i).p) (h1:(nd G i).v≤1000) (h2:(nd G i).s≤2000) (out:Int):∃ns1 nsA nsB:ArW,
    ndP (G.map wP) dWn (i+1)=((nd G i).p,(((nd G i).v:Int),(((nd G i).s:Int),())))∧setP (G.map wP) dWn (i+1) ((nd G i).p,(w64 (((nd G i).v:Int)+1),(((nd G i).s:Int),())))=ns1 ∧
    ndP ns1 dWn (i+1)=((nd G i).p,(w64 (((nd G i).v:Int)+1),(((nd G i).s:Int),())))∧setP ns1 dWn (i+1) ((nd G i).p,(w64 (((nd G i).v:Int)+1),(w64 (((nd G i).s:Int)+2),())))=nsA ∧
    setP ns1 dWn (i+1) ((nd G i).p,(w64 (((nd G i).v:Int)+1),(w64 (((nd G i).s:Int)+1),())))=nsB ∧
    (bif out==w64 (2-(nd G i).p.2.2.1) then nsA else bif (out==3||out==0) then nsB else ns1)=(G.set i (updM out (nd G i))).map wP:=by
  have w1:w64 (((nd G i).v:Int)+1)=(((nd G i).v+1:Nat):Int):=by rw[qc (by omega) (by omega)];omega
  have w2:w64 (((nd G i).s:Int)+2)=(((nd G i).s+2:Nat):Int):=by rw[qc (by omega) (by omega)];omega
  have w3:w64 (((nd G i).s:Int)+1)=(((nd G i).s+1:Nat):Int):=by rw[qc (by omega) (by omega)];omega
  have ht:=hv.turn;have w4:w64 (2-(nd G i).p.2.2.1)=2-(nd G i).p.2.2.1:=by
    rcases ht with ht | ht
    · rw[show(nd G i).p.2.2.1=0 from ht];rfl
    · rw[show(nd G i).p.2.2.1=1 from ht];rfl
  rw[w1,w2,w3,w4];have e1:setP (G.map wP) dWn (i+1) ((nd G i).p,((((nd G i).v+1:Nat):Int),(((nd G i).s:Int),())))=(G.set i ⟨(nd G i).p,(nd G i).ks,(nd G i).v+1,(nd G i).s⟩).map wP:=setP_w hi _ _ rfl rfl
  have hi':i<(G.set i ⟨(nd G i).p,(nd G i).ks,(nd G i).v+1,(nd G i).s⟩).length:=by simpa using hi
  have e2:∀s:Nat,setP ((G.set i ⟨(nd G i).p,(nd G i).ks,(nd G i).v+1,(nd G i).s⟩).map wP) dWn (i+1) ((nd G i).p,((((nd G i).v+1:Nat):Int),((s:Int),())))=(G.set i ⟨(nd G i).p,(nd G i).ks,(nd G i).v+1,s⟩).map wP:=fun s=>by
    refine(setP_w hi' _ ⟨(nd G i).p,(nd G i).ks,(nd G i).v+1,s⟩ (by rw[qed hi]) rfl).trans ?_;rw[List.set_set]
  refine⟨_,_,_,ndP_w hi,e1,?_,e2 _,e2 _,?_⟩
  · rw[ndP_w hi',qed hi];rfl
  · unfold updM;by_cases c1:out=2-(nd G i).p.2.2.1
    · rw[show(out==2-(nd G i).p.2.2.1)=true from beq_iff_eq.2 c1,cond_true,if_pos c1]
    · rw[show(out==2-(nd G i).p.2.2.1)=false from beq_eq_false_iff_ne.2 c1,cond_false,if_neg c1];by_cases c2:out=3∨out=0
      · rw[show(out==3||out==0)=true by simpa using c2,cond_true,if_pos c2]
      · rw[show(out==3||out==0)=false by simpa using c2,cond_false,if_neg c2];rfl
def Rst (r:Rules) (seed:Int) (f:Nat) (x:(Rules×(Int×Int×Unit)×Unit)×Unit×ArW×Nat×Bool×Unit) (y:(Rules×(Int×Int×Unit)×Unit)×ArW×Int):Prop :=
  ∃(M:List WN) (i:Nat) (first:Bool) (k B:Nat),Gd r B M∧B≤400∧i<M.length∧FC f M i first∧M.length≤50100000∧k+200≤1000000 ∧
    x=((r,((seed,((k:Int),())),())),(),M.map wP,i+1,first,()) ∧
    y=((r,((seed,(((stepM r seed f M i first k).2.1:Int),())),())),(stepM r seed f M i first k).1.map wP,(stepM r seed f M i first k).2.2)
theorem step_fix {r:Rules} {seed:Int} (hs:0≤seed∧seed≤100000000):∀f x y,Rst r seed f x y→fixW qR x=some y:=by
  refine fixW_rel qf1 (Rst r seed) fun f φ x y hR hφ=>?_;obtain⟨M,i,first,k,B,hG,hB,hi,hf,hL,hk,rfl,rfl⟩:=hR;show qx φ (r,((seed,((k:Int),())),())) (M.map wP) (i+1) first=_;have hv:=hG.val i hi;have b1:=hG.v i hi;have b2:=hG.s i hi
  cases f with
  | zero=>exact absurd hf.1 (by omega)
  | succ f =>
    unfold stepM;by_cases hst:stopB r M i first=true
    · simp only[if_pos hst];obtain⟨ns1,nsA,nsB,t1,t2,t3,t4,t5,t6⟩:=qkZ hi hv (by omega) (by omega) (ql r (gm r seed 200 (nd M i).p k).1);by_cases h0:ql r (nd M i).p=0
      · have hz:(!first&&((((nd M i).v:Nat):Int)==0))=true:=by
          unfold stopB at hst;rw[h0] at hst;simp only[bne_self_eq_false,Bool.false_or,Bool.and_eq_true] at hst;rw[hst.1]
          have:(nd M i).v=0:=by simpa using hst.2
          rw[this];rfl
        exact stepF_B φ r (seed,((k:Int),())) (seed,(((gm r seed 200 (nd M i).p k).2:Int),())) (M.map wP) (M.map wP) ns1 nsA nsB _ (i+1) first _ _ _ _ _ _ (by simp) t1 t1 t2 t3 t4 t5 t6 (by rw[qbA hv,h0]) hz (qoO hs hv hk) rfl
      · rw[gm_neg h0] at t6 ⊢;exact stepF_A φ r (seed,((k:Int),())) _ (M.map wP) (M.map wP) ns1 nsA nsB _ (i+1) first _ _ _ _ _ _ (by simp) t1 t1 t2 t3 t4 t5 t6 (qbA hv) (by simpa using h0) rfl rfl
    · simp only[if_neg hst];obtain⟨h0,h1⟩:=qeL hst;obtain⟨c1,c2,c3,c4,c5⟩:=qaC hG hi hf hst;have hgd:=hG.grow hi h0;have hl:=qeu r hv
      have hii:i<(growM r M i).length:=by omega
      have hself:φ ((r,((seed,((k:Int),())),())),(),(growM r M i).map wP,qw (growM r M i) i+1,false,())=some _:=hφ f _ _ (Nat.lt_succ_self f) ⟨growM r M i,qw (growM r M i) i,false,k,B,hgd,hB,c2,c3,by omega,hk,rfl,rfl⟩;have ok:=qmw seed f (growM r M i) (qw (growM r M i) i) false k hgd c2 c3
      have hig:i<(stepM r seed f (growM r M i) (qw (growM r M i) i) false k).1.length:=by have:=ok.l1;omega
      obtain⟨ks,ei⟩:=qjs r hi;have hlt:=ok.lt i c1;rw[ei] at hlt;obtain⟨ns1,nsA,nsB,t1,t2,t3,t4,t5,t6⟩:=qkZ (r:=r) hig (ok.gd.val i hig) (by have:=ok.gd.v i hig;omega) (by have:=ok.gd.s i hig;omega) (stepM r seed f (growM r M i) (qw (growM r M i) i) false k).2.2
      have ep:(nd (stepM r seed f (growM r M i) (qw (growM r M i) i) false k).1 i).p=(nd M i).p:=by rw[hlt]
      rw[ep] at t1 t2 t3 t4 t5 t6;have hz:(!first&&((((nd M i).v:Nat):Int)==0))=false:=by
        cases first with
        | true=>rfl
        | false =>
          have:¬(nd M i).v=0:=by simpa using h1
          simp;omega
      have hgr:=qk5 (M:=M) hi hv h0 (by omega) (seed,((k:Int),()));have hkl:=hgd.kl i hii;have hkne:=qkz hi hv h0
      cases hzk:zeroK (growM r M i) (nd (growM r M i) i).ks with
      | some c =>
        have ec:qw (growM r M i) i=c:=by unfold qw;rw[hzk]
        rw[ec] at hself t1 t2 t3 t4 t5 t6 ⊢;exact stepF_C φ r (seed,((k:Int),())) _ (M.map wP) _ ns1 nsA nsB _ (i+1) first _ _ _ _ _ _ (by simp) (ndP_w hi) t1 t2 t3 t4 t5 t6 ((growM r M i).map wP) (by rw[qbA hv,h0]) hz hgr
          (L1_some hgd hii (seed,((k:Int),())) _ φ _ _ hself _ 0 (Nat.zero_add _) hkl (by rw[List.drop_zero];exact hzk))
      | none =>
        have ec:qw (growM r M i) i=(nd (growM r M i) i).ks.foldl (betM (growM r M i) (rootN (100*(nd (growM r M i) i).v))) ((nd (growM r M i) i).ks.headD 0):=by unfold qw;rw[hzk]
        have hv1:=hgd.v i hii;have hrl:=qqg (100*(nd (growM r M i) i).v)
        have hw:w64 (100*(((nd (growM r M i) i).v:Nat):Int))=((100*(nd (growM r M i) i).v:Nat):Int):=by rw[qc (by omega) (by omega)];omega
        have hlen:0<(nd (growM r M i) i).ks.length:=List.length_pos_iff.2 hkne;have hhd:(nd (growM r M i) i).ks.headD 0<(growM r M i).length:=by
          cases hks:(nd (growM r M i) i).ks with
          | nil=>exact absurd hks hkne
          | cons a l=>exact(hgd.kid i hii a (by rw[hks];exact List.mem_cons_self)).2
        have hg0:getD' ((nd (growM r M i) i).ks.map (· + 1)) 0 0=(nd (growM r M i) i).ks.headD 0+1:=by
          cases hks:(nd (growM r M i) i).ks with
          | nil=>exact absurd hks hkne
          | cons a l=>rfl
        have hL2:=L2_loop hgd (by omega) hii (seed,((k:Int),())) (g:=rootN (100*(nd (growM r M i) i).v)) (by omega) _ 0 (Nat.zero_add _) hkl _ hhd;rw[List.drop_zero,←ec,←hg0] at hL2;exact stepF_D φ r (seed,((k:Int),())) _ (M.map wP) _ ns1 nsA nsB _ (i+1) first _ _ _ _ _ _ (by simp) (ndP_w hi) t1 t2 t3 t4 t5 t6 ((growM r M i).map wP) _ _ _ _ _ _ (by rw[qbA hv,h0]) hz hgr
          (L1_none hgd hii (seed,((k:Int),())) φ hzk _ 0 (Nat.zero_add _) hkl) (ndP_w hii) (by rw[hw];exact root_spec (by omega)) (kdP_w hii) (by rw[List.length_map];exact qaj _ 0 hlen) hL2 hself
theorem qq4 {r:Rules} {seed:Int} (hs:0≤seed∧seed≤100000000) {M:List WN} {B k:Nat} (hG:Gd r B M) (hB:B≤400) (h0:0<M.length) (hL:M.length≤50000000) (hk:k+200≤1000000) :
    qdn (r,((seed,((k:Int),())),())) (M.map wP) 1 true=some ((r,((seed,(((stepM r seed (M.length+1) M 0 true k).2.1:Int),())),())),(stepM r seed (M.length+1) M 0 true k).1.map wP,(stepM r seed (M.length+1) M 0 true k).2.2) :=
  step_fix hs (M.length+1) _ _ ⟨M,0,true,k,B,hG,hB,h0,⟨by omega,.inr ⟨by omega,hL⟩⟩,by omega,hk,rfl,rfl⟩

theorem rch_root (n:Sn):qbu n=qbC (w64 (100*n.2.2.1)):=rfl
section
variable (r : Rules) (seed k : Int) (xs : List Sn) (n : Sn) (b best j c : Int) (p p' : Place) (kk kk' : List Int) (v s w t : Int) (f f' : Bool)
theorem rch_end (hj:decide (j<((n.2.1.length:Nat):Int))=false):qr n (r,(seed,(k,(xs,())))) ((b,()),()) ((best,j,()),())=some (.inr (.inl ((best,()),()))):=by
  unfold qr;simp only[hj,cond_false]
variable (hj : decide (j < ((n.2.1.length : Nat) : Int)) = true) (hc : at? n.2.1 j = some c) (hn : at? xs c = some ((p, ()), (kk, (v, (s, (f, ()))))))
include hj hc hn
theorem rch_zero (hv:(v==0)=true):qr n (r,(seed,(k,(xs,())))) ((b,()),()) ((best,j,()),())=some (.inr (.inr c)):=by
  unfold qr;simp only[hj,cond_true,hc,Option.bind_some,hn,hv]
theorem qnc (hv:(v==0)=false) (hb:decide (best≥0)=false):qr n (r,(seed,(k,(xs,())))) ((b,()),()) ((best,j,()),())=some (.inl ((c,w64 (j+1),()),())):=by
  unfold qr;simp only[hj,cond_true,hc,Option.bind_some,hn,hv,cond_false,hb];rfl
theorem qpu (hv:(v==0)=false) (hb:decide (best≥0)=true) (ho:at? xs best=some ((p',()),(kk',(w,(t,(f',())))))) :
    qr n (r,(seed,(k,(xs,())))) ((b,()),()) ((best,j,()),())=some (.inl (((bif decide (w64 (w64 (w64 (10*s)+b)*w)≤w64 (w64 (w64 (10*t)+b)*v)) then best else c),w64 (j+1),()),())):=by
  unfold qr;simp only[hj,cond_true,hc,Option.bind_some,hn,hv,cond_false,hb,ho]
  cases decide (w64 (w64 (w64 (10*s)+b)*w)≤w64 (w64 (w64 (10*t)+b)*v))<;>rfl
end
theorem at_nat {A:Type} (l:List A) {j:Nat} (h:j<l.length):at? l (j:Int)=some l[j]:=by
  unfold at?;rw[show decide (0≤(j:Int))=true from decide_eq_true (by omega),cond_true,Int.toNat_natCast,List.getElem?_eq_getElem h]
section
variable {r : Rules} {B : Nat} {M : List WN} (h : Gd r B M) (hB : B ≤ 500) {i : Nat} (hi : i < M.length) (seed k : Int) {g : Nat} (hg : g ≤ 100000)
include h hi
theorem wR_v (j:Nat) (hj:j<M.length):at? (M.map wR) (j:Int)=some (((nd M j).p,()),((nd M j).ks.map (fun k:Nat=>(k:Int)),(((nd M j).v:Int),(((nd M j).s:Int),(!(nd M j).ks.isEmpty,()))))):=atR hj
theorem qjE {j:Nat} (hj:j<(nd M i).ks.length):at? (wR (nd M i)).2.1 (j:Int)=some (((nd M i).ks[j]:Nat):Int):=by
  have:at? ((nd M i).ks.map (fun k:Nat=>(k:Int))) (j:Int)=_:=at_nat _ (by simpa using hj);rw[List.getElem_map] at this;exact this
theorem qki {j:Nat} (hj:j<(nd M i).ks.length):decide ((j:Int)<(((wR (nd M i)).2.1.length:Nat):Int))=true:=by
  have:(wR (nd M i)).2.1.length=(nd M i).ks.length:=List.length_map _;rw[this];exact decide_eq_true (by omega)
theorem rkid_end:decide ((((nd M i).ks.length:Nat):Int)<(((wR (nd M i)).2.1.length:Nat):Int))=false:=by
  have:(wR (nd M i)).2.1.length=(nd M i).ks.length:=List.length_map _;rw[this];exact decide_eq_false (by omega)
theorem rL2_some {c:Nat} (hB:B≤500) (hg:g≤100000):∀(m j:Nat) (best:Int),j+m=(nd M i).ks.length→(nd M i).ks.length≤100000→zeroK M ((nd M i).ks.drop j)=some c→(best = -1∨∃b,best=((b:Nat):Int)∧b<M.length) →
    iterW (qr (wR (nd M i)) (r,(seed,(k,(M.map wR,())))) (((g:Int),()),())) ((best,(j:Int),()),())=some (.inr (c:Int)):=by
  intro m
  induction m with
  | zero =>
    intro j best hj hL hz _;rw[List.drop_eq_nil_of_le (by omega)] at hz;cases hz
  | succ m ih =>
    intro j best hj hL hz hbest
    have hj':j<(nd M i).ks.length:=by omega
    have hk:=qlt h hi hj';rw[List.drop_eq_getElem_cons hj'] at hz;unfold zeroK at hz;rw[List.find?_cons] at hz
    cases hv:((nd M (nd M i).ks[j]).v==0) with
    | true =>
      rw[hv] at hz
      have hc:(nd M i).ks[j]=c:=by simpa using hz
      refine qj ?_
      rw[rch_zero r seed k (M.map wR) _ _ best (j:Int) _ _ _ _ _ _ (qki h hi hj') (qjE h hi hj') (wR_v h hi _ hk.2) (by
        have:(nd M (nd M i).ks[j]).v=0:=by simpa using hv
        rw[this];rfl),hc]
    | false =>
      rw[hv] at hz;have hv':(((nd M (nd M i).ks[j]).v:Int)==0)=false:=by
        have:¬(nd M (nd M i).ks[j]).v=0:=by simpa using hv
        simp;omega
      have e:∃b:Nat,b<M.length∧qr (wR (nd M i)) (r,(seed,(k,(M.map wR,())))) (((g:Int),()),()) ((best,(j:Int),()),())=some (.inl (((b:Int),((j+1:Nat):Int),()),())):=by
        have hw:w64 ((j:Int)+1)=((j+1:Nat):Int):=by rw[qc (by omega) (by omega)];omega
        rcases hbest with rfl | ⟨b,rfl,hb⟩
        · refine⟨_,hk.2,?_⟩;rw[qnc r seed k (M.map wR) _ _ (-1) (j:Int) _ _ _ _ _ _ (qki h hi hj') (qjE h hi hj') (wR_v h hi _ hk.2) hv' rfl,hw]
        · rw[qpu r seed k (M.map wR) _ _ (b:Int) (j:Int) _ _ _ _ _ _ _ _ _ _ _ (qki h hi hj') (qjE h hi hj') (wR_v h hi _ hk.2) hv' (decide_eq_true (by omega)) (wR_v h hi _ hb),hw]
          cases decide (w64 (w64 (w64 (10*((nd M (nd M i).ks[j]).s:Int))+(g:Int))*((nd M b).v:Int))≤w64 (w64 (w64 (10*((nd M b).s:Int))+(g:Int))*((nd M (nd M i).ks[j]).v:Int))) with
          | true=>exact⟨b,hb,rfl⟩
          | false=>exact⟨_,hk.2,rfl⟩
      obtain⟨b,hb,e⟩:=e;rw[qm e];exact ih (j+1) _ (by omega) hL hz (.inr ⟨b,rfl,hb⟩)
theorem rL2_loop (hB:B≤500) (hg:g≤100000):∀(m j b:Nat),j+m=(nd M i).ks.length→(nd M i).ks.length≤100000→zeroK M (nd M i).ks=none→b<M.length →
    iterW (qr (wR (nd M i)) (r,(seed,(k,(M.map wR,())))) (((g:Int),()),())) (((b:Int),(j:Int),()),())=some (.inl (((((nd M i).ks.drop j).foldl (betM M g) b:Nat),()),())):=by
  intro m
  induction m with
  | zero =>
    intro j b hj hL hz hb
    obtain rfl:j=(nd M i).ks.length:=by omega
    rw[List.drop_eq_nil_of_le (by omega)];exact qj (rch_end r seed k _ _ _ _ _ (rkid_end h hi))
  | succ m ih =>
    intro j b hj hL hz hb
    have hj':j<(nd M i).ks.length:=by omega
    have hk:=qlt h hi hj';have hv:¬(nd M (nd M i).ks[j]).v=0:=by
      have:=List.find?_eq_none.1 hz _ (List.getElem_mem hj');simpa using this
    have hv':(((nd M (nd M i).ks[j]).v:Int)==0)=false:=by simp;omega
    have v1:=h.v b hb;have v2:=h.s b hb;have v3:=h.v _ hk.2;have v4:=h.s _ hk.2
    have hw:w64 ((j:Int)+1)=((j+1:Nat):Int):=by rw[qc (by omega) (by omega)];omega
    have e:=qpu r seed k (M.map wR) _ (g:Int) (b:Int) (j:Int) _ _ _ _ _ _ _ _ _ _ _ (qki h hi hj') (qjE h hi hj') (wR_v h hi _ hk.2) hv' (decide_eq_true (by omega)) (wR_v h hi _ hb);rw[qlV (by omega) hg (by omega),qlV (by omega) hg (by omega),hw] at e;have e2:(bif decide ((((10*(nd M (nd M i).ks[j]).s+g)*(nd M b).v:Nat):Int)≤(((10*(nd M b).s+g)*(nd M (nd M i).ks[j]).v:Nat):Int)) then((b:Nat):Int) else(((nd M i).ks[j]:Nat):Int))=((betM M g b (nd M i).ks[j]:Nat):Int):=by
      unfold betM;by_cases hc:(10*(nd M (nd M i).ks[j]).s+g)*(nd M b).v>(10*(nd M b).s+g)*(nd M (nd M i).ks[j]).v
      · rw[if_pos hc,show decide _=false from decide_eq_false (fun hh=>by have:=Int.ofNat_le.1 hh;omega),cond_false]
      · rw[if_neg hc,show decide _=true from decide_eq_true (Int.ofNat_le.2 (by omega)),cond_true]
    rw[e2] at e;rw[qm e,List.drop_eq_getElem_cons hj',List.foldl_cons];exact ih (j+1) _ (by omega) hL hz (by unfold betM;split;exact hk.2;exact hb)
theorem bet_self (b c:Nat):betM M b c c=c:=by unfold betM;split<;>rfl
theorem qiz (hB:B≤500) (hne:(nd M i).ks≠[]) (hL:(nd M i).ks.length≤100000):qao (r,(seed,(k,(M.map wR,())))) (wR (nd M i))=some ((qw M i:Nat):Int):=by
  have hv1:=h.v i hi;have hrl:=qqg (100*(nd M i).v)
  have hw:w64 (100*(((nd M i).v:Nat):Int))=((100*(nd M i).v:Nat):Int):=by rw[qc (by omega) (by omega)];omega
  have hr:iterW (qbu (wR (nd M i))) (((0:Int),()),())=some (((rootN (100*(nd M i).v):Int),()),()):=by
    rw[rch_root];show iterW (qbC (w64 (100*(((nd M i).v:Nat):Int)))) (((0:Int),()),())=_;rw[hw];exact qnh (by omega) _ 0 (Nat.zero_le _) (by omega)
  unfold qao;rw[hr,Option.bind_some]
  cases hzk:zeroK M (nd M i).ks with
  | some c =>
    have ec:qw M i=c:=by unfold qw;rw[hzk]
    have:=rL2_some h hi seed k (g:=rootN (100*(nd M i).v)) hB (by omega) _ 0 (-1) (Nat.zero_add _) hL (by rw[List.drop_zero];exact hzk) (.inl rfl);refine(congrArg (fun o=>Option.bind o _) this).trans ?_;rw[ec];rfl
  | none =>
    have ec:qw M i=(nd M i).ks.foldl (betM M (rootN (100*(nd M i).v))) ((nd M i).ks.headD 0):=by unfold qw;rw[hzk]
    have hlen:0<(nd M i).ks.length:=List.length_pos_iff.2 hne;have hk:=qlt h hi hlen;have hv:¬(nd M (nd M i).ks[0]).v=0:=by
      have:=List.find?_eq_none.1 hzk _ (List.getElem_mem hlen);simpa using this
    have e:=qnc r seed k (M.map wR) _ ((rootN (100*(nd M i).v):Nat):Int) (-1) (0:Nat) _ _ _ _ _ _ (qki h hi hlen) (qjE h hi hlen) (wR_v h hi _ hk.2) (by simp;omega) rfl;have:=rL2_loop h hi seed k (g:=rootN (100*(nd M i).v)) hB (by omega) _ 1 (nd M i).ks[0] (Nat.add_sub_cancel' hlen) hL hzk hk.2;have e3:((nd M i).ks.drop 1).foldl (betM M (rootN (100*(nd M i).v))) (nd M i).ks[0]=qw M i:=by
      rw[ec];have key:∀(l:List Nat) (hl:0<l.length),(l.drop 1).foldl (betM M (rootN (100*(nd M i).v))) l[0]=l.foldl (betM M (rootN (100*(nd M i).v))) (l.headD 0):=by
        intro l hl
        cases l with
        | nil=>simp at hl
        | cons a l =>
          simp only[List.drop_succ_cons,List.drop_zero,List.headD_cons,List.foldl_cons,List.getElem_cons_zero];rw[bet_self h hi]
      exact key _ hlen
    rw[e3] at this;refine(congrArg (fun o=>Option.bind o _) ((qm e).trans this)).trans ?_;rfl
end
end Go.Proofs.Ytcifaoaepbidoaa
namespace Go.Proofs.Ytcifaoaepbidoaa
open Go.Den
set_option linter.unusedVariables false
set_option linter.unusedSimpArgs false
set_option linter.unusedSectionVars false
set_option maxRecDepth 100000

def flBh (r:Rules) (seed:Int) (k:Nat) (xs:List Sn) (hk:Nat) (y:Option (List Int)):=(r.1,(r.2.1,(r.2.2.1,(r.2.2.2.1,(r.2.2.2.2.1,(r.2.2.2.2.2.1,(r.2.2.2.2.2.2.1,(r.2.2.2.2.2.2.2.1,(r.2.2.2.2.2.2.2.2.1,(r.2.2.2.2.2.2.2.2.2.1,(r.2.2.2.2.2.2.2.2.2.2.1,(seed,((k:Int),((xs,(hk,y)),()))))))))))))))
def newS (q:Place):Sn:=((q,()),([],((0:Int),((0:Int),(false,())))))
theorem L3_step (r:Rules) (seed:Int) (k:Nat) (xs0 xs:List Sn) (pt:List Int) (hk:Nat) (y:Option (List Int)) (j l:Int) (ms:List Mv) (p q:Place) (kk:List Int) (v s:Int) (f:Bool) (hj:decide (j<((ms.length:Nat):Int))=true) (hin:inb j ms.length=true)
    (hl:getD' pt (w64 (((pt.length:Nat):Int)-1)).toNat 0=l) (hlin:inb l xs.length=true) (hb:Nat.beq l.toNat hk=true) (hroom:room ((y.getD []).length+[((xs.length:Nat):Int)].length) 8=true)
    (hp:getD' xs0 l.toNat dSn=((p,()),(kk,(v,(s,(f,())))))) (ha:qbe r p (getD' ms j.toNat ((0:Int),((0:Int),((0:Int),()))))=some q) (hroom2:room (xs.length+[newS q].length) 136=true) :
    qJ ms ((pt,()),(flB r seed k xs0,())) ((j,()),(flBh r seed k xs hk y,()))=some (.inl ((w64 (j+1),()),(flBh r seed k (xs++[newS q]) hk (some (y.getD []++[((xs.length:Nat):Int)])),()))):=by
  obtain⟨r1,r2,r3,r4,r5,r6,r7,r8,r9,r10,r11,⟨⟩⟩:=r;obtain⟨p1,⟨p2,p3,⟨⟩⟩,⟨p4,p5,⟨⟩⟩⟩:=p;obtain⟨q1,⟨q2,q3,⟨⟩⟩,⟨q4,q5,⟨⟩⟩⟩:=q;unfold qJ;simp only[newS] at hroom2 ⊢;simp only[flB,flBh,hj,cond_true,hin,qg,hl,hlin,hb,hroom,hp,ha,agree_self,Option.bind_some,hroom2]
theorem L3_end (r:Rules) (seed:Int) (k:Nat) (xs0 xs:List Sn) (pt:List Int) (hk:Nat) (y:Option (List Int)) (j:Int) (ms:List Mv) (hj:decide (j<((ms.length:Nat):Int))=false) :
    qJ ms ((pt,()),(flB r seed k xs0,())) ((j,()),(flBh r seed k xs hk y,()))=some (.inr ((),(flBh r seed k xs hk y,()))):=by
  obtain⟨r1,r2,r3,r4,r5,r6,r7,r8,r9,r10,r11,⟨⟩⟩:=r;unfold qJ;simp only[flB,flBh,hj,cond_false]
theorem L2u_step (r:Rules) (seed:Int) (k k':Nat) (xs0 xs ys yA yB:List Sn) (pt:List Int) (out j l:Int) (p:Place) (kk:List Int) (v s:Int) (f:Bool) (bx:(Rules×Int×Int×(List Sn×Unit)×Unit)) (hj:decide (j<((pt.length:Nat):Int))=true) (hin:inb j pt.length=true)
    (hl:getD' pt j.toNat 0=l) (hlin:inb l xs.length=true) (hp:getD' xs l.toNat dSn=((p,()),(kk,(v,(s,(f,())))))) (hy:xs.set l.toNat ((p,()),(kk,(w64 (v+1),(s,(f,())))))=ys) (hlin2:inb l ys.length=true)
    (hp2:getD' ys l.toNat dSn=((p,()),(kk,(w64 (v+1),(s,(f,())))))) (hA:ys.set l.toNat ((p,()),(kk,(w64 (v+1),(w64 (s+2),(f,())))))=yA) (hB:ys.set l.toNat ((p,()),(kk,(w64 (v+1),(w64 (s+1),(f,())))))=yB) :
    qL ((pt,()),(flB r seed k xs0,())) (bx,out) ((j,()),(flB r seed k' xs,()))=some (.inl ((w64 (j+1),()),(flB r seed k' (bif out==w64 (1+w64 (1-p.2.2.1)) then yA else bif (out==0||out==3) then yB else ys),()))):=by
  obtain⟨r1,r2,r3,r4,r5,r6,r7,r8,r9,r10,r11,⟨⟩⟩:=r;obtain⟨p1,⟨p2,p3,⟨⟩⟩,⟨p4,p5,⟨⟩⟩⟩:=p;unfold qL;simp only[flB,hj,cond_true,hin,qg,hl,hlin,hp,hy,hlin2,hp2,hA,hB,Option.bind_some]
  cases h1:(out==w64 (1+w64 (1-p4)))<;>cases h2:(out==0)<;>cases h3:(out==3)<;>rfl
theorem L2u_end (r:Rules) (seed:Int) (k k':Nat) (xs0 xs:List Sn) (pt:List Int) (out j:Int) (bx:(Rules×Int×Int×(List Sn×Unit)×Unit)) (hj:decide (j<((pt.length:Nat):Int))=false) :
    qL ((pt,()),(flB r seed k xs0,())) (bx,out) ((j,()),(flB r seed k' xs,()))=some (.inr ((),(flB r seed k' xs,()))):=by
  obtain⟨r1,r2,r3,r4,r5,r6,r7,r8,r9,r10,r11,⟨⟩⟩:=r;unfold qL;simp only[flB,hj,cond_false]
section
variable (r : Rules) (seed : Int) (k k' : Nat) (xs xs' xs3 xs4 xs5 : List Sn) (pt : List Int) (l v0 out c : Int) (p p' : Place) (kk kk' kk5 : List Int) (v s v' s' v5 s5 : Int) (f f' : Bool) (ms : List Mv) (hk : Nat) (y : Option (List Int))
  (hl0:inb (w64 (((pt.length:Nat):Int)-1)) pt.length=true) (hl:getD' pt (w64 (((pt.length:Nat):Int)-1)).toNat 0=l) (hlin:inb l xs.length=true) (hp:getD' xs l.toNat dSn=((p,()),(kk,(v,(s,(f,())))))) (hres:qa1 r p=some v0)
include hl0 hl hlin hp hres
theorem L1_stop (hst:((v0 !=0)||(decide (l>0)&&(v==0)))=true) (hg:qa6 (r,(seed,((k:Int),((xs,()),())))) p=some ((r,(seed,((k':Int),((xs,()),())))),out))
    (hL2:iterW (qL ((pt,()),(flB r seed k xs,())) ((r,(seed,((k':Int),((xs,()),())))),out)) (((0:Int),()),(flB r seed k' xs,()))=some ((),(flB r seed k' xs',()))) :
    qB ((pt,()),(flB r seed k xs,()))=some (.inr ((r,(seed,((k':Int),((xs',()),())))),())):=by
  obtain⟨r1,r2,r3,r4,r5,r6,r7,r8,r9,r10,r11,⟨⟩⟩:=r;obtain⟨p1,⟨p2,p3,⟨⟩⟩,⟨p4,p5,⟨⟩⟩⟩:=p;unfold qB;simp only[flB] at hL2;simp only[flB,hl0,qg,hl,hlin,hp,hres,Option.bind_some,hst,cond_true,hg,hL2,Option.map_some];rfl
theorem L1_goA (hst:((v0 !=0)||(decide (l>0)&&(v==0)))=false) (hf:f=true) (hc:qao (r,(seed,((k:Int),(xs,())))) ((p,()),(kk,(v,(s,(f,())))))=some c) (hroom:room (pt.length+[c].length) 8=true) :
    qB ((pt,()),(flB r seed k xs,()))=some (.inl ((pt++[c],()),(flB r seed k xs,()))):=by
  subst hf;obtain⟨r1,r2,r3,r4,r5,r6,r7,r8,r9,r10,r11,⟨⟩⟩:=r;obtain⟨p1,⟨p2,p3,⟨⟩⟩,⟨p4,p5,⟨⟩⟩⟩:=p;unfold qB;simp only[flB,hl0,qg,hl,hlin,hp,hres,Option.bind_some,hst,cond_false,Bool.not_true,hc,hroom];rfl
theorem L1_goB (hst:((v0 !=0)||(decide (l>0)&&(v==0)))=false) (hf:f=false) (hm:qaZ r p=some ms) (hgd:(decide (0≤l)&&(Nat.blt l.toNat xs.length&&kk.isEmpty))=true)
    (hL3:iterW (qJ ms ((pt,()),(flB r seed k xs,()))) (((0:Int),()),(flBh r seed k xs l.toNat none,()))=some ((),(flBh r seed k xs3 hk y,())))
    (hel:Option.elim y true (fun ks=>!List.isEmpty ks)=true) (h4:xs3.set hk ((getD' xs3 hk dSn).1,(y.getD [],(getD' xs3 hk dSn).2.2))=xs4) (hlin4:inb l xs4.length=true) (hp4:getD' xs4 l.toNat dSn=((p',()),(kk',(v',(s',(f',()))))))
    (h5:xs4.set l.toNat ((p',()),(kk',(v',(s',(true,())))))=xs5) (hlin5:inb l xs5.length=true) (hp5:getD' xs5 l.toNat dSn=((p',()),(kk5,(v5,(s5,(true,()))))))
    (hc:qao (r,(seed,((k:Int),(xs5,())))) ((p',()),(kk5,(v5,(s5,(true,())))))=some c) (hroom:room (pt.length+[c].length) 8=true) :
    qB ((pt,()),(flB r seed k xs,()))=some (.inl ((pt++[c],()),(flB r seed k xs5,()))):=by
  subst hf;obtain⟨r1,r2,r3,r4,r5,r6,r7,r8,r9,r10,r11,⟨⟩⟩:=r;obtain⟨p1,⟨p2,p3,⟨⟩⟩,⟨p4,p5,⟨⟩⟩⟩:=p;obtain⟨q1,⟨q2,q3,⟨⟩⟩,⟨q4,q5,⟨⟩⟩⟩:=p';unfold qB;simp only[flB,flBh] at hL3;simp only[flB,hl0,qg,hl,hlin,hp,hres,Option.bind_some,hst,cond_false,Bool.not_false,cond_true,hm,hgd,hL3,hel,h4,hlin4,hp4,h5,hlin5,hp5,hc,hroom];rfl
end
end Go.Proofs.Ytcifaoaepbidoaa
namespace Go.Proofs.Ytcifaoaepbidoaa
open Go.Den
set_option linter.unusedVariables false
set_option linter.unusedSimpArgs false
set_option linter.unusedSectionVars false
set_option maxRecDepth 100000

def descM (r:Rules):Nat→List WN→Nat→Bool→List Nat×Nat×List WN
  | 0,M,i,_=>([i],i,M)
  | f+1,M,i,first=>if stopB r M i first=true then([i],i,M) else(i::(descM r f (growM r M i) (qw (growM r M i) i) false).1,(descM r f (growM r M i) (qw (growM r M i) i) false).2)
def updL (out:Int) (P:List Nat) (G:List WN):List WN:=P.foldl (fun G j=>G.set j (updM out (nd G j))) G
def updR (out:Int) (P:List Nat) (G:List WN):List WN:=P.foldr (fun j G=>G.set j (updM out (nd G j))) G
theorem updR_nd (out:Int):∀(P:List Nat) (G:List WN) (j:Nat),j∉P→nd (updR out P G) j=nd G j
  | [],G,j,_=>rfl
  | a::P,G,j,h=>by
    rw[List.mem_cons,not_or] at h;show nd ((updR out P G).set a _) j=_;rw[qcB (Ne.symm h.1),updR_nd out P G j h.2]
theorem qpX (out:Int):∀(P:List Nat) (G:List WN) (a:Nat) (n:WN),a∉P→updR out P (G.set a n)=(updR out P G).set a n
  | [],G,a,n,_=>rfl
  | b::P,G,a,n,h=>by
    rw[List.mem_cons,not_or] at h;show(updR out P (G.set a n)).set b (updM out (nd (updR out P (G.set a n)) b))=((updR out P G).set b (updM out (nd (updR out P G) b))).set a n;rw[qpX out P G a n h.2,qcB h.1,List.set_comm _ _ h.1]
theorem updL_R (out:Int):∀(P:List Nat) (G:List WN),P.Nodup→updL out P G=updR out P G
  | [],G,_=>rfl
  | a::P,G,h=>by
    rw[List.nodup_cons] at h;show updL out P (G.set a (updM out (nd G a)))=_;rw[updL_R out P _ h.2,qpX out P G a _ h.1];show _=(updR out P G).set a (updM out (nd (updR out P G) a));rw[updR_nd out P G a h.1]
structure DescOK (r:Rules) (B:Nat) (M:List WN) (i:Nat) (d:List Nat×Nat×List WN):Prop where
  gd:Gd r B d.2.2
  hd:∃P,d.1=i::P∧(∀j∈P,i<j)
  nd:d.1.Nodup
  lt:∀j∈d.1,j<d.2.2.length
  last:d.2.1∈d.1
  len:M.length≤d.2.2.length
theorem desc_ok {r:Rules} {B:Nat}:∀(f:Nat) (M:List WN) (i:Nat) (first:Bool),Gd r B M→i<M.length→FC f M i first→DescOK r B M i (descM r f M i first):=by
  intro f
  induction f with
  | zero=>intro M i first h hi hf;exact absurd hf.1 (by omega)
  | succ f ih =>
    intro M i first h hi hf;unfold descM;by_cases hs:stopB r M i first=true
    · rw[if_pos hs];exact⟨h,⟨[],rfl,fun j hj=>by cases hj⟩,by simp,fun j hj=>by rw[List.mem_singleton.1 hj];exact hi,List.mem_singleton.2 rfl,Nat.le_refl _⟩
    · rw[if_neg hs];obtain⟨h0,_⟩:=qeL hs;obtain⟨c1,c2,c3,c4,c5⟩:=qaC h hi hf hs;have o:=ih _ _ false (h.grow hi h0) c2 c3;have hl:=(qeu r (h.val i hi)).1;obtain⟨P,e,hP⟩:=o.hd;have hgt:∀j∈(descM r f (growM r M i) (qw (growM r M i) i) false).1,i<j:=fun j hj=>by
        rw[e] at hj;rcases List.mem_cons.1 hj with rfl | hj
        · exact c1
        · have:=hP j hj;omega
      have hll:=o.len;exact⟨o.gd,⟨_,rfl,hgt⟩,List.nodup_cons.2 ⟨fun hm=>by have:=hgt i hm;omega,o.nd⟩,fun j hj=>by
        rcases List.mem_cons.1 hj with rfl | hj
        · show j<(descM r f (growM r M j) (qw (growM r M j) j) false).2.2.length;omega
        · exact o.lt j hj,List.mem_cons_of_mem _ o.last,by show M.length≤(descM r f (growM r M i) (qw (growM r M i) i) false).2.2.length;omega⟩
def outOf (r:Rules) (seed:Int) (k:Nat) (d:List Nat×Nat×List WN):Place×Nat:=gm r seed 200 (nd d.2.2 d.2.1).p k
theorem qqj {r:Rules} (seed:Int) {B:Nat}:∀(f:Nat) (M:List WN) (i:Nat) (first:Bool) (k:Nat),Gd r B M→i<M.length→FC f M i first →
    stepM r seed f M i first k=(updR (ql r (outOf r seed k (descM r f M i first)).1) (descM r f M i first).1 (descM r f M i first).2.2,(outOf r seed k (descM r f M i first)).2,ql r (outOf r seed k (descM r f M i first)).1):=by
  intro f
  induction f with
  | zero=>intro M i first k h hi hf;exact absurd hf.1 (by omega)
  | succ f ih =>
    intro M i first k h hi hf;unfold stepM descM;by_cases hs:stopB r M i first=true
    · simp only[if_pos hs];rfl
    · simp only[if_neg hs];obtain⟨h0,_⟩:=qeL hs;obtain⟨c1,c2,c3,c4,c5⟩:=qaC h hi hf hs;rw[ih _ _ false k (h.grow hi h0) c2 c3];rfl
theorem L2u_loop {r:Rules} (seed:Int) (k k':Nat) (xs0:List Sn) (pt:List Nat) (out:Int) (bx:(Rules×Int×Int×(List Sn×Unit)×Unit)) (hpl:pt.length≤100000000) {B:Nat} (hB:B≤500):∀(m j:Nat) (G:List WN),j+m=pt.length→(pt.drop j).Nodup→(∀a∈pt.drop j,a<G.length∧Valid r (nd G a).p∧(nd G a).v≤B∧(nd G a).s≤2*B) →
    iterW (qL ((pt.map (fun n:Nat=>(n:Int)),()),(flB r seed k xs0,())) (bx,out)) (((j:Int),()),(flB r seed k' (G.map wR),()))=some ((),(flB r seed k' ((updL out (pt.drop j) G).map wR),())):=by
  intro m
  induction m with
  | zero =>
    intro j G hj hnd hG;rw[List.drop_eq_nil_of_le (by omega)];exact qj (L2u_end r seed k k' xs0 _ _ out _ bx (by rw[List.length_map];exact decide_eq_false (by omega)))
  | succ m ih =>
    intro j G hj hnd hG
    have hj':j<pt.length:=by omega
    rw[List.drop_eq_getElem_cons hj'] at hnd hG ⊢;obtain⟨g1,g2,g3,g4⟩:=hG _ List.mem_cons_self;rw[List.nodup_cons] at hnd
    have hw:w64 ((j:Int)+1)=((j+1:Nat):Int):=by rw[qc (by omega) (by omega)];omega
    have w1:w64 (((nd G pt[j]).v:Int)+1)=(((nd G pt[j]).v+1:Nat):Int):=by rw[qc (by omega) (by omega)];omega
    have w2:w64 (((nd G pt[j]).s:Int)+2)=(((nd G pt[j]).s+2:Nat):Int):=by rw[qc (by omega) (by omega)];omega
    have w3:w64 (((nd G pt[j]).s:Int)+1)=(((nd G pt[j]).s+1:Nat):Int):=by rw[qc (by omega) (by omega)];omega
    have w4:w64 (1+w64 (1-(nd G pt[j]).p.2.2.1))=2-(nd G pt[j]).p.2.2.1:=by
      rcases g2.turn with ht | ht
      · rw[show(nd G pt[j]).p.2.2.1=0 from ht];rfl
      · rw[show(nd G pt[j]).p.2.2.1=1 from ht];rfl
    have hset:∀(G':List WN) (v s:Nat),(G'.map wR).set pt[j] (((nd G pt[j]).p,()),((nd G pt[j]).ks.map (fun k:Nat=>(k:Int)),((v:Int),((s:Int),(!(nd G pt[j]).ks.isEmpty,())))))=(G'.set pt[j] ⟨(nd G pt[j]).p,(nd G pt[j]).ks,v,s⟩).map wR:=fun G' v s=>by
      rw[List.map_set];rfl
    have hlt:getD' (pt.map (fun n:Nat=>(n:Int))) ((j:Int)).toNat 0=((pt[j]:Nat):Int):=by
      rw[qfW _ _ (by simpa using hj')];simp
    have g1':pt[j]<(G.set pt[j] ⟨(nd G pt[j]).p,(nd G pt[j]).ks,(nd G pt[j]).v+1,(nd G pt[j]).s⟩).length:=by simpa using g1
    have q1:inb (j:Int) (pt.map (fun n:Nat=>(n:Int))).length=true:=by rw[List.length_map];exact qaj _ _ hj'
    have q2:inb ((pt[j]:Nat):Int) (G.map wR).length=true:=by rw[List.length_map];exact qaj _ _ g1
    have q3:getD' (G.map wR) ((pt[j]:Nat):Int).toNat dSn=_:=(getR (M:=G) g1);have q4:(G.map wR).set ((pt[j]:Nat):Int).toNat (((nd G pt[j]).p,()),((nd G pt[j]).ks.map (fun k:Nat=>(k:Int)),(w64 (((nd G pt[j]).v:Int)+1),(((nd G pt[j]).s:Int),(!(nd G pt[j]).ks.isEmpty,())))))=(G.set pt[j] ⟨(nd G pt[j]).p,(nd G pt[j]).ks,(nd G pt[j]).v+1,(nd G pt[j]).s⟩).map wR:=by
      rw[w1];exact hset G _ _
    have q5:inb ((pt[j]:Nat):Int) ((G.set pt[j] ⟨(nd G pt[j]).p,(nd G pt[j]).ks,(nd G pt[j]).v+1,(nd G pt[j]).s⟩).map wR).length=true:=by rw[List.length_map];exact qaj _ _ g1'
    have q6:getD' ((G.set pt[j] ⟨(nd G pt[j]).p,(nd G pt[j]).ks,(nd G pt[j]).v+1,(nd G pt[j]).s⟩).map wR) ((pt[j]:Nat):Int).toNat dSn=(((nd G pt[j]).p,()),((nd G pt[j]).ks.map (fun k:Nat=>(k:Int)),(w64 (((nd G pt[j]).v:Int)+1),(((nd G pt[j]).s:Int),(!(nd G pt[j]).ks.isEmpty,()))))):=by
      rw[w1];refine(getR (M:=G.set pt[j] _) g1').trans ?_;rw[qed g1];rfl
    have q7:((G.set pt[j] ⟨(nd G pt[j]).p,(nd G pt[j]).ks,(nd G pt[j]).v+1,(nd G pt[j]).s⟩).map wR).set ((pt[j]:Nat):Int).toNat (((nd G pt[j]).p,()),((nd G pt[j]).ks.map (fun k:Nat=>(k:Int)),(w64 (((nd G pt[j]).v:Int)+1),(w64 (((nd G pt[j]).s:Int)+2),(!(nd G pt[j]).ks.isEmpty,())))))=(G.set pt[j] ⟨(nd G pt[j]).p,(nd G pt[j]).ks,(nd G pt[j]).v+1,(nd G pt[j]).s+2⟩).map wR:=by
      rw[w1,w2];refine(hset _ _ _).trans ?_;rw[List.set_set]
    have q8:((G.set pt[j] ⟨(nd G pt[j]).p,(nd G pt[j]).ks,(nd G pt[j]).v+1,(nd G pt[j]).s⟩).map wR).set ((pt[j]:Nat):Int).toNat (((nd G pt[j]).p,()),((nd G pt[j]).ks.map (fun k:Nat=>(k:Int)),(w64 (((nd G pt[j]).v:Int)+1),(w64 (((nd G pt[j]).s:Int)+1),(!(nd G pt[j]).ks.isEmpty,())))))=(G.set pt[j] ⟨(nd G pt[j]).p,(nd G pt[j]).ks,(nd G pt[j]).v+1,(nd G pt[j]).s+1⟩).map wR:=by
      rw[w1,w3];refine(hset _ _ _).trans ?_;rw[List.set_set]
    have e:=L2u_step r seed k k' xs0 (G.map wR) _ _ _ (pt.map (fun n:Nat=>(n:Int))) out (j:Int) ((pt[j]:Nat):Int) (nd G pt[j]).p _ _ _ _ bx (by rw[List.length_map];exact decide_eq_true (by omega)) q1 hlt q2 q3 q4 q5 q6 q7 q8;rw[hw,w4] at e
    have e2:(bif out==2-(nd G pt[j]).p.2.2.1 then(G.set pt[j] ⟨(nd G pt[j]).p,(nd G pt[j]).ks,(nd G pt[j]).v+1,(nd G pt[j]).s+2⟩).map wR else bif (out==0||out==3) then(G.set pt[j] ⟨(nd G pt[j]).p,(nd G pt[j]).ks,(nd G pt[j]).v+1,(nd G pt[j]).s+1⟩).map wR
        else(G.set pt[j] ⟨(nd G pt[j]).p,(nd G pt[j]).ks,(nd G pt[j]).v+1,(nd G pt[j]).s⟩).map wR)=(G.set pt[j] (updM out (nd G pt[j]))).map wR:=by
      unfold updM;by_cases c1:out=2-(nd G pt[j]).p.2.2.1
      · rw[show(out==2-(nd G pt[j]).p.2.2.1)=true from beq_iff_eq.2 c1,cond_true,if_pos c1]
      · rw[show(out==2-(nd G pt[j]).p.2.2.1)=false from beq_eq_false_iff_ne.2 c1,cond_false,if_neg c1];by_cases c2:out=3∨out=0
        · rw[show(out==0||out==3)=true by simpa using c2.symm,cond_true,if_pos c2]
        · rw[show(out==0||out==3)=false by simpa using fun (h:out=0∨out=3)=>c2 h.symm,cond_false,if_neg c2];rfl
    rw[e2] at e;rw[qm e];refine ih (j+1) _ (by omega) hnd.2 fun a ha=>?_;have hne:pt[j]≠a:=fun e=>hnd.1 (e▸ha);rw[List.length_set,qcB hne];exact hG a (List.mem_cons_of_mem _ ha)
def yk (L j:Nat):Option (List Int):=if j=0 then none else some ((qv L j).map (fun n:Nat=>(n:Int)))
theorem qpf (L j:Nat):(yk L j).getD []=(qv L j).map (fun n:Nat=>(n:Int)):=by
  unfold yk;by_cases h:j=0
  · subst h;rfl
  · rw[if_neg h];rfl
theorem L3_loop {r:Rules} {seed:Int} {k:Nat} {M:List WN} {i:Nat} (hi:i<M.length) (hv:Valid r (nd M i).p) (h0:ql r (nd M i).p=0) (hL:M.length≤100000000) (pt:List Int) (hl:getD' pt (w64 (((pt.length:Nat):Int)-1)).toNat 0=(i:Int)):∀(m j:Nat),j+m=(qe r (nd M i).p).length →
    iterW (qJ (qe r (nd M i).p) ((pt,()),(flB r seed k (M.map wR),()))) (((j:Int),()),(flBh r seed k ((M++((qe r (nd M i).p).take j).map (newN r (nd M i).p)).map wR) i (yk M.length j),())) =
      some ((),(flBh r seed k ((M++(qe r (nd M i).p).map (newN r (nd M i).p)).map wR) i (yk M.length (qe r (nd M i).p).length),())):=by
  intro m;have hml:=qaf hv
  induction m with
  | zero =>
    intro j hj
    obtain rfl:j=(qe r (nd M i).p).length:=by omega
    rw[List.take_length];exact qj (L3_end r seed k _ _ pt i _ _ _ (qjw _))
  | succ m ih =>
    intro j hj
    have hj':j<(qe r (nd M i).p).length:=by omega
    have hma:=qg9 hv (qni h0).symm hj'
    have hlen:(M++((qe r (nd M i).p).take j).map (newN r (nd M i).p)).length=M.length+j:=by simp[Nat.min_eq_left (Nat.le_of_lt hj')]
    have e:=L3_step r seed k (M.map wR) ((M++((qe r (nd M i).p).take j).map (newN r (nd M i).p)).map wR) pt i (yk M.length j) (j:Int) (i:Int) _ (nd M i).p (qa3 r (nd M i).p (qe r (nd M i).p)[j]) _ _ _ _ (qk1 _ _ hj') (qaj _ _ hj') hl
      (by rw[List.length_map];exact qaj _ i (by omega)) (by rw[Int.toNat_natCast];exact Nat.beq_refl _) (by rw[qpf];refine qbv ?_;simp[qam];omega) (by rw[Int.toNat_natCast];exact getR hi) (by rw[qfW _ _ hj'];exact qg2 hv hma.1) (by
        refine qbv ?_;rw[List.length_map,hlen];simp;omega)
    have hw:w64 ((j:Int)+1)=((j+1:Nat):Int):=by rw[qc (by omega) (by omega)];omega
    have e1:(M++((qe r (nd M i).p).take j).map (newN r (nd M i).p)).map wR++[newS (qa3 r (nd M i).p (qe r (nd M i).p)[j])]=(M++((qe r (nd M i).p).take (j+1)).map (newN r (nd M i).p)).map wR:=by
      rw[List.take_succ_eq_append_getElem hj',List.map_append,List.map_append,List.map_append,List.map_append,List.append_assoc];rfl
    have e2:some ((yk M.length j).getD []++[((((M++((qe r (nd M i).p).take j).map (newN r (nd M i).p)).map wR).length:Nat):Int)])=yk M.length (j+1):=by
      rw[qpf,List.length_map,hlen];unfold yk;rw[if_neg (by omega),qev,List.map_append];rfl
    rw[hw,e1,e2] at e;rw[qm e];exact ih (j+1) (by omega)
theorem last_cast (pre:List Nat) (i:Nat) (hl:pre.length≤100000000):getD' ((pre++[i]).map (fun n:Nat=>(n:Int))) (w64 (((((pre++[i]).map (fun n:Nat=>(n:Int))).length:Nat):Int)-1)).toNat 0=(i:Int) ∧
    inb (w64 (((((pre++[i]).map (fun n:Nat=>(n:Int))).length:Nat):Int)-1)) ((pre++[i]).map (fun n:Nat=>(n:Int))).length=true:=by
  have hlen:((pre++[i]).map (fun n:Nat=>(n:Int))).length=pre.length+1:=by simp
  have hw:w64 (((pre.length+1:Nat):Int)-1)=((pre.length:Nat):Int):=by rw[qc (by omega) (by omega)];omega
  rw[hlen,hw];refine⟨?_,inb_iff.2 ⟨by omega,by omega⟩⟩;rw[qfW _ _ (by rw[hlen];omega)];simp
theorem L1_loop {r:Rules} {seed:Int} (hs:0≤seed∧seed≤100000000) {B:Nat} (hB:B≤400) {k:Nat} (hk:k+200≤1000000):∀(f:Nat) (M:List WN) (i:Nat) (first:Bool) (pre:List Nat),Gd r B M→i<M.length→FC f M i first→M.length≤50100000→(first=true↔i=0)→pre.length≤i→(∀a∈pre,a<i)→pre.Nodup →
    iterW qB (((pre++[i]).map (fun n:Nat=>(n:Int)),()),(flB r seed k (M.map wR),())) =
      some ((r,(seed,(((outOf r seed k (descM r f M i first)).2:Int),(((updL (ql r (outOf r seed k (descM r f M i first)).1) (pre++(descM r f M i first).1) (descM r f M i first).2.2).map wR,()),())))),()):=by
  intro f
  induction f with
  | zero=>intro M i first pre h hi hf;exact absurd hf.1 (by omega)
  | succ f ih =>
    intro M i first pre h hi hf hL hfi hpl hpa hpn;have hv:=h.val i hi;obtain⟨hl,hl0⟩:=last_cast pre i (by omega)
    have hlin:inb (i:Int) (M.map wR).length=true:=by rw[List.length_map];exact qaj _ _ hi
    have hp:getD' (M.map wR) ((i:Int)).toNat dSn=(((nd M i).p,()),((nd M i).ks.map (fun k:Nat=>(k:Int)),(((nd M i).v:Int),(((nd M i).s:Int),(!(nd M i).ks.isEmpty,()))))):=by rw[Int.toNat_natCast];exact getR hi
    have est:((ql r (nd M i).p !=0)||(decide ((i:Int)>0)&&(((nd M i).v:Int)==0)))=stopB r M i first:=by
      unfold stopB;have e1:decide ((i:Int)>0) = !first:=by
        cases first with
        | true=>rw[hfi.1 rfl];rfl
        | false =>
          have:i≠0:=fun e=>by have:=hfi.2 e;cases this
          exact decide_eq_true (by omega)
      have e2:((((nd M i).v:Nat):Int)==0)=((nd M i).v==0):=by
        by_cases hz:(nd M i).v=0
        · rw[hz];rfl
        · rw[show((nd M i).v==0)=false by simpa using hz];simp;omega
      rw[e1,e2]
    have hpi:i∉pre:=fun hm=>by have:=hpa i hm;omega
    have hnd:(pre++[i]).Nodup:=List.nodup_append.2 ⟨hpn,by simp,fun a ha b hb=>by rw[List.mem_singleton.1 hb];have:=hpa a ha;omega⟩;by_cases hst:stopB r M i first=true
    · have ed:descM r (f+1) M i first=([i],i,M):=if_pos hst;rw[ed];refine qj (L1_stop r seed k _ (M.map wR) _ _ (i:Int) _ _ _ _ _ _ _ hl0 hl hlin hp (qY hv) (by rw[est];exact hst) (game_spec hs (M.map wR) hv hk) ?_)
      have:=L2u_loop (r:=r) seed k (gm r seed 200 (nd M i).p k).2 (M.map wR) (pre++[i]) (ql r (gm r seed 200 (nd M i).p k).1) (r,(seed,(((gm r seed 200 (nd M i).p k).2:Int),((M.map wR,()),())))) (by simp;omega) (B:=B) (by omega) _ 0 M (Nat.zero_add _) (by rw[List.drop_zero];exact hnd) (fun a ha=>by
        rw[List.drop_zero] at ha;have:a<M.length:=by
          rcases List.mem_append.1 ha with ha | ha
          · have:=hpa a ha;omega
          · rw[List.mem_singleton.1 ha];exact hi
        exact⟨this,h.val a this,h.v a this,h.s a this⟩)
      rw[List.drop_zero] at this;exact this
    · have ed:descM r (f+1) M i first=(i::(descM r f (growM r M i) (qw (growM r M i) i) false).1,(descM r f (growM r M i) (qw (growM r M i) i) false).2):=if_neg hst;rw[ed];obtain⟨h0,h1⟩:=qeL hst;obtain⟨c1,c2,c3,c4,c5⟩:=qaC h hi hf hst;have hgd:=h.grow hi h0;have hgl:=qeu r hv
      have hii:i<(growM r M i).length:=by omega
      have hroom:room (((pre++[i]).map (fun n:Nat=>(n:Int))).length+[((qw (growM r M i) i:Nat):Int)].length) 8=true:=by refine qbv ?_;simp;omega
      have e:qB (((pre++[i]).map (fun n:Nat=>(n:Int)),()),(flB r seed k (M.map wR),()))=some (.inl ((((pre++[i])++[qw (growM r M i) i]).map (fun n:Nat=>(n:Int)),()),(flB r seed k ((growM r M i).map wR),()))):=by
        rw[List.map_append (l₁:=pre++[i])];by_cases hk0:(nd M i).ks=[]
        · have eg:growM r M i=gpart r M i (qe r (nd M i).p).length:=if_pos hk0;have hml:=qcM hv h0
          have hil:i<(M++(qe r (nd M i).p).map (newN r (nd M i).p)).length:=by rw[List.length_append];omega
          have hnda:nd (M++(qe r (nd M i).p).map (newN r (nd M i).p)) i=nd M i:=qpx hi;have h3:=L3_loop (seed:=seed) (k:=k) hi hv h0 (by omega) _ hl _ 0 (Nat.zero_add _);rw[List.take_zero,List.map_nil,List.append_nil] at h3;have eset:∀b:Bool,((M++(qe r (nd M i).p).map (newN r (nd M i).p)).map wR).set i (((nd M i).p,()),((qv M.length (qe r (nd M i).p).length).map (fun n:Nat=>(n:Int)),(((nd M i).v:Int),(((nd M i).s:Int),(true,())))))=(growM r M i).map wR:=fun b=>by
            rw[eg];unfold gpart;rw[List.take_length];rw[←List.set_append_left _ _ hi,List.map_set];have:(qv M.length (qe r (nd M i).p).length).isEmpty=false:=by
              cases hkk:qv M.length (qe r (nd M i).p).length with
              | nil=>have:=congrArg List.length hkk;rw[qam] at this;simp only[List.length_nil] at this;omega
              | cons a l=>rfl
            unfold wR;rw[this];rfl
          have hil2:i<((M++(qe r (nd M i).p).map (newN r (nd M i).p)).map wR).length:=by rw[List.length_map];exact hil
          have hfb:(!(nd M i).ks.isEmpty)=false:=by rw[hk0];rfl
          have hg5:getD' ((growM r M i).map wR) ((i:Int)).toNat dSn=(((nd M i).p,()),((qv M.length (qe r (nd M i).p).length).map (fun n:Nat=>(n:Int)),(((nd M i).v:Int),(((nd M i).s:Int),(true,()))))):=by
            rw[Int.toNat_natCast,←eset true];unfold getD';rw[List.getD_eq_getElem?_getD,List.getElem?_set_self hil2];rfl
          have hch:=qiz hgd hii seed (k:Int) (by omega) (qkz hi hv h0) (hgd.kl i hii);have hg6:wR (nd (growM r M i) i)=_:=(getR hii).symm.trans (hg5:getD' ((growM r M i).map wR) i dSn=_);rw[hg6] at hch;refine L1_goB r seed k (M.map wR) _ _ _ _ (i:Int) _ _ _ (nd M i).p _ _ _ _ _ _ _ _ _ _ false _ i _ hl0 hl hlin hp (qY hv) (by rw[est];exact Bool.eq_false_iff.2 hst) hfb (qbn hv) ?_ (by rw[Int.toNat_natCast];exact h3) ?_ rfl ?_ ?_ (by rw[Int.toNat_natCast,List.set_set];exact eset true) (by rw[List.length_map];exact qaj _ _ hii) hg5 hch hroom
          · rw[Int.toNat_natCast,List.length_map,hk0];simp;omega
          · unfold yk;rw[if_neg (by omega)]
            cases hkk:qv M.length (qe r (nd M i).p).length with
            | nil=>have:=congrArg List.length hkk;rw[qam] at this;simp only[List.length_nil] at this;omega
            | cons a l=>rfl
          · rw[List.length_set];exact qaj _ _ hil2
          · rw[Int.toNat_natCast];unfold getD';rw[List.getD_eq_getElem?_getD,List.getElem?_set_self hil2];show((getD' ((M++(qe r (nd M i).p).map (newN r (nd M i).p)).map wR) i dSn).1,((yk M.length (qe r (nd M i).p).length).getD [],(getD' ((M++(qe r (nd M i).p).map (newN r (nd M i).p)).map wR) i dSn).2.2))=_;rw[getR hil,hnda,qpf];show(((nd M i).p,()),((qv M.length (qe r (nd M i).p).length).map (fun n:Nat=>(n:Int)),(((nd M i).v:Int),(((nd M i).s:Int),(!(nd M i).ks.isEmpty,())))))=_;rw[hfb]
        · have eg:growM r M i=M:=if_neg hk0;have hch:=qiz hgd hii seed (k:Int) (by omega) (qkz hi hv h0) (hgd.kl i hii);rw[eg] at hch hroom ⊢;have hfb:(!(nd M i).ks.isEmpty)=true:=by
            cases hkk:(nd M i).ks with
            | nil=>exact absurd hkk hk0
            | cons a l=>rfl
          exact L1_goA r seed k (M.map wR) _ (i:Int) _ _ _ _ _ _ _ hl0 hl hlin hp (qY hv) (by rw[est];exact Bool.eq_false_iff.2 hst) hfb hch hroom
      rw[qm e]
      have:=ih (growM r M i) (qw (growM r M i) i) false (pre++[i]) hgd c2 c3 (by omega) ⟨fun h=>(by cases h),fun h=>by omega⟩ (by simp;omega) (fun a ha=>by
        rcases List.mem_append.1 ha with ha | ha
        · have:=hpa a ha;omega
        · rw[List.mem_singleton.1 ha];exact c1) hnd
      rw[this,List.append_assoc];rfl

theorem qqA {r:Rules} {seed:Int} (hs:0≤seed∧seed≤100000000) {M:List WN} {B k:Nat} (hG:Gd r B M) (hB:B≤400) (h0:0<M.length) (hL:M.length≤50000000) (hk:k+200≤1000000) :
    qcZ (r,(seed,((k:Int),((M.map wR,()),()))))=some ((r,(seed,(((stepM r seed (M.length+1) M 0 true k).2.1:Int),(((stepM r seed (M.length+1) M 0 true k).1.map wR,()),())))),()):=by
  have hf:FC (M.length+1) M 0 true:=⟨by omega,.inr ⟨by omega,hL⟩⟩;have e:=L1_loop hs hB hk (M.length+1) M 0 true [] hG h0 hf (by omega) ⟨fun _=>rfl,fun _=>rfl⟩ (Nat.le_refl _) (fun a ha=>by cases ha) List.nodup_nil;have o:=desc_ok (M.length+1) M 0 true hG h0 hf;rw[List.nil_append,List.nil_append,updL_R _ _ _ o.nd] at e;rw[qqj seed (M.length+1) M 0 true k hG h0 hf];exact e
theorem qpi {r:Rules} {seed:Int} {f:Nat} {M:List WN} {i:Nat} {first:Bool} {k:Nat} (h:stopB r M i first=true):stepM r seed (f+1) M i first k=(M.set i (updM (ql r (gm r seed 200 (nd M i).p k).1) (nd M i)),(gm r seed 200 (nd M i).p k).2,ql r (gm r seed 200 (nd M i).p k).1):=by
  show(let g:=if stopB r M i first=true then(M,(gm r seed 200 (nd M i).p k).2,ql r (gm r seed 200 (nd M i).p k).1) else stepM r seed f (growM r M i) (qw (growM r M i) i) false k
    (g.1.set i (updM g.2.2 (nd g.1 i)),g.2.1,g.2.2))=_
  simp only[if_pos h]
theorem qjY {r:Rules} {seed:Int} {f:Nat} {M:List WN} {i:Nat} {first:Bool} {k:Nat} (h:¬stopB r M i first=true):stepM r seed (f+1) M i first k =
    ((stepM r seed f (growM r M i) (qw (growM r M i) i) false k).1.set i (updM (stepM r seed f (growM r M i) (qw (growM r M i) i) false k).2.2 (nd (stepM r seed f (growM r M i) (qw (growM r M i) i) false k).1 i)),(stepM r seed f (growM r M i) (qw (growM r M i) i) false k).2):=by
  show(let g:=if stopB r M i first=true then(M,(gm r seed 200 (nd M i).p k).2,ql r (gm r seed 200 (nd M i).p k).1) else stepM r seed f (growM r M i) (qw (growM r M i) i) false k
    (g.1.set i (updM g.2.2 (nd g.1 i)),g.2.1,g.2.2))=_
  simp only[if_neg h]
theorem qqO {r:Rules} (seed:Int) {B:Nat}:∀(f f':Nat) (M:List WN) (i:Nat) (first:Bool) (k:Nat),Gd r B M→i<M.length→FC f M i first→FC f' M i first→stepM r seed f M i first k=stepM r seed f' M i first k:=by
  intro f
  induction f with
  | zero=>intro f' M i first k h hi hf;exact absurd hf.1 (by omega)
  | succ f ih =>
    intro f' M i first k h hi hf hf'
    cases f' with
    | zero=>exact absurd hf'.1 (by omega)
    | succ f' =>
      by_cases hs:stopB r M i first=true
      · rw[qpi hs,qpi hs]
      · obtain⟨h0,_⟩:=qeL hs;obtain⟨c1,c2,c3,_,_⟩:=qaC h hi hf hs;obtain⟨_,_,c3',_,_⟩:=qaC h hi hf' hs;rw[qjY hs,qjY hs,ih f' _ _ false k (h.grow hi h0) c2 c3 c3']
theorem stop_grow {r:Rules} {M:List WN} {i:Nat} (hi:i<M.length) (first:Bool):stopB r (growM r M i) i first=stopB r M i first:=by
  obtain⟨ks,e⟩:=qjs r hi;unfold stopB;rw[e]
theorem qn0 {r:Rules} {M:List WN} {i:Nat} (hi:i<M.length) (hv:Valid r (nd M i).p) (h0:ql r (nd M i).p=0):growM r (growM r M i) i=growM r M i:=by
  have:=qkz hi hv h0;rw[show growM r (growM r M i) i=if (nd (growM r M i) i).ks=[] then _ else growM r M i from rfl,if_neg this]
theorem qqz {r:Rules} (seed:Int) {B:Nat} {M:List WN} {f f' i:Nat} {first:Bool} {k:Nat} (h:Gd r B M) (hi:i<M.length) (hf:FC f M i first) (hf':FC f' (growM r M i) i first) (hs:¬stopB r M i first=true):stepM r seed f M i first k=stepM r seed f' (growM r M i) i first k:=by
  obtain⟨h0,_⟩:=qeL hs;have hl:=qeu r (h.val i hi);have hgd:=h.grow hi h0
  have hs':¬stopB r (growM r M i) i first=true:=by rw[stop_grow hi];exact hs
  cases f with
  | zero=>exact absurd hf.1 (by omega)
  | succ f =>
    cases f' with
    | zero=>exact absurd hf'.1 (by omega)
    | succ f' =>
      obtain⟨c1,c2,c3,_,_⟩:=qaC h hi hf hs;obtain⟨_,_,c3',_,_⟩:=qaC hgd (by omega) hf' hs';rw[qn0 hi (h.val i hi) h0] at c3';rw[qjY hs,qjY hs',qn0 hi (h.val i hi) h0,qqO seed f f' _ _ false k hgd c2 c3 c3']
theorem grow_keep (r:Rules) {M:List WN} {i j:Nat} (hi:i<M.length) (hj:j<M.length):(nd (growM r M i) j).p=(nd M j).p∧((nd M j).ks≠[]→(nd (growM r M i) j).ks=(nd M j).ks):=by
  by_cases e:i=j
  · subst e;unfold growM;split
    · rename_i hk;rw[qbX r hi];exact⟨rfl,fun h=>absurd hk h⟩
    · exact⟨rfl,fun _=>rfl⟩
  · rw[qll r hj e];exact⟨rfl,fun _=>rfl⟩
theorem qqU {r:Rules} (seed:Int) {B:Nat}:∀(f:Nat) (M:List WN) (i:Nat) (first:Bool) (k:Nat),Gd r B M→i<M.length→FC f M i first→∀j<M.length,(nd (stepM r seed f M i first k).1 j).p=(nd M j).p∧((nd M j).ks≠[]→(nd (stepM r seed f M i first k).1 j).ks=(nd M j).ks):=by
  intro f
  induction f with
  | zero=>intro M i first k h hi hf;exact absurd hf.1 (by omega)
  | succ f ih =>
    intro M i first k h hi hf j hj;have upd:∀(G:List WN) (out:Int),i<G.length→(nd (G.set i (updM out (nd G i))) j).p=(nd G j).p∧(nd (G.set i (updM out (nd G i))) j).ks=(nd G j).ks:=fun G out hiG=>by
      by_cases e:i=j
      · subst e;rw[qed hiG];exact⟨rfl,rfl⟩
      · rw[qcB e];exact⟨rfl,rfl⟩
    by_cases hs:stopB r M i first=true
    · rw[qpi hs];obtain⟨e1,e2⟩:=upd M (ql r (gm r seed 200 (nd M i).p k).1) hi;exact⟨e1,fun _=>e2⟩
    · obtain⟨h0,_⟩:=qeL hs;obtain⟨c1,c2,c3,_,_⟩:=qaC h hi hf hs;have hl:=qeu r (h.val i hi);have ok:=qmw seed f _ _ false k (h.grow hi h0) c2 c3;rw[qjY hs];obtain⟨e1,e2⟩:=upd (stepM r seed f (growM r M i) (qw (growM r M i) i) false k).1 (stepM r seed f (growM r M i) (qw (growM r M i) i) false k).2.2 (by have:=ok.l1;omega);obtain⟨e3,e4⟩:=ih _ _ false k (h.grow hi h0) c2 c3 j (by omega);obtain⟨e5,e6⟩:=grow_keep r hi hj;exact⟨e1.trans (e3.trans e5),fun hne=>e2.trans ((e4 (by rw[e6 hne];exact hne)).trans (e6 hne))⟩
def runM (r:Rules) (seed:Int) (M:List WN):Nat→List WN×Nat
  | 0=>(M,0)
  | t+1=>((stepM r seed ((runM r seed M t).1.length+1) (runM r seed M t).1 0 true (runM r seed M t).2).1,(stepM r seed ((runM r seed M t).1.length+1) (runM r seed M t).1 0 true (runM r seed M t).2).2.1)
structure RunOK (r:Rules) (M:List WN) (t:Nat) (x:List WN×Nat):Prop where
  gd:Gd r (1+t) x.1
  l1:M.length≤x.1.length
  l2:x.1.length≤M.length+100000*t
  k:x.2≤200*t
  p:(nd x.1 0).p=(nd M 0).p
  ks:(nd M 0).ks≠[]→(nd x.1 0).ks=(nd M 0).ks
theorem len_aux {X Y L t:Nat} (a1:X≤Y+100000) (l2:Y≤L+100000*t):X≤L+100000*(t+1):=Nat.le_trans a1 (Nat.le_trans (Nat.add_le_add_right l2 100000) (Nat.le_of_eq (by rw[Nat.mul_succ,Nat.add_assoc])))
theorem qpr {r:Rules} (seed:Int) {M:List WN} (h:Gd r 1 M) (h0:0<M.length) (hL:M.length≤200000):∀t,t≤25→RunOK r M t (runM r seed M t):=by
  intro t
  induction t with
  | zero=>intro _;exact⟨h,Nat.le_refl _,Nat.le_refl _,Nat.le_refl _,rfl,fun _=>rfl⟩
  | succ t ih =>
    intro ht;have o:=ih (by omega);have l1:=o.l1;have l2:=o.l2;have hf:FC ((runM r seed M t).1.length+1) (runM r seed M t).1 0 true:=⟨by omega,.inr ⟨by omega,by omega⟩⟩;have ok:=qmw seed _ _ 0 true (runM r seed M t).2 o.gd (by omega) hf;have kp:=qqU seed _ _ 0 true (runM r seed M t).2 o.gd (by omega) hf 0 (by omega);have ol1:=ok.l1;have ol2:=ok.l2;have ok2:=ok.k2;have okk:=o.k;have a1:(runM r seed M (t+1)).1.length≤(runM r seed M t).1.length+100000:=ol2;have a2:(runM r seed M (t+1)).2≤(runM r seed M t).2+200:=ok2;have a3:Gd r (1+t+1) (runM r seed M (t+1)).1:=ok.gd;have a4:M.length≤(runM r seed M (t+1)).1.length:=Nat.le_trans l1 ol1;have a5:(runM r seed M (t+1)).1.length≤M.length+100000*(t+1):=len_aux a1 l2
    have a6:(runM r seed M (t+1)).2≤200*(t+1):=Nat.le_trans a2 (Nat.le_trans (Nat.add_le_add_right okk 200) (Nat.le_of_eq (Nat.mul_succ 200 t).symm));refine⟨?_,a4,a5,a6,kp.1.trans o.p,fun hne=>(kp.2 (by rw[o.ks hne];exact hne)).trans (o.ks hne)⟩;exact Eq.subst (motive:=fun z=>Gd r z (runM r seed M (t+1)).1) (Nat.add_assoc 1 t 1) a3
theorem run_loop {r:Rules} {seed:Int} (hs:0≤seed∧seed≤100000000) {M:List WN} (h:Gd r 1 M) (h0:0<M.length) (hL:M.length≤200000) {T:Nat} (hT:T≤25):∀(m t:Nat),t+m=T →
    iterW (qb1 (T:Int)) (((t:Int),()),(flS r (seed,(((runM r seed M t).2:Int),())),((runM r seed M t).1.map wP,())))=some ((),(flS r (seed,(((runM r seed M T).2:Int),())),((runM r seed M T).1.map wP,()))):=by
  intro m
  induction m with
  | zero =>
    intro t ht
    obtain rfl:t=T:=by omega
    refine qj ?_;obtain⟨r1,r2,r3,r4,r5,r6,r7,r8,r9,r10,r11,⟨⟩⟩:=r;have:decide ((t:Int)<(t:Int))=false:=decide_eq_false (by omega);unfold qb1;simp only[flS,this,cond_false]
  | succ m ih =>
    intro t ht;have o:=qpr seed h h0 hL t (by omega);have l1:=o.l1;have l2:=o.l2;have okk:=o.k;have st:=qq4 hs o.gd (by omega) (by omega) (by omega) (k:=(runM r seed M t).2) (by omega);have e:qb1 (T:Int) (((t:Int),()),(flS r (seed,(((runM r seed M t).2:Int),())),((runM r seed M t).1.map wP,())))=some (.inl ((((t+1:Nat):Int),()),(flS r (seed,(((runM r seed M (t+1)).2:Int),())),((runM r seed M (t+1)).1.map wP,())))):=by
      have hd:decide ((t:Int)<(T:Int))=true:=decide_eq_true (by omega)
      have hw:w64 ((t:Int)+1)=((t+1:Nat):Int):=by rw[qc (by omega) (by omega)];omega
      show qb1 (T:Int) _=some (Sum.inl ((((t+1:Nat):Int),()),(flS r (seed,(((stepM r seed ((runM r seed M t).1.length+1) (runM r seed M t).1 0 true (runM r seed M t).2).2.1:Int),())),((stepM r seed ((runM r seed M t).1.length+1) (runM r seed M t).1 0 true (runM r seed M t).2).1.map wP,()))));rw[←hw];generalize stepM r seed ((runM r seed M t).1.length+1) (runM r seed M t).1 0 true (runM r seed M t).2=X at st;generalize runM r seed M t=Y at st;obtain⟨r1,r2,r3,r4,r5,r6,r7,r8,r9,r10,r11,⟨⟩⟩:=r;unfold qb1;simp only[flS,hd,cond_true,List.length_nil,Nat.zero_add,st,Option.bind_some]
    rw[qm e];exact ih (t+1) (by omega)
theorem rrun_loop {r:Rules} {seed:Int} (hs:0≤seed∧seed≤100000000) {M:List WN} (h:Gd r 1 M) (h0:0<M.length) (hL:M.length≤200000) {T:Nat} (hT:T≤25):∀(m t:Nat),t+m=T →
    iterW (qaq (T:Int)) (((t:Int),()),(flB r seed (runM r seed M t).2 ((runM r seed M t).1.map wR),()))=some ((),(flB r seed (runM r seed M T).2 ((runM r seed M T).1.map wR),())):=by
  intro m
  induction m with
  | zero =>
    intro t ht
    obtain rfl:t=T:=by omega
    refine qj ?_;obtain⟨r1,r2,r3,r4,r5,r6,r7,r8,r9,r10,r11,⟨⟩⟩:=r;have:decide ((t:Int)<(t:Int))=false:=decide_eq_false (by omega);unfold qaq;simp only[flB,this,cond_false]
  | succ m ih =>
    intro t ht;have o:=qpr seed h h0 hL t (by omega);have l1:=o.l1;have l2:=o.l2;have okk:=o.k;have st:=qqA hs o.gd (by omega) (by omega) (by omega) (k:=(runM r seed M t).2) (by omega);have e:qaq (T:Int) (((t:Int),()),(flB r seed (runM r seed M t).2 ((runM r seed M t).1.map wR),()))=some (.inl ((((t+1:Nat):Int),()),(flB r seed (runM r seed M (t+1)).2 ((runM r seed M (t+1)).1.map wR),()))):=by
      have hd:decide ((t:Int)<(T:Int))=true:=decide_eq_true (by omega)
      have hw:w64 ((t:Int)+1)=((t+1:Nat):Int):=by rw[qc (by omega) (by omega)];omega
      show qaq (T:Int) _=some (Sum.inl ((((t+1:Nat):Int),()),(flB r seed (stepM r seed ((runM r seed M t).1.length+1) (runM r seed M t).1 0 true (runM r seed M t).2).2.1 ((stepM r seed ((runM r seed M t).1.length+1) (runM r seed M t).1 0 true (runM r seed M t).2).1.map wR),())));rw[←hw];generalize stepM r seed ((runM r seed M t).1.length+1) (runM r seed M t).1 0 true (runM r seed M t).2=X at st;generalize runM r seed M t=Y at st;obtain⟨r1,r2,r3,r4,r5,r6,r7,r8,r9,r10,r11,⟨⟩⟩:=r;unfold qaq;simp only[flB,hd,cond_true,st,Option.bind_some]
    rw[qm e];exact ih (t+1) (by omega)

theorem eta_r (r:Rules):(r.1,(r.2.1,(r.2.2.1,(r.2.2.2.1,(r.2.2.2.2.1,(r.2.2.2.2.2.1,(r.2.2.2.2.2.2.1,(r.2.2.2.2.2.2.2.1,(r.2.2.2.2.2.2.2.2.1,(r.2.2.2.2.2.2.2.2.2.1,(r.2.2.2.2.2.2.2.2.2.2.1,())))))))))))=r:=rfl
theorem eta_p2 (p:Place):(p.1,((p.2.1.1,(p.2.1.2.1,())),(p.2.2.1,(p.2.2.2.1,()))))=p:=rfl
theorem qnJ:Rng qfg qn:=qit _ _ (by decide +kernel)
theorem near_n:law1Near.1.length≤9223372036854775807:=by decide

abbrev Wm:=Mv×Int×Int×Unit
abbrev dWm:Wm:=(((0:Int),((0:Int),((0:Int),()))),((0:Int),((0:Int),())))
def oneW (ms:List Mv) (G:List WN) (i:Nat):Wm:=(getD' ms i ((0:Int),((0:Int),((0:Int),()))),(((nd G (1+i)).v:Int),(((nd G (1+i)).s:Int),())))
def outW (ms:List Mv) (G:List WN) (j:Nat):List Wm:=(List.range j).map (oneW ms G)
theorem outW_succ (ms:List Mv) (G:List WN) (j:Nat):outW ms G (j+1)=outW ms G j++[oneW ms G j]:=by
  unfold outW;rw[List.range_succ,List.map_append];rfl
theorem qhn (ms:List Mv) (G:List WN) (j:Nat):(outW ms G j).length=j:=by
  unfold outW;rw[List.length_map,List.length_range]
theorem qjg (ms:List Mv) (G:List WN) {n j:Nat} (h:j<n):getD' (outW ms G n) j dWm=oneW ms G j:=by
  have h':j<(outW ms G n).length:=by rw[qhn];exact h
  have:=qjq h' dWm;rw[this];simp[outW]
theorem qoy {r:Rules} {s:Int×Int×Unit} {ms:List Mv} {ns:ArW} {ks:List Nat} {l:List Wm} {j:Int} {c:Nat} {q:Place} {v w:Int}
    (hj:decide (j<((ms.length:Nat):Int))=true) (hin:inb j ms.length=true) (hk:kdP ns dWn 1=ks) (hin2:inb j ks.length=true) (hc:getD' ks j.toNat 0=c) (hb:Nat.blt 0 c=true)
    (hn:ndP ns dWn c=(q,(v,(w,())))) (hroom:room (l.length+[((getD' ms j.toNat ((0:Int),((0:Int),((0:Int),()))),(v,(w,()))):Wm)].length) 40=true) :
    qd9 ms ((),(flS r s,(ns,()))) ((l,(j,())),())=some (.inl ((l++[(getD' ms j.toNat ((0:Int),((0:Int),((0:Int),()))),(v,(w,())))],(w64 (j+1),())),())):=by
  have hb0:Nat.blt 0 1=true:=rfl;unfold qd9;simp only[List.length_nil,Nat.zero_add,hj,cond_true,hin,qg,hb0,hk,hin2,hc,hb,hn,hroom]
theorem run_L2 {r:Rules} {s:Int×Int×Unit} {G:List WN} {ms:List Mv} (hks:(nd G 0).ks=qv 1 ms.length) (hG:ms.length<G.length) (hm:ms.length≤100000):∀(f j:Nat),j+f=ms.length →
    iterW (qd9 ms ((),(flS r s,(G.map wP,())))) ((outW ms G j,((j:Int),())),())=some ((outW ms G ms.length,()),()):=by
  intro f
  induction f with
  | zero =>
    intro j hj
    obtain rfl:j=ms.length:=by omega
    refine qj ?_;unfold qd9;rw[qjw,cond_false]
  | succ f ih =>
    intro j hj
    have hj':j<ms.length:=by omega
    have hk:kdP (G.map wP) dWn 1=(qv 1 ms.length).map (· + 1):=by
      have:=kdP_w (M:=G) (i:=0) (by omega);rw[hks] at this;exact this
    have hkl:((qv 1 ms.length).map (· + 1)).length=ms.length:=by rw[List.length_map,qam]
    have hc:getD' ((qv 1 ms.length).map (· + 1)) (j:Int).toNat 0=1+j+1:=by
      rw[qfW _ _ (by omega)];simp[qv]
    have e:=qoy (r:=r) (s:=s) (l:=outW ms G j) (qk1 _ _ hj') (qaj _ _ hj') hk (by rw[hkl];exact qaj _ _ hj') hc (by simp) (ndP_w (M:=G) (i:=1+j) (by omega)) (qbv (by rw[qhn];simp only[List.length_singleton];omega));rw[qc (by omega) (by omega)] at e;rw[qm e];have:=ih (j+1) (by omega);rw[outW_succ,show(((j+1:Nat)):Int)=(j:Int)+1 by omega] at this;exact this
def N0 (p:Place):List WN:=[⟨p,[],1,0⟩]
def M0 (r:Rules) (p:Place):List WN:=growM r (N0 p) 0
theorem n0_gd {r:Rules} {p:Place} (hv:Valid r p):Gd r 1 (N0 p):=by
  have h0:∀j<(N0 p).length,j=0:=fun j hj=>by simp[N0] at hj;exact hj
  refine⟨fun j hj=>?_,fun j hj k hk=>?_,fun j hj=>?_,fun j hj=>?_,fun j hj=>?_⟩
  · rw[h0 j hj];exact hv
  · rw[h0 j hj] at hk;cases hk
  · rw[h0 j hj];exact Nat.zero_le _
  · rw[h0 j hj];exact Nat.le_refl _
  · rw[h0 j hj];exact Nat.zero_le _
theorem m0_eq (r:Rules) (p:Place):M0 r p=gpart r (N0 p) 0 (qe r p).length:=by
  unfold M0 growM;rw[if_pos (show(nd (N0 p) 0).ks=[] from rfl)];rfl
theorem qnE (r:Rules) (p:Place):(M0 r p).length=1+(qe r p).length:=by
  rw[m0_eq];exact qfn r (N0 p) 0 (Nat.le_refl _)
theorem qo5 (r:Rules) (p:Place):nd (M0 r p) 0=⟨p,qv 1 (qe r p).length,1,0⟩:=by
  rw[m0_eq,qbX r (by simp[N0])];rfl
theorem m0_kid {r:Rules} {p:Place} {i:Nat} (h:i<(qe r p).length):(nd (M0 r p) (1+i)).v=0∧(nd (M0 r p) (1+i)).s=0:=by
  have e:=qnE r p;rw[m0_eq] at e
  obtain⟨m,_,hm⟩:=qa9 r (M:=N0 p) (i:=0) (j:=1+i) (by simp[N0]) (by
    have:=qnE r p;rw[m0_eq] at this
    rw[show(nd (N0 p) 0).p=p from rfl,this];omega)
  rw[m0_eq];have hm':nd (gpart r (N0 p) 0 (qe r p).length) (1+i)=newN r p m:=hm;rw[hm'];exact⟨rfl,rfl⟩
def endM (r:Rules) (p:Place) (seed:Int) (T:Nat):List WN:=(runM r seed (M0 r p) T).1
def runR (r:Rules) (p:Place) (seed:Int) (T:Nat):List Wm:=outW (qe r p) (endM r p seed T) (qe r p).length
def qS (r:Rules) (p:Place) (seed steps:Int):Int:=if qaT r p≠0 then qaT r p else if seed<0∨seed>100000000 then 4 else if steps<0∨steps>2000 then 1 else if ql r p≠0 then 14 else 0
theorem qj1 (r:Rules) (p:Place) (seed steps:Int) (hr:Rng qfg r) (hn:p.1.length≤9223372036854775807) (h25:steps≤25) :
    qio r p seed steps=some (if qS r p seed steps=0 then(runR r p seed steps.toNat,((0:Int),())) else([],(qS r p seed steps,()))):=by
  unfold qio;rw[qqW r p hr hn,Option.bind_some];by_cases h1:qaT r p=0
  · have hv:=ql8 h1;rw[bne_f h1,cond_false];by_cases h2:seed<0∨seed>100000000
    · have:qS r p seed steps=4:=by unfold qS;rw[if_neg (by simp[h1]),if_pos h2]
      rw[this,show(decide (seed<0)||decide (seed>100000000))=true by simpa using h2,cond_true,if_neg (by decide)]
    · rw[show(decide (seed<0)||decide (seed>100000000))=false by simpa using h2,cond_false];by_cases h3:steps<0∨steps>2000
      · have:qS r p seed steps=1:=by unfold qS;rw[if_neg (by simp[h1]),if_neg h2,if_pos h3]
        rw[this,show(decide (steps<0)||decide (steps>2000))=true by simpa using h3,cond_true,if_neg (by decide)]
      · rw[show(decide (steps<0)||decide (steps>2000))=false by simpa using h3,cond_false,qbA hv,Option.bind_some];by_cases h4:ql r p=0
        · have:qS r p seed steps=0:=by unfold qS;rw[if_neg (by simp[h1]),if_neg h2,if_neg h3,if_neg (by simp[h4])]
          rw[this,bne_f h4,cond_false,if_pos rfl];have hml:=qaf hv
          have hs:0≤seed∧seed≤100000000:=by omega
          have gs:=qk5 (r:=r) (M:=N0 p) (i:=0) (by simp[N0]) hv h4 (by simp[N0]) (seed,((0:Int),()));have g0:Gd r 1 (M0 r p):=(n0_gd hv).grow (i:=0) (by simp[N0]) h4;have l0:=qnE r p;obtain⟨T,rfl⟩:=Int.eq_ofNat_of_zero_le (show 0≤steps by omega);have lp:=run_loop hs g0 (by omega) (by omega) (T:=T) (by omega) T 0 (by omega);have ok:=qpr seed g0 (by omega) (by omega) T (by omega);have okl:=ok.l1;have hks:(nd (runM r seed (M0 r p) T).1 0).ks=qv 1 (qe r p).length:=by
            have e:=ok.ks;rw[qo5] at e;refine e ?_;have hpos:=qcM hv h4;intro hh;have h2:(qv 1 (qe r p).length).length=0:=congrArg List.length hh;rw[qam] at h2;omega
          have l2:=run_L2 (r:=r) (s:=(seed,(((runM r seed (M0 r p) T).2:Int),()))) hks (by omega) hml (qe r p).length 0 (by omega);have e1:addP ([]:ArW) ((p,((1:Int),((0:Int),()))):Wn)=(N0 p).map wP:=rfl;have gs':qK (r,((seed,((0:Int),())),())) ((N0 p).map wP) (([]:ArW).length+1)=some ((r,((seed,((0:Int),())),())),((M0 r p).map wP,())):=gs;rw[Option.bind_some,e1,gs',Option.bind_some];have lp':iterW (qb1 (T:Int)) (((0:Int),()),(flS r (seed,((0:Int),())),((M0 r p).map wP,())))=some ((),(flS r (seed,(((runM r seed (M0 r p) T).2:Int),())),((runM r seed (M0 r p) T).1.map wP,()))):=lp;refine(congrArg (fun z=>Option.bind z _) lp').trans ?_;rw[Option.bind_some,qhK hv,Option.bind_some];refine(congrArg (fun z=>Option.bind z _) l2).trans ?_;rfl
        · have:qS r p seed steps=14:=by unfold qS;rw[if_neg (by simp[h1]),if_neg h2,if_neg h3,if_pos h4]
          rw[this,bne_t h4,cond_true,if_neg (by decide)]
  · have:qS r p seed steps=qaT r p:=by unfold qS;rw[if_pos h1]
    rw[this,bne_t h1,cond_true,if_neg h1]
def bestI (f:Nat→Int):Nat→Nat
  | 0=>0
  | j+1=>if f j>f (bestI f j) then j else bestI f j
theorem qmu (f:Nat→Int):∀(n j:Nat),0<n→j≤n→bestI f j<n
  | n,0,h,_=>h
  | n,j+1,h,hj=>by
    unfold bestI;split
    · omega
    · exact qmu f n j h (by omega)
def flW (w:Wm):=(w.1.1,(w.1.2.1,(w.1.2.2.1,(w.2.1,(w.2.2.1,())))))
theorem best_step (l:List Wm) (e:Int) (j:Int) (b w:Wm) (hj:decide (j<((l.length:Nat):Int))=true) (hin:inb j l.length=true) (hw:getD' l j.toNat dWm=w) :
    qb4 (l,(e,())) ((j,()),(flW b,()))=some (.inl ((w64 (j+1),()),(flW (if w.2.1>b.2.1 then w else b),()))):=by
  obtain⟨⟨w1,w2,w3,⟨⟩⟩,w4,w5,⟨⟩⟩:=w;obtain⟨⟨b1,b2,b3,⟨⟩⟩,b4,b5,⟨⟩⟩:=b;unfold qb4;by_cases hb:w4>b4
  · have hd:decide (w4>b4)=true:=decide_eq_true hb;simp only[flW,hj,cond_true,hin,qg,hw,hd,Option.bind_some,if_pos hb]
  · have hd:decide (w4>b4)=false:=decide_eq_false hb;simp only[flW,hj,cond_true,hin,qg,hw,hd,cond_false,Option.bind_some,if_neg hb]
def visI (l:List Wm) (i:Nat):Int:=(getD' l i dWm).2.1
theorem best_loop (l:List Wm) (e:Int) (hl:l.length≤100000):∀(f j:Nat),j+f=l.length →
    iterW (qb4 (l,(e,()))) (((j:Int),()),(flW (getD' l (bestI (visI l) j) dWm),()))=some ((),(flW (getD' l (bestI (visI l) l.length) dWm),())):=by
  intro f
  induction f with
  | zero =>
    intro j hj
    obtain rfl:j=l.length:=by omega
    refine qj ?_;unfold qb4;rw[show decide ((((l.length:Nat):Int),()).1<((l.length:Nat):Int))=false from qjw l,cond_false]
  | succ f ih =>
    intro j hj
    have hj':j<l.length:=by omega
    have st:=best_step l e (j:Int) (getD' l (bestI (visI l) j) dWm) (getD' l j dWm) (qk1 _ _ hj') (qaj _ _ hj') (by rw[Int.toNat_natCast]);have e2:(if (getD' l j dWm).2.1>(getD' l (bestI (visI l) j) dWm).2.1 then getD' l j dWm else getD' l (bestI (visI l) j) dWm)=getD' l (bestI (visI l) (j+1)) dWm:=by
      show _=getD' l (if visI l j>visI l (bestI (visI l) j) then j else bestI (visI l) j) dWm;by_cases c:visI l j>visI l (bestI (visI l) j)
      · rw[if_pos c];exact if_pos c
      · rw[if_neg c];exact if_neg c
    rw[e2,qc (by omega) (by omega)] at st;rw[qm st];have:=ih (j+1) (by omega);rw[show(((j+1:Nat)):Int)=(j:Int)+1 by omega] at this;exact this
theorem qlF (r:Rules) (p:Place) (seed steps:Int) (hr:Rng qfg r) (hn:p.1.length≤9223372036854775807) (h25:steps≤25) :
    qhO r p seed steps=some (if qS r p seed steps=0 then(if steps=0 then(((0:Int),((0:Int),((0:Int),()))),((1:Int),())) else((getD' (runR r p seed steps.toNat) (bestI (visI (runR r p seed steps.toNat)) (qe r p).length) dWm).1,((0:Int),())))
      else(((0:Int),((0:Int),((0:Int),()))),(qS r p seed steps,()))):=by
  unfold qhO;rw[qj1 r p seed steps hr hn h25,Option.bind_some];by_cases c:qS r p seed steps=0
  · rw[if_pos c,if_pos c];simp only[bne_self_eq_false,cond_false];by_cases cs:steps=0
    · rw[beq_t cs,cond_true,if_pos cs]
    · rw[beq_f cs,cond_false,if_neg cs];have hw:qaT r p=0∧ql r p=0:=by
        unfold qS at c;by_cases h1:qaT r p=0
        · rw[if_neg (by simp[h1])] at c;refine⟨h1,Decidable.byContradiction fun h=>?_⟩;split at c
          · cases c
          · split at c
            · cases c
            · exact absurd c (by decide)
        · rw[if_pos h1] at c;exact absurd c h1
      have hv:=ql8 hw.1;have hpos:=qcM hv hw.2;have hml:=qaf hv;have hl:(runR r p seed steps.toNat).length=(qe r p).length:=qhn _ _ _;have lp:=best_loop (runR r p seed steps.toNat) 0 (by omega) (runR r p seed steps.toNat).length 0 (by omega);rw[hl] at lp;rw[show inb 0 (runR r p seed steps.toNat).length=true from inb_iff.2 ⟨by omega,by omega⟩,qg];have lp':iterW (qb4 (runR r p seed steps.toNat,((0:Int),()))) (((0:Int),()),(flW (getD' (runR r p seed steps.toNat) 0 dWm),()))=some ((),(flW (getD' (runR r p seed steps.toNat) (bestI (visI (runR r p seed steps.toNat)) (qe r p).length) dWm),())):=lp;refine(congrArg (fun z=>Option.bind z _) lp').trans ?_;rfl
  · rw[if_neg c,if_neg c];simp only[bne_t c,cond_true]

abbrev Tv:=Int×Int×Unit
def tv (M:List WN) (i:Nat):Tv:=(((nd M (1+i)).v:Int),(((nd M (1+i)).s:Int),()))
def yT (M:List WN) (m j:Nat):List Tv:=(List.range m).map fun i=>if i<j then tv M i else((0:Int),((0:Int),()))
theorem qnC (M:List WN) (m j:Nat):(yT M m j).length=m:=by simp[yT]
theorem qm0 (M:List WN) {m j i:Nat} (h:i<(yT M m j).length):(yT M m j)[i]=if i<j then tv M i else((0:Int),((0:Int),())):=by simp[yT]
theorem yT_0 (M:List WN) (m:Nat):yT M m 0=List.replicate m ((0:Int),((0:Int),())):=by
  refine List.ext_getElem (by simp[yT]) fun i h1 h2=>?_;simp[yT]
theorem yT_set (M:List WN) {m j:Nat} (h:j<m):(yT M m j).set j (tv M j)=yT M m (j+1):=by
  refine List.ext_getElem (by simp[yT]) fun i h1 h2=>?_;rw[List.getElem_set];by_cases c:j=i
  · subst c;rw[if_pos rfl,qm0,if_pos (by omega)]
  · rw[if_neg c,qm0,qm0];by_cases c2:i<j
    · rw[if_pos c2,if_pos (by omega)]
    · rw[if_neg c2,if_neg (by omega)]
theorem tried_L1 (ms:List Mv) (hm:ms.length≤100000):∀(f j:Nat),j+f=ms.length →
    iterW (qT ms) ((List.replicate j (((0:Int),((0:Int),())):Tv),((j:Int),())),())=some ((List.replicate ms.length (((0:Int),((0:Int),())):Tv),()),()):=by
  intro f
  induction f with
  | zero =>
    intro j hj
    obtain rfl:j=ms.length:=by omega
    refine qj ?_;unfold qT;rw[show decide (((List.replicate ms.length (((0:Int),((0:Int),())):Tv),(((ms.length:Nat):Int),())),()).1.2.1<((ms.length:Nat):Int))=false from qjw ms,cond_false]
  | succ f ih =>
    intro j hj
    have hj':j<ms.length:=by omega
    have hr:room ((List.replicate j (((0:Int),((0:Int),())):Tv)).length+[(((0:Int),((0:Int),())):Tv)].length) 16=true:=qbv (by rw[List.length_replicate,List.length_singleton];omega);have e:qT ms ((List.replicate j (((0:Int),((0:Int),())):Tv),((j:Int),())),())=some (.inl ((List.replicate j (((0:Int),((0:Int),())):Tv)++[((0:Int),((0:Int),()))],(w64 ((j:Int)+1),())),())):=by
      unfold qT;simp only[qk1 ms j hj',cond_true,hr,qg]
    rw[qm e,←List.replicate_succ',qc (by omega) (by omega)];have:=ih (j+1) (by omega);rw[show(((j+1:Nat)):Int)=(j:Int)+1 by omega] at this;exact this
theorem tried_L2 {r:Rules} {seed k:Int} {M:List WN} {m:Nat} (hks:(nd M 0).ks=qv 1 m) (hM:m<M.length) (hm:m≤100000):∀(f j:Nat),j+f=m →
    iterW (qE (wR (nd M 0)) (r,(seed,(k,(M.map wR,()))))) (((j:Int),()),(yT M m j,()))=some ((),(yT M m m,())):=by
  have hlen:((nd M 0).ks.map (fun k:Nat=>(k:Int))).length=m:=by rw[hks,List.length_map,qam]
  intro f
  induction f with
  | zero =>
    intro j hj
    obtain rfl:j=m:=by omega
    refine qj ?_;have hd:decide ((j:Int)<((((nd M 0).ks.map (fun k:Nat=>(k:Int))).length:Nat):Int))=false:=decide_eq_false (by rw[hlen];omega);have hd':decide ((j:Int)<(((wR (nd M 0)).2.1.length:Nat):Int))=false:=hd;unfold qE;simp only[hd',cond_false]
  | succ f ih =>
    intro j hj
    have hj':j<m:=by omega
    have hd:decide ((j:Int)<((((nd M 0).ks.map (fun k:Nat=>(k:Int))).length:Nat):Int))=true:=decide_eq_true (by rw[hlen];omega);have hat:at? ((nd M 0).ks.map (fun k:Nat=>(k:Int))) (j:Int)=some ((1+j:Nat):Int):=by
      unfold at?;rw[show decide (0≤(j:Int))=true from decide_eq_true (by omega),cond_true,Int.toNat_natCast,hks];simp[qv,hj']
    have ha2:=atR (M:=M) (i:=1+j) (by omega);have hin:inb (j:Int) (yT M m j).length=true:=qaj _ _ (by rw[qnC];exact hj');have e:qE (wR (nd M 0)) (r,(seed,(k,(M.map wR,())))) (((j:Int),()),(yT M m j,()))=some (.inl ((w64 ((j:Int)+1),()),(yT M m (j+1),()))):=by
      rw[←yT_set M hj'];unfold qE;have hat':at? (wR (nd M 0)).2.1 (j:Int)=some ((1+j:Nat):Int):=hat;have hd':decide ((j:Int)<(((wR (nd M 0)).2.1.length:Nat):Int))=true:=hd;simp only[hd',cond_true,hat',Option.bind_some,ha2,hin,qg,Int.toNat_natCast];rfl
    rw[qm e,qc (by omega) (by omega)];have:=ih (j+1) (by omega);rw[show(((j+1:Nat)):Int)=(j:Int)+1 by omega] at this;exact this
theorem qmM {r:Rules} {seed k:Int} {M:List WN} {ms:List Mv} {y:List Tv} (h0:0<M.length) (hv:qaZ r (nd M 0).p=some ms) (hm:ms.length≤100000)
    (h:iterW (qE (wR (nd M 0)) (r,(seed,(k,(M.map wR,()))))) (((0:Int),()),(List.replicate ms.length (((0:Int),((0:Int),())):Tv),()))=some ((),(y,()))) :
    qaY (r,(seed,(k,(M.map wR,()))))=some y:=by
  have ha:=atR (M:=M) (i:=0) h0;have ha':at? (M.map wR) (0:Int)=some (wR (nd M 0)):=ha;have hv':qaZ r (wR (nd M 0)).1.1=some ms:=hv;have h1:=tried_L1 ms hm ms.length 0 (by omega);have h1':iterW (qT ms) ((([]:List Tv),((0:Int),())),())=some ((List.replicate ms.length (((0:Int),((0:Int),())):Tv),()),()):=h1;unfold qaY;simp only[ha',Option.bind_some,hv',h1',h]
theorem run_n0 {r:Rules} {p:Place} (seed:Int) (hv:Valid r p) (h0:ql r p=0):∀t,runM r seed (N0 p) (t+1)=runM r seed (M0 r p) (t+1):=by
  have hl:=qnE r p;have hml:=qaf hv;have e:stepM r seed ((N0 p).length+1) (N0 p) 0 true 0=stepM r seed ((M0 r p).length+1) (M0 r p) 0 true 0:=by
    refine qqz seed (n0_gd hv) (by simp[N0]) ⟨by simp[N0],.inr ⟨by simp[N0],by simp[N0]⟩⟩ ⟨by omega,.inr ⟨?_,?_⟩⟩ ?_
    · show(M0 r p).length+1≤_;omega
    · show(M0 r p).length≤_;omega
    · show ¬((ql r p !=0)||(!true&&_))=true;simp[h0]
  intro t
  induction t with
  | zero =>
    have e1:runM r seed (N0 p) (0+1)=((stepM r seed ((N0 p).length+1) (N0 p) 0 true 0).1,(stepM r seed ((N0 p).length+1) (N0 p) 0 true 0).2.1):=rfl;rw[e1,e];rfl
  | succ t ih =>
    have e1:∀M,runM r seed M (t+1+1)=((stepM r seed ((runM r seed M (t+1)).1.length+1) (runM r seed M (t+1)).1 0 true (runM r seed M (t+1)).2).1,(stepM r seed ((runM r seed M (t+1)).1.length+1) (runM r seed M (t+1)).1 0 true (runM r seed M (t+1)).2).2.1):=fun M=>rfl;rw[e1,e1,ih]
theorem end_ok {r:Rules} {p:Place} (seed:Int) (hv:Valid r p) (h0:ql r p=0) {T:Nat} (hT:T≤25) :
    (qe r p).length<(endM r p seed T).length∧(nd (endM r p seed T) 0).ks=qv 1 (qe r p).length∧(nd (endM r p seed T) 0).p=p:=by
  have hml:=qaf hv;have g0:Gd r 1 (M0 r p):=(n0_gd hv).grow (i:=0) (by simp[N0]) h0;have l0:=qnE r p;have hpos:=qcM hv h0;have ok:=qpr seed g0 (by omega) (by omega) T hT;have l1:=ok.l1;refine⟨?_,?_,?_⟩
  · show _<(runM r seed (M0 r p) T).1.length;omega
  · have e:=ok.ks;rw[qo5] at e;refine e ?_;intro hh;have h2:(qv 1 (qe r p).length).length=0:=congrArg List.length hh;rw[qam] at h2;omega
  · have e:=ok.p;rw[qo5] at e;exact e
theorem qqu {r:Rules} {p:Place} (seed k:Int) (hv:Valid r p) (h0:ql r p=0) {T:Nat} (hT:T≤25) :
    qaY (r,(seed,(k,((runM r seed (N0 p) T).1.map wR,()))))=some (yT (endM r p seed T) (qe r p).length (qe r p).length):=by
  have hml:=qaf hv
  cases T with
  | zero =>
    refine qmM (M:=N0 p) (by simp[N0]) (qbn hv) hml ?_;have e:yT (endM r p seed 0) (qe r p).length (qe r p).length=List.replicate (qe r p).length ((0:Int),((0:Int),())):=by
      refine List.ext_getElem (by simp[yT]) fun i h1 h2=>?_;rw[qnC] at h1;rw[qm0,if_pos h1,List.getElem_replicate];obtain⟨a,b⟩:=m0_kid (r:=r) (p:=p) h1;show((((nd (M0 r p) (1+i)).v:Int),(((nd (M0 r p) (1+i)).s:Int),())):Tv)=_;rw[a,b];rfl
    rw[e];refine qj ?_;unfold qE;have:decide ((0:Int)<(((wR (nd (N0 p) 0)).2.1.length:Nat):Int))=false:=decide_eq_false (by simp[wR,N0,nd]);simp only[this,cond_false];rfl
  | succ t =>
    rw[run_n0 seed hv h0 t];obtain⟨a,b,c⟩:=end_ok seed hv h0 hT;refine qmM (M:=endM r p seed (t+1)) (by omega) (by rw[c];exact qbn hv) hml ?_;rw[←yT_0 (endM r p seed (t+1))];exact tried_L2 b a hml (qe r p).length 0 (by omega)
theorem qo6 (l:List Wm) (e:Int) (ms:List Mv) (tr:List Tv) (b j bv bs:Int) (w:Wm) (hj:decide (j<((l.length:Nat):Int))=true) (hin:inb j l.length=true) (hin2:inb j ms.length=true) (hin3:inb j tr.length=true)
    (hw:getD' l j.toNat dWm=w) (hm:getD' ms j.toNat ((0:Int),((0:Int),((0:Int),())))=w.1) (ht:getD' tr j.toNat ((0:Int),((0:Int),()))=(w.2.1,(w.2.2.1,()))) (hb:inb b tr.length=true) (hbt:getD' tr b.toNat ((0:Int),((0:Int),()))=(bv,(bs,()))) :
    qbi (l,(e,())) ms tr ((b,(j,())),())=some (.inl (((if w.2.1>bv then j else b),(w64 (j+1),())),())):=by
  obtain⟨⟨w1,w2,w3,⟨⟩⟩,w4,w5,⟨⟩⟩:=w;unfold qbi;by_cases c:w4>bv
  · have hd:decide (w4>bv)=true:=decide_eq_true c;simp only[hj,cond_true,hin,hin2,hin3,qg,hw,hm,ht,hb,hbt,beq_self_eq_true,Bool.and_true,Bool.not_true,cond_false,hd,Option.bind_some,if_pos c]
  · have hd:decide (w4>bv)=false:=decide_eq_false c;simp only[hj,cond_true,hin,hin2,hin3,qg,hw,hm,ht,hb,hbt,beq_self_eq_true,Bool.and_true,Bool.not_true,cond_false,hd,Option.bind_some,if_neg c]
theorem tr_get (ms:List Mv) (G:List WN) {m i:Nat} (h:i<m):getD' (yT G m m) i ((0:Int),((0:Int),()))=tv G i:=by
  rw[qjq (by rw[qnC];exact h),qm0,if_pos h]
theorem qop (e:Int) (ms:List Mv) (G:List WN) (hl:ms.length≤100000) (h0:0<ms.length):∀(f j:Nat),j+f=ms.length →
    iterW (qbi (outW ms G ms.length,(e,())) ms (yT G ms.length ms.length)) (((bestI (visI (outW ms G ms.length)) j:Nat),((j:Int),())),())=some (.inl ((((bestI (visI (outW ms G ms.length)) ms.length:Nat):Int),()),())):=by
  have hlen:=qhn ms G ms.length;intro f
  induction f with
  | zero =>
    intro j hj
    obtain rfl:j=ms.length:=by omega
    refine qj ?_;have hd:decide (((ms.length:Nat):Int)<(((outW ms G ms.length).length:Nat):Int))=false:=decide_eq_false (by rw[hlen];omega);unfold qbi;simp only[hd,cond_false]
  | succ f ih =>
    intro j hj
    have hj':j<ms.length:=by omega
    have hb:=qmu (visI (outW ms G ms.length)) ms.length j h0 (by omega);have st:=qo6 (outW ms G ms.length) e ms (yT G ms.length ms.length) ((bestI (visI (outW ms G ms.length)) j:Nat):Int) (j:Int) (((nd G (1+bestI (visI (outW ms G ms.length)) j)).v:Nat):Int) (((nd G (1+bestI (visI (outW ms G ms.length)) j)).s:Nat):Int) (oneW ms G j)
      (qk1 _ _ (by rw[hlen];exact hj')) (qaj _ _ (by rw[hlen];exact hj')) (qaj _ _ hj') (qaj _ _ (by rw[qnC];exact hj')) (by rw[Int.toNat_natCast];exact qjg ms G hj') (by rw[Int.toNat_natCast];rfl) (by rw[Int.toNat_natCast];exact tr_get ms G hj')
      (qaj _ _ (by rw[qnC];exact hb)) (by rw[Int.toNat_natCast];exact tr_get ms G hb)
    have e2:(if (oneW ms G j).2.1>(((nd G (1+bestI (visI (outW ms G ms.length)) j)).v:Nat):Int) then(j:Int) else((bestI (visI (outW ms G ms.length)) j:Nat):Int))=((bestI (visI (outW ms G ms.length)) (j+1):Nat):Int):=by
      have a1:visI (outW ms G ms.length) j=(oneW ms G j).2.1:=by
        show(getD' (outW ms G ms.length) j dWm).2.1=_;rw[qjg ms G hj']
      have a2:visI (outW ms G ms.length) (bestI (visI (outW ms G ms.length)) j)=(((nd G (1+bestI (visI (outW ms G ms.length)) j)).v:Nat):Int):=by
        show(getD' (outW ms G ms.length) (bestI (visI (outW ms G ms.length)) j) dWm).2.1=_;rw[qjg ms G hb];rfl
      show _=(((if visI (outW ms G ms.length) j>visI (outW ms G ms.length) (bestI (visI (outW ms G ms.length)) j) then j else bestI (visI (outW ms G ms.length)) j):Nat):Int);rw[a1,a2]
      split<;>rfl
    rw[e2,qc (by omega) (by omega)] at st;rw[qm st];have:=ih (j+1) (by omega);rw[show(((j+1:Nat)):Int)=(j:Int)+1 by omega] at this;exact this
theorem near_run:(runR qn law1Near 5 1).length=5∧getD' (runR qn law1Near 5 1) 0 dWm=(((-1:Int),((2:Int),((0:Int),()))),((1:Int),((2:Int),()))) ∧
    (getD' (runR qn law1Near 5 1) (bestI (visI (runR qn law1Near 5 1)) (qe qn law1Near).length) dWm).1=((-1:Int),((2:Int),((0:Int),()))):=by decide +kernel
theorem near_we:qS qn law1Near 5 1=0:=by decide +kernel
theorem law1WalkRuns_true (r:Rules) (p:Place) (seed steps:Int) (hr:Rng qfg r) (hp:Rng tyPlace p) (hseed:Rng (.int .i64) seed) (hsteps:Rng (.int .i64) steps):qff r p seed steps=some true:=by
  have hn:p.1.length≤9223372036854775807:=hp.1.1;obtain⟨n1,n2,n3⟩:=near_run;have e1:=qj1 qn law1Near 5 1 qnJ near_n (by decide);have e2:=qlF qn law1Near 5 1 qnJ near_n (by decide);rw[if_pos near_we] at e1 e2;rw[if_neg (by decide)] at e2;have n3':(getD' (runR qn law1Near 5 (1:Int).toNat) (bestI (visI (runR qn law1Near 5 (1:Int).toNat)) (qe qn law1Near).length) dWm).1=((-1:Int),((2:Int),((0:Int),()))):=n3;rw[n3'] at e2
  have hput:qd6 2=((-1:Int),((2:Int),((0:Int),()))):=by decide +kernel
  unfold qff;rw[eta_r,eta_p2,e1,Option.bind_some];have n1':(runR qn law1Near 5 (1:Int).toNat).length=5:=n1;have n2':getD' (runR qn law1Near 5 (1:Int).toNat) 0 (((0:Int),((0:Int),((0:Int),()))),((0:Int),((0:Int),())))=(((-1:Int),((2:Int),((0:Int),()))),((1:Int),((2:Int),()))):=n2;simp only[n1',n2',hput];rw[show inb (0:Int) 5=true from rfl,e2,Option.bind_some];show(bif ((!(qu steps (-1:Int) (25:Int)))||(decide (((p.1.length:Nat):Int)>(12:Int)))) then some true else _)=some true
  cases hli:((!(qu steps (-1:Int) (25:Int)))||(decide (((p.1.length:Nat):Int)>(12:Int)))) with
  | true=>rfl
  | false =>
    rw[cond_false];have hst : -1≤steps∧steps≤25:=by
      unfold qu at hli;simp at hli;omega
    rw[qj1 r p seed steps hr hn hst.2,qlF r p seed steps hr hn hst.2,Option.bind_some,Option.bind_some,qjv r p hr hn,Option.bind_some];by_cases h1:qaT r p=0
    · have hv:=ql8 h1;have b1:(qaT r p==0)=true:=beq_t h1;by_cases h2:seed<0∨seed>100000000
      · have hs:qu seed 0 100000000=false:=by
          unfold qu;simp;omega
        have hw:qS r p seed steps=4:=by unfold qS;rw[if_neg (by simp[h1]),if_pos h2]
        rw[hw];simp only[b1,hs,Bool.not_false,Bool.and_true,cond_true,Option.bind_some];simp[gopt]
      · have hs:qu seed 0 100000000=true:=by
          unfold qu;simp;omega
        by_cases h3:steps<0
        · have hw:qS r p seed steps=1:=by unfold qS;rw[if_neg (by simp[h1]),if_neg h2,if_pos (.inl h3)]
          rw[hw];simp only[b1,hs,Bool.not_true,Bool.and_false,cond_false,Option.bind_some,h1,decide_eq_true h3,Bool.and_true,beq_self_eq_true,cond_true];simp[gopt]
        · by_cases h4:ql r p=0
          · have hw:qS r p seed steps=0:=by unfold qS;rw[if_neg (by simp[h1]),if_neg h2,if_neg (by omega),if_neg (by simp[h4])]
            obtain⟨T,rfl⟩:=Int.eq_ofNat_of_zero_le (show 0≤steps by omega)
            have hT:T≤25:=by omega
            have hml:=qaf hv;have hpos:=qcM hv h4;have lp:=rrun_loop (r:=r) (seed:=seed) (by omega) (n0_gd hv) (by simp[N0]) (by simp[N0]) hT T 0 (by omega);have lp':iterW (qaq (T:Int)) (((0:Int),()),(flB r seed 0 ((N0 p).map wR),()))=some ((),(flB r seed (runM r seed (N0 p) T).2 ((runM r seed (N0 p) T).1.map wR),())):=lp;have l2:=qop 0 (qe r p) (endM r p seed T) hml hpos (qe r p).length 0 (by omega);have hlen:(runR r p seed T).length=(qe r p).length:=qhn _ _ _;rw[hw];simp only[b1,hs,Bool.not_true,Bool.and_false,cond_false,Option.bind_some,h1,decide_eq_false h3,Bool.and_true,beq_self_eq_true,cond_true,gopt,qY hv,h4,bne_self_eq_false,if_true,Int.toNat_natCast];refine(congrArg (fun z=>Option.bind z _) lp').trans ?_
            rw[Option.bind_some,qbn hv,Option.bind_some];refine(congrArg (fun z=>Option.bind z _) (qqu seed _ hv h4 hT)).trans ?_;rw[Option.bind_some,hlen];simp only[bne_self_eq_false,Bool.or_self,cond_false];refine(congrArg (fun z=>Option.bind z _) l2).trans ?_;rw[Option.bind_some,Sum.elim_inl];have hb:=qmu (visI (runR r p seed T)) (qe r p).length (qe r p).length hpos (Nat.le_refl _);by_cases cT:((T:Nat):Int)=0
            · simp only[cT,beq_self_eq_true,cond_true,if_true];rfl
            · simp only[if_neg cT,beq_f cT,cond_false];have hg:(getD' (runR r p seed T) (bestI (visI (runR r p seed T)) (qe r p).length) dWm).1=getD' (qe r p) (bestI (visI (runR r p seed T)) (qe r p).length) ((0:Int),((0:Int),((0:Int),()))):=by
                rw[show runR r p seed T=outW (qe r p) (endM r p seed T) (qe r p).length from rfl] at hb ⊢;rw[qjg _ _ hb];rfl
              have hin:inb (((bestI (visI (outW (qe r p) (endM r p seed T) (qe r p).length)) (qe r p).length:Nat)):Int) (qe r p).length=true:=qaj _ _ hb;rw[hg];simp only[beq_self_eq_true,imp,cond_true,hin,qg,Int.toNat_natCast,Bool.true_and];show some (((getD' (qe r p) (bestI (visI (runR r p seed T)) (qe r p).length) ((0:Int),((0:Int),((0:Int),())))).1==(getD' (qe r p) (bestI (visI (runR r p seed T)) (qe r p).length) ((0:Int),((0:Int),((0:Int),())))).1)&&_)=some true;simp only[beq_self_eq_true,Bool.true_and];simp[runR]
          · have hw:qS r p seed steps=14:=by unfold qS;rw[if_neg (by simp[h1]),if_neg h2,if_neg (by omega),if_pos h4]
            rw[hw];simp only[b1,hs,Bool.not_true,Bool.and_false,cond_false,Option.bind_some,h1,decide_eq_false h3,Bool.and_true,beq_self_eq_true,cond_true,gopt,qY hv,bne_t h4];simp
    · have hw:qS r p seed steps=qaT r p:=by unfold qS;rw[if_pos h1]
      rw[hw];simp only[beq_f h1,Bool.false_and,cond_false,Option.bind_some,gopt,bne_t h1,cond_true,if_neg h1];simp
end Go.Proofs.Ytcifaoaepbidoaa
