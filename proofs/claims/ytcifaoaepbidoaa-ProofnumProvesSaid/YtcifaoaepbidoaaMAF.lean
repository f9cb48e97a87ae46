/- Several texts in one: CoreR, CoreS2, CoreA, CoreB, Search, SearchP, SearchR, CoreK, CoreT, PnA, PnB, PnC, PnD, PnE, PnF, PnG, PnH, ProofnumProvesL. -/
import Derived.Test.YtcifaoaepbidoaaMAE
import Derived.Test.YtcifaoaepbidoaaMAD
namespace Go.Proofs.Ytcifaoaepbidoaa
open Go.Den
set_option linter.unusedVariables false
set_option linter.unusedSimpArgs false
set_option maxRecDepth 100000

def own (r:Rules) (p:Place) (pl x y:Int):Bool:=onB r x y&&(decide (cellI p (sq r x y)>0)&&((cellI p (sq r x y)-1).tmod 2==pl))
def runB (r:Rules) (p:Place) (pl:Int) (n:Nat) (x y dx dy:Int):Bool:=(List.range n).all fun i=>own r p pl (x+(i:Int)*dx) (y+(i:Int)*dy)
theorem runB_cons (r:Rules) (p:Place) (pl:Int) (n:Nat) (x y dx dy:Int):runB r p pl (n+1) x y dx dy=(own r p pl x y&&runB r p pl n (x+dx) (y+dy) dx dy):=by
  unfold runB;rw[List.range_succ_eq_map,List.all_cons,List.all_map];have e:((fun i:Nat=>own r p pl (x+(i:Int)*dx) (y+(i:Int)*dy))∘Nat.succ)=fun i:Nat=>own r p pl (x+dx+(i:Int)*dx) (y+dy+(i:Int)*dy):=by
    funext i;simp only[Function.comp]
    have e1:x+((i.succ:Nat):Int)*dx=x+dx+(i:Int)*dx:=by rw[show((i.succ:Nat):Int)=(i:Int)+1 by omega,Int.add_mul];omega
    have e2:y+((i.succ:Nat):Int)*dy=y+dy+(i:Int)*dy:=by rw[show((i.succ:Nat):Int)=(i:Int)+1 by omega,Int.add_mul];omega
    rw[e1,e2]
  rw[e];simp
theorem runB_iff {r:Rules} {p:Place} {pl:Int} {n:Nat} {x y dx dy:Int}:runB r p pl n x y dx dy=true↔∀i:Nat,i<n→own r p pl (x+(i:Int)*dx) (y+(i:Int)*dy)=true:=by
  unfold runB;rw[List.all_eq_true];exact⟨fun h i hi=>h i (List.mem_range.2 hi),fun h i hi=>h i (List.mem_range.1 hi)⟩
theorem qfl {r:Rules} {p:Place} {pl:Int} {n:Nat} {x y dx dy:Int} (h:runB r p pl n x y dx dy=true):runB r p pl n (x+((n:Int)-1)*dx) (y+((n:Int)-1)*dy) (-dx) (-dy)=true:=by
  rw[runB_iff] at *;intro i hi;have:=h (n-1-i) (by omega);have e1:x+((n:Int)-1)*dx+(i:Int)*(-dx)=x+((n-1-i:Nat):Int)*dx:=by
    rw[show((n-1-i:Nat):Int)=(n:Int)-1-(i:Int) by omega,Int.sub_mul ((n:Int)-1),Int.mul_neg];omega
  have e2:y+((n:Int)-1)*dy+(i:Int)*(-dy)=y+((n-1-i:Nat):Int)*dy:=by
    rw[show((n-1-i:Nat):Int)=(n:Int)-1-(i:Int) by omega,Int.sub_mul ((n:Int)-1),Int.mul_neg];omega
  rw[e1,e2];exact this
theorem qoq {r:Rules} {p:Place} {pl x y:Int} (h:own r p pl x y=true):onB r x y=true:=by unfold own at h;rw[Bool.and_eq_true] at h;exact h.1
abbrev dX (d:Nat):Int:=getD' [(1:Int),(0:Int),(1:Int),(1:Int)] d 0
abbrev dY (d:Nat):Int:=getD' [(0:Int),(1:Int),(1:Int),(-1:Int)] d 0
abbrev eX (d:Nat):Int:=getD' [(-1:Int),(0:Int),(-1:Int),(1:Int)] d 0
abbrev eY (d:Nat):Int:=getD' [(0:Int),(-1:Int),(-1:Int),(-1:Int)] d 0
def lineB (r:Rules) (p:Place) (pl c:Int):Bool:=(List.range p.1.length).any fun s=>(List.range 4).any fun d=>runB r p pl c.toNat ((s:Int).tmod r.width) ((s:Int).tdiv r.width) (dX d) (dY d)
def qkA (r:Rules) (p:Place) (pl c:Int):Bool:=(List.range r.height.toNat).any fun y=>(List.range r.width.toNat).any fun x=>(List.range 4).any fun d=>runB r p pl c.toNat (x:Int) (y:Int) (eX d) (eY d)
theorem sq_div {r:Rules} {x y:Int} (h:onB r x y=true):(sq r x y).tmod r.width=x∧(sq r x y).tdiv r.width=y:=by
  obtain⟨h1,h2,h3,h4⟩:=onB_iff.1 h
  have h0:0≤sq r x y:=by unfold sq;have:=Int.mul_nonneg h3 (show 0≤r.width by omega);omega
  rw[Int.tmod_eq_emod_of_nonneg h0,Int.tdiv_eq_ediv_of_nonneg h0];unfold sq;rw[Int.add_comm,Int.add_mul_emod_self_right,Int.add_mul_ediv_right _ _ (by omega),Int.emod_eq_of_lt h1 h2,Int.ediv_eq_zero_of_lt h1 h2];omega
theorem qiu {r:Rules} {p:Place} (h:Valid r p) {pl c x y:Int} {d:Nat} (hc:1≤c) (hd:d<4) (hr:runB r p pl c.toNat x y (dX d) (dY d)=true):lineB r p pl c=true:=by
  have hon:onB r x y=true:=by
    have:=runB_iff.1 hr 0 (by omega);exact qoq (by simpa using this)
  have hs:=qh6 h.r0 hon;have hlen:((p.1.length:Nat):Int)=r.width*r.height:=h.cells;unfold lineB;rw[List.any_eq_true];refine⟨(sq r x y).toNat,List.mem_range.2 (by omega),?_⟩;rw[List.any_eq_true];refine⟨d,List.mem_range.2 hd,?_⟩;rw[Int.toNat_of_nonneg hs.1,(sq_div hon).1,(sq_div hon).2];exact hr
theorem qg6 {r:Rules} {p:Place} (h:Valid r p) {pl c x y:Int} {d:Nat} (hc:1≤c) (hd:d<4) (hr:runB r p pl c.toNat x y (eX d) (eY d)=true):qkA r p pl c=true:=by
  have hon:onB r x y=true:=by
    have:=runB_iff.1 hr 0 (by omega);exact qoq (by simpa using this)
  obtain⟨h1,h2,h3,h4⟩:=onB_iff.1 hon;unfold qkA;rw[List.any_eq_true];refine⟨y.toNat,List.mem_range.2 (by omega),?_⟩;rw[List.any_eq_true];refine⟨x.toNat,List.mem_range.2 (by omega),?_⟩;rw[List.any_eq_true];refine⟨d,List.mem_range.2 hd,?_⟩;rw[Int.toNat_of_nonneg h1,Int.toNat_of_nonneg h3];exact hr
theorem qoP {r:Rules} {p:Place} (h:Valid r p) {pl c:Int} (hc:1≤c):qkA r p pl c=lineB r p pl c:=by
  rw[Bool.eq_iff_iff];constructor
  · intro hl;unfold qkA at hl;simp only[List.any_eq_true,List.mem_range] at hl;obtain⟨y,_,x,_,d,hd,hr⟩:=hl
    have h4:d=0∨d=1∨d=2∨d=3:=by omega
    rcases h4 with rfl | rfl | rfl | rfl
    · exact qiu h (d:=0) hc (by omega) (qfl hr)
    · exact qiu h (d:=1) hc (by omega) (qfl hr)
    · exact qiu h (d:=2) hc (by omega) (qfl hr)
    · exact qiu h (d:=3) hc (by omega) hr
  · intro hl;unfold lineB at hl;simp only[List.any_eq_true,List.mem_range] at hl;obtain⟨s,_,d,hd,hr⟩:=hl
    have h4:d=0∨d=1∨d=2∨d=3:=by omega
    rcases h4 with rfl | rfl | rfl | rfl
    · exact qg6 h (d:=0) hc (by omega) (qfl hr)
    · exact qg6 h (d:=1) hc (by omega) (qfl hr)
    · exact qg6 h (d:=2) hc (by omega) (qfl hr)
    · exact qg6 h (d:=3) hc (by omega) hr
theorem dX_rng (d:Nat) : -1≤dX d∧dX d≤1:=by
  match d with
  | 0=>decide
  | 1=>decide
  | 2=>decide
  | 3=>decide
  | n+4=>simp[dX,getD']
theorem dY_rng (d:Nat) : -1≤dY d∧dY d≤1:=by
  match d with
  | 0=>decide
  | 1=>decide
  | 2=>decide
  | 3=>decide
  | n+4=>simp[dY,getD']
theorem line3 {r:Rules} {p:Place} (h:Valid r p) {pl c:Int} (d:Nat) (hc:c≤64):∀(m:Nat) (x y n:Int),0≤n→n+m=c→(-1≤x∧x≤8)→(-1≤y∧y≤8) →
    ∃n',iterW (qcN c r p pl (((d:Int),()),())) ((x,y,n,()),())=some ((n',()),())∧(n'==c)=runB r p pl m x y (dX d) (dY d)
  | 0,x,y,n,h0,hn,hx,hy=>by
    refine⟨n,qk ?_,?_⟩
    · unfold qcN
      have:decide (n<c)=false:=by simp;omega
      simp only[this,cond_false,Option.bind_some]
    · rw[beq_t (by omega)];rfl
  | m+1,x,y,n,h0,hn,hx,hy=>by
    have hr:=h.r0;have:=hr.w8;have:=hr.h8;have:=hr.w1;have:=hr.h1;have ha:=hr.area
    have hlt:decide (n<c)=true:=by simp;omega
    have hoff:((((decide (x<(0:Int)))||(decide (x≥r.2.1)))||(decide (y<(0:Int))))||(decide (y≥r.2.2.1))) = !onB r x y:=by
      rw[Bool.eq_iff_iff];simp only[Bool.or_eq_true,decide_eq_true_eq,Bool.not_eq_true',onB,decide_eq_false_iff_not];show((x<0∨x≥r.width)∨y<0)∨y≥r.height↔_;omega
    have hown:(bif (decide (n<c)) then(bif ((((decide (x<(0:Int)))||(decide (x≥r.2.1)))||(decide (y<(0:Int))))||(decide (y≥r.2.2.1))) then some ((false,()),())
        else Option.bind (at? p.1 (w64 ((w64 (y*r.2.1))+x))) fun d4 =>
        req (imp (decide (d4>(0:Int))) true) (some ((((decide (d4>(0:Int)))&&(((w64 (d4-(1:Int))).tmod (2:Int))==pl)),()),())))
        else some ((false,()),()))=some ((own r p pl x y,()),()):=by
      rw[hlt,cond_true,hoff];unfold own
      cases hb:onB r x y with
      | false=>rfl
      | true =>
        have hs:=qh6 hr hb;obtain⟨b1,b2,b3,b4⟩:=onB_iff.1 hb;have hmul:=qhS (show 0≤r.width by omega) b3 b4;have w1:w64 (y*r.2.1)=y*r.2.1:=qd (by show _≤y*r.width;omega) (by show y*r.width≤_;omega);have w2:w64 (y*r.2.1+x)=sq r x y:=qd (by show _≤sq r x y;omega) (by show sq r x y≤_;omega);have hcs:=qcJ h (sq r x y);rw[w1,w2,qbL (p:=p) hs.1 (by rw[h.cells];exact hs.2)]
        simp only[Bool.not_true,cond_false,Option.bind_some,show ∀b,imp b true=true from fun b=>by cases b<;>rfl,qg,Bool.true_and]
        rw[qd (n:=cellI p (sq r x y)-1) (by omega) (by omega)]
    rw[runB_cons]
    cases ho:own r p pl x y with
    | false =>
      refine⟨n,qk ?_,?_⟩
      · unfold qcN;rw[hown,ho];rfl
      · rw[beq_f (by omega)];rfl
    | true =>
      obtain⟨b1,b2,b3,b4⟩:=onB_iff.1 (qoq ho);have r1:=dX_rng d;have r2:=dY_rng d;obtain⟨n',e1,e2⟩:=line3 h (pl:=pl) d hc m (x+dX d) (y+dY d) (n+1) (by omega) (by omega) (by omega) (by omega);refine⟨n',?_,by rw[e2];simp⟩
      rw[qs (y:=((x+dX d,y+dY d,n+1,()),())) (by
        unfold qcN;rw[hown,ho];simp only[Option.bind_some,cond_true,Int.toNat_natCast]
        rw[qd (n:=x+dX d) (by omega) (by omega),qd (n:=y+dY d) (by omega) (by omega),qd (n:=n+1) (by omega) (by omega)])]
      exact e1
theorem line_spec {r:Rules} {p:Place} (h:Valid r p) (pl:Int) {c:Int} (hc1:1≤c) (hc:c≤64):qiv r p pl c=some (lineB r p pl c):=by
  have hr:=h.r0;have:=hr.w8;have:=hr.h8;have:=hr.w1;have:=hr.h1;have ha:=hr.area;have hlen:((p.1.length:Nat):Int)=r.width*r.height:=h.cells;have hq:(r.2.1 !=0)=true:=bne_t (by show ¬r.width=0;omega);unfold qiv
  have hL:=qan (List.range p.1.length) (fun s=>(List.range 4).any fun d=>runB r p pl c.toNat ((s:Int).tmod r.width) ((s:Int).tdiv r.width) (dX d) (dY d)) (qd7 p r c pl) (.inr true) (.inl ((),())) (fun s hs=>by
    have hs':s<p.1.length:=by simpa using hs
    have hdv:=qen hr (show(0:Int)≤(s:Int) by omega) (show(s:Int)<r.width*r.height by omega)
    have hL2:=qan (List.range 4) (fun d=>runB r p pl c.toNat ((s:Int).tmod r.width) ((s:Int).tdiv r.width) (dX d) (dY d)) (qem r c p pl (((s:Int),()),())) (.inr (.inr (.inr (.inr true)))) (.inl ((),())) (fun d hd=>by
      have hd':d<4:=by simpa using hd
      have w1:w64 ((s:Int).tdiv r.2.1)=(s:Int).tdiv r.width:=qd (by show _≤(s:Int).tdiv r.width;omega) (by show(s:Int).tdiv r.width≤_;omega);obtain⟨n',e1,e2⟩:=line3 h (pl:=pl) (c:=c) d hc c.toNat ((s:Int).tmod r.width) ((s:Int).tdiv r.width) 0 (by omega) (by omega) (by omega) (by omega);unfold qem;simp only[show decide ((d:Int)<4)=true by simp;omega,cond_true,show inb (d:Int) 4=true from inb_iff.2 ⟨by omega,by omega⟩,qg,hq,w1];rw[show((s:Int).tmod r.2.1)=(s:Int).tmod r.width from rfl,e1,Option.bind_some];simp only[List.getElem_range];rw[←e2,qd (n:=(d:Int)+1) (by omega) (by omega)]
      cases (n'==c)<;>rfl) (by
      unfold qem
      rfl)
    unfold qd7;simp only[show decide ((s:Int)<((p.1.length:Nat):Int))=true by simp;omega,cond_true,List.getElem_range];rw[hL2,qd (n:=(s:Int)+1) (by omega) (by omega)]
    cases (List.range 4).any (fun d=>runB r p pl c.toNat ((s:Int).tmod r.width) ((s:Int).tdiv r.width) (dX d) (dY d))<;>rfl) (by
    unfold qd7
    simp)
  rw[hL];unfold lineB
  cases (List.range p.1.length).any (fun s=>(List.range 4).any fun d=>runB r p pl c.toNat ((s:Int).tmod r.width) ((s:Int).tdiv r.width) (dX d) (dY d))<;>rfl
theorem eXY_rng (d:Nat) (hd:d<4):(-1≤eX d∧eX d≤1)∧(-1≤eY d∧eY d≤1)∧¬(eX d=0∧eY d=0):=by
  have h4:d=0∨d=1∨d=2∨d=3:=by omega
  rcases h4 with rfl | rfl | rfl | rfl<;>decide
theorem qlF {n d:Int} (h0:0≤n) (h1 : -1≤d) (h2:d≤1):(d=0∧n*d=0)∨(d=1∧n*d=n)∨(d = -1∧n*d = -n):=by
  have:d=0∨d=1∨d = -1:=by omega
  rcases this with rfl | rfl | rfl<;>simp
theorem lined4 {r:Rules} {p:Place} (h:Valid r p) {pl c:Int} (d:Nat) (hd:d<4) {x y:Int} (hon:onB r x y=true) (s1 s2:Unit) :
    ∃n':Nat,iterW (qcn r p ((x,()),()) ((eX d,eY d,()),()) ((y,()),()) pl) (((0:Int),()),())=some (((n':Int),()),())∧(∀i:Nat,i<n'→own r p pl (x+(i:Int)*eX d) (y+(i:Int)*eY d)=true)∧own r p pl (x+(n':Int)*eX d) (y+(n':Int)*eY d)=false:=by
  have hr:=h.r0;have:=hr.w8;have:=hr.h8;have:=hr.w1;have:=hr.h1;obtain⟨o1,o2,o3,o4⟩:=onB_iff.1 hon;obtain⟨rx,ry,rn⟩:=eXY_rng d hd
  obtain⟨res,h1,n',rfl,h3,h4⟩:=qhA (f:=qcn r p ((x,()),()) ((eX d,eY d,()),()) ((y,()),()) pl) (fun s=>∃n:Nat,s=(((n:Int),()),())∧n≤8∧∀i:Nat,i<n→own r p pl (x+(i:Int)*eX d) (y+(i:Int)*eY d)=true) (fun s=>9-s.1.1.toNat) (fun res=>∃n':Nat,res=(((n':Int),()),())∧(∀i:Nat,i<n'→own r p pl (x+(i:Int)*eX d) (y+(i:Int)*eY d)=true)∧own r p pl (x+(n':Int)*eX d) (y+(n':Int)*eY d)=false) (by
    rintro s ⟨n,rfl,hn8,hall⟩
    have m1:=qlF (n:=(n:Int)) (by omega) rx.1 rx.2;have m2:=qlF (n:=(n:Int)) (by omega) ry.1 ry.2;have w1:w64 ((n:Int)*eX d)=(n:Int)*eX d:=qd (by omega) (by omega);have w2:w64 ((n:Int)*eY d)=(n:Int)*eY d:=qd (by omega) (by omega);have w3:w64 (x+(n:Int)*eX d)=x+(n:Int)*eX d:=qd (by omega) (by omega);have w4:w64 (y+(n:Int)*eY d)=y+(n:Int)*eY d:=qd (by omega) (by omega);have hAt:=qkD h (x+(n:Int)*eX d) (y+(n:Int)*eY d);have hmine:Option.bind (qkv r p (x+(n:Int)*eX d) (y+(n:Int)*eY d)) (fun r6=>qdi r6 pl)=some (own r p pl (x+(n:Int)*eX d) (y+(n:Int)*eY d)):=by
      rw[hAt,Option.bind_some];unfold own
      cases hb:onB r (x+(n:Int)*eX d) (y+(n:Int)*eY d) with
      | false=>simp[qdi,imp,req]
      | true =>
        have hc:=qcJ h (sq r (x+(n:Int)*eX d) (y+(n:Int)*eY d));rw[cond_true,qeO _ _ hc.1 hc.2,Bool.true_and]
    have hstep:qcn r p ((x,()),()) ((eX d,eY d,()),()) ((y,()),()) pl (((n:Int),()),())=bif own r p pl (x+(n:Int)*eX d) (y+(n:Int)*eY d) then some (.inl ((((n+1:Nat):Int),()),())) else some (.inr (((n:Int),()),())):=by
      unfold qcn;simp only[w1,w2,w3,w4];rw[←Option.bind_assoc,hmine,Option.bind_some,qd (n:=(n:Int)+1) (by omega) (by omega)];rfl
    cases ho:own r p pl (x+(n:Int)*eX d) (y+(n:Int)*eY d) with
    | true =>
      left;obtain⟨q1,q2,q3,q4⟩:=onB_iff.1 (qoq ho);refine⟨_,by rw[hstep,ho,cond_true],⟨n+1,rfl,by omega,fun i hi=>?_⟩,by simp;omega⟩;by_cases e:i=n
      · subst e;exact ho
      · exact hall i (by omega)
    | false =>
      right
      exact⟨_,by rw[hstep,ho,cond_false],n,rfl,hall,ho⟩) (((0:Int),()),()) ⟨0,rfl,by omega,fun i hi=>by omega⟩
  exact⟨n',h1,h3,h4⟩
theorem qo9 {r:Rules} {p:Place} (h:Valid r p) (pl:Int) {c:Int} (hc1:1≤c) (hc:c≤64):qeV r p pl c=some (qkA r p pl c):=by
  have hr:=h.r0;have:=hr.w8;have:=hr.h8;have:=hr.w1;have:=hr.h1;unfold qeV
  have hW:((r.width.toNat:Nat):Int)=r.2.1:=by show _=r.width;omega
  have hH:((r.height.toNat:Nat):Int)=r.2.2.1:=by show _=r.height;omega
  have hL:=qan (List.range r.height.toNat) (fun y=>(List.range r.width.toNat).any fun x=>(List.range 4).any fun d=>runB r p pl c.toNat (x:Int) (y:Int) (eX d) (eY d)) (qda r p pl c) (.inr true) (.inl ((),())) (fun y hy=>by
    have hy':y<r.height.toNat:=by simpa using hy
    have hL2:=qan (List.range r.width.toNat) (fun x=>(List.range 4).any fun d=>runB r p pl c.toNat (x:Int) (y:Int) (eX d) (eY d)) (qc7 r p (((y:Int),()),()) pl c) (.inr (.inr (.inr (.inr true)))) (.inl ((),())) (fun x hx=>by
      have hx':x<r.width.toNat:=by simpa using hx
      have hL3:=qan (List.range 4) (fun d=>runB r p pl c.toNat (x:Int) (y:Int) (eX d) (eY d)) (qdb r p (((x:Int),()),()) (((y:Int),()),()) pl c) (.inr (.inr (.inr (.inr (.inr (.inr (.inr true))))))) (.inl ((),())) (fun d hd=>by
        have hd':d<4:=by simpa using hd
        have hon:onB r (x:Int) (y:Int)=true:=onB_iff.2 ⟨by omega,by omega,by omega,by omega⟩;obtain⟨n',e1,e2,e3⟩:=lined4 h (pl:=pl) (c:=c) d hd' hon () ();unfold qdb;simp only[show decide ((d:Int)<4)=true by simp;omega,cond_true,List.length_cons,List.length_nil,show inb (d:Int) (0+1+1+1+1)=true from inb_iff.2 ⟨by omega,by omega⟩,qg,agree_self,Option.bind_some,Int.toNat_natCast];rw[e1,Option.bind_some,qd (n:=(d:Int)+1) (by omega) (by omega)];simp only[List.getElem_range];have hrun:decide ((n':Int)≥c)=runB r p pl c.toNat (x:Int) (y:Int) (eX d) (eY d):=by
          rw[Bool.eq_iff_iff,runB_iff,decide_eq_true_eq];constructor
          · intro hge i hi;exact e2 i (by omega)
          · intro hall;by_cases hlt:(n':Int)≥c
            · exact hlt
            · have:=hall n' (by omega);rw[e3] at this;cases this
        rw[hrun]
        cases runB r p pl c.toNat (x:Int) (y:Int) (eX d) (eY d)<;>rfl) (by
        unfold qdb
        rfl)
      unfold qc7;simp only[show decide ((x:Int)<r.2.1)=true by rw[←hW];simp;omega,cond_true,List.getElem_range];rw[hL3,qd (n:=(x:Int)+1) (by omega) (by omega)]
      cases (List.range 4).any (fun d=>runB r p pl c.toNat (x:Int) (y:Int) (eX d) (eY d))<;>rfl) (by
      unfold qc7;rw[List.length_range,hW]
      simp)
    unfold qda;simp only[show decide ((y:Int)<r.2.2.1)=true by rw[←hH];simp;omega,cond_true,List.getElem_range];rw[hL2,qd (n:=(y:Int)+1) (by omega) (by omega)]
    cases (List.range r.width.toNat).any (fun x=>(List.range 4).any fun d=>runB r p pl c.toNat (x:Int) (y:Int) (eX d) (eY d))<;>rfl) (by
    unfold qda;rw[List.length_range,hH]
    simp)
  rw[hL];unfold qkA
  cases (List.range r.height.toNat).any (fun y=>(List.range r.width.toNat).any fun x=>(List.range 4).any fun d=>runB r p pl c.toNat (x:Int) (y:Int) (eX d) (eY d))<;>rfl

def ql2 (r:Rules) (p:Place) (x:End) (mover:Int):Bool:=(List.range p.1.length).any fun s=>(cellI p (s:Int)==2*x.2.1+mover+1)&&lastB r mover (s:Int)
def fewOf (p:Place) (x:End) (mover:Int):Int:=((p.1.countP (fun c=>c==2*x.2.1+1-mover+1):Nat):Int)
def metB (r:Rules) (p:Place) (x:End) (mover:Int):Bool:=bif x.1==0 then lineB r p mover x.2.2.1 else bif x.1==1 then ql2 r p x mover else decide (fewOf p x mover<x.2.2.1)
structure EndOk (r:Rules) (x:End):Prop where
  kind:0≤x.1∧x.1≤2
  cnt:x.1=0→1≤x.2.2.1∧x.2.2.1≤64
  pc:0≤x.2.1∧x.2.1≤6
theorem Valid.endOk {r:Rules} {p:Place} (h:Valid r p) {x:End} (hx:x∈r.ends):EndOk r x:=by
  obtain⟨h1,h2,h3⟩:=h.r0.ends x hx;have ht:=h.r0.t6;refine⟨h1,fun e=>?_,?_⟩
  · rw[if_neg (by omega)] at h2;exact h2
  · split at h3<;>omega
theorem qn4 (p:Place) (i:Nat) (hi:i<p.1.length):cellI p (i:Int)=p.1[i]:=by
  unfold cellI;rw[List.getD_eq_getElem?_getD,Int.toNat_natCast];simp[hi]
theorem qo1 {r:Rules} {p:Place} (h:Valid r p) {x:End} (hx:EndOk r x) {mover:Int} (hm:mover=0∨mover=1):qgZ r p x mover=some (metB r p x mover):=by
  have hr:=h.r0;have ha:=hr.area;have h64:=qbG h;have hlen:((p.1.length:Nat):Int)=r.width*r.height:=h.cells;have hp:=hx.pc;unfold qgZ metB;by_cases k0:x.1=0
  · rw[beq_t k0,cond_true,cond_true,line_spec h mover (hx.cnt k0).1 (hx.cnt k0).2];rfl
  · rw[beq_f k0,cond_false,cond_false];by_cases k1:x.1=1
    · rw[beq_t k1,cond_true,cond_true]
      have hL:=qan (List.range p.1.length) (fun s=>(cellI p (s:Int)==2*x.2.1+mover+1)&&lastB r mover (s:Int)) (qdB p x mover r) (.inr (.inr true)) (.inl ((),())) (fun s hs=>by
        have hs':s<p.1.length:=by simpa using hs
        unfold qdB;simp only[show decide ((s:Int)<((p.1.length:Nat):Int))=true by simp;omega,cond_true,List.getElem_range];rw[qbL (p:=p) (s:=(s:Int)) (by omega) (by show(s:Int)<((p.1.length:Nat):Int);omega),Option.bind_some,qiU hr mover (by omega) (by omega)];rw[qd (n:=2*x.2.1) (by omega) (by omega),qd (n:=2*x.2.1+mover) (by omega) (by omega),qd (n:=2*x.2.1+mover+1) (by omega) (by omega),qd (n:=(s:Int)+1) (by omega) (by omega)]
        cases (cellI p (s:Int)==2*x.2.1+mover+1)<;>cases lastB r mover (s:Int)<;>rfl) (by
        unfold qdB
        simp)
      rw[hL];unfold ql2
      cases (List.range p.1.length).any (fun s=>(cellI p (s:Int)==2*x.2.1+mover+1)&&lastB r mover (s:Int))<;>rfl
    · rw[beq_f k1,cond_false,cond_false,Option.bind_some,Sum.elim_inl]
      have hL:=qpq p.1 (fun c=>c==2*x.2.1+1-mover+1) (qdr p x mover) (fun c=>((c,()),())) (fun i hi c c0 ci=>by
        unfold qdr;simp only[show decide ((i:Int)<((p.1.length:Nat):Int))=true by simp;omega,cond_true];rw[qbL (p:=p) (s:=(i:Int)) (by omega) (by show(i:Int)<((p.1.length:Nat):Int);omega),Option.bind_some,qn4 p i hi];rw[qd (n:=2*x.2.1) (by omega) (by omega),qd (n:=2*x.2.1+1) (by omega) (by omega),qd (n:=2*x.2.1+1-mover) (by omega) (by omega),qd (n:=2*x.2.1+1-mover+1) (by omega) (by omega),qd (n:=(i:Int)+1) (by omega) (by omega),qd (n:=c+1) (by omega) (by omega)];cases (p.1[i]==2*x.2.1+1-mover+1)<;>rfl) (fun c=>by
        unfold qdr
        simp)
      rw[hL];rfl
def endE (r:Rules) (p:Place) (i:Nat):Option (((Unit)×(Unit)) ⊕ Int):=match r.2.2.2.2.2.2.2.1[i]? with
  | some x=>bif metB r p x (1-p.turn) then some (.inr (bif x.2.2.2.1 then 1+p.turn else 1+(1-p.turn))) else none
  | none=>none
def qiw (r:Rules) (p:Place):Int:=bif r.blocked==0 then 1+(1-p.turn) else bif r.blocked==1 then 1+p.turn else 3
def qn (r:Rules) (p:Place):Int:=match scan (endE r p) (.inl ((),())) 0 r.2.2.2.2.2.2.2.1.length with
  | .inl _=>bif (r.quiet !=0)&&decide (p.quiet≥r.quiet) then 3 else bif decide ((((qe r p).length:Nat):Int)>0) then 0 else qiw r p
  | .inr v=>v
theorem qlV {r:Rules} {p:Place} (h:Valid r p):w64 ((1:Int)-p.2.2.1)=1-p.turn∧w64 ((1:Int)+p.2.2.1)=1+p.turn∧w64 (1+(1-p.turn))=1+(1-p.turn)∧w64 (1+p.turn)=1+p.turn:=by
  have ht:=h.turn;refine⟨qd (by show _≤1-p.turn;omega) (by show 1-p.turn≤_;omega),qd (by show _≤1+p.turn;omega) (by show 1+p.turn≤_;omega),qd (by omega) (by omega),qd (by omega) (by omega)⟩
theorem qf4 {r:Rules} {p:Place} (h:Valid r p):qav r p=some (qn r p):=by
  have ht:=h.turn;obtain⟨t1,t2,t3,t4⟩:=qlV h;have h6:r.2.2.2.2.2.2.2.1.length≤6:=h.r0.ends6;unfold qav qn
  have hL:=qky r.2.2.2.2.2.2.2.1.length (qcD r p) (endE r p) (.inl ((),())) (fun i hi=>by
    unfold qcD endE;rw[List.getElem?_eq_getElem hi];simp only[show decide ((i:Int)<((r.2.2.2.2.2.2.2.1.length:Nat):Int))=true by simp;omega,cond_true];rw[at?_eq r.2.2.2.2.2.2.2.1 (i:Int) (by omega) (by omega),Option.bind_some,t1];simp only[Int.toNat_natCast];rw[qo1 h (h.endOk (List.getElem_mem hi)) (by omega),Option.bind_some];cases metB r p r.2.2.2.2.2.2.2.1[i] (1-p.turn)
    · simp only[cond_false];rw[qd (n:=(i:Int)+1) (by omega) (by omega)];rfl
    · simp only[cond_true,show decide ((i:Int)≥0)=true by simp,Option.bind_some];unfold qbx;rw[t3,show p.2.2.1=p.turn from rfl,t4]
      cases (r.2.2.2.2.2.2.2.1[i]).2.2.2.1<;>rfl) (by
    unfold qcD
    simp)
  rw[hL,Option.bind_some]
  cases scan (endE r p) (.inl ((),())) 0 r.2.2.2.2.2.2.2.1.length with
  | inr v=>rfl
  | inl u =>
    simp only[Sum.elim_inl];rw[show((r.2.2.2.2.2.2.2.2.2.1 !=(0:Int))&&(decide (p.2.2.2.1≥r.2.2.2.2.2.2.2.2.2.1)))=((r.quiet !=0)&&decide (p.quiet≥r.quiet)) from rfl];cases ((r.quiet !=0)&&decide (p.quiet≥r.quiet))
    · rw[cond_false,cond_false,qje h,Option.bind_some];cases decide ((((qe r p).length:Nat):Int)>0)
      · rw[cond_false,cond_false,t1];unfold qiw qbx;rw[t3,show p.2.2.1=p.turn from rfl,t4,show r.2.2.2.2.2.2.2.2.1=r.blocked from rfl]
        cases (r.blocked==0)<;>cases (r.blocked==1)<;>rfl
      · rfl
    · rfl
theorem qpA {A C R:Type} (n:Nat) (f:((A×C×Int×Unit)×Unit)→Option (((A×C×Int×Unit)×Unit) ⊕ R)) (a:Nat→A) (c:Nat→C) (res:R)
    (hs:∀i,i<n→f ((a i,c i,(i:Int),()),())=some (.inl ((a (i+1),c (i+1),((i:Int)+1),()),()))) (he:f ((a n,c n,(n:Int),()),())=some (.inr res)) :
    iterW f ((a 0,c 0,(0:Int),()),())=some res :=
  qaO (f:=f) n (fun i=>((a i,c i,(i:Int),()),())) res (fun i hi=>by rw[hs i hi];rfl) he
theorem far2 {r:Rules} (hr:VR0 r) {mover:Int} (hm:mover=0∨mover=1) {t:Int} (h0:0≤t) (h1:t<r.width*r.height):qd8 r mover (w64 (t.tdiv r.2.1))=lastB r mover t:=by
  have:=hr.w8;have:=hr.h8;have:=hr.w1;have:=hr.h1;have hd:=qen hr h0 h1;have w1:w64 (t.tdiv r.2.1)=t.tdiv r.width:=qd (by show _≤t.tdiv r.width;omega) (by show t.tdiv r.width≤_;omega);have w2:w64 (r.2.2.1-1)=r.height-1:=qd (by show _≤r.height-1;omega) (by show r.height-1≤_;omega);unfold qd8 lastB;rw[w1,w2]
  rcases hm with e | e<;>rw[e]<;>simp
theorem refLoop {r:Rules} {p:Place} (h:Valid r p) {x:End} (hx:EndOk r x) (b0:Bool):iterW (qbM p x r) ((b0,(0:Int),(0:Int),()),())=some ((b0||((x.1==1)&&ql2 r p x (1-p.turn)),fewOf p x (1-p.turn),()),()):=by
  have hr:=h.r0;have:=hr.w1;have ha:=hr.area;have h64:=qbG h;have hlen:((p.1.length:Nat):Int)=r.width*r.height:=h.cells;have hp:=hx.pc;have ht:=h.turn;obtain⟨t1,t2,t3,t4⟩:=qlV h;have hq:(r.2.1 !=0)=true:=bne_t (by show ¬r.width=0;omega)
  have himp:∀b,imp b true=true:=fun b=>by cases b<;>rfl
  have key:=qpA p.1.length (qbM p x r) (fun i=>b0||((x.1==1)&&(List.range i).any fun s=>(cellI p (s:Int)==2*x.2.1+(1-p.turn)+1)&&lastB r (1-p.turn) (s:Int))) (fun i=>(((p.1.take i).countP (fun c=>c==2*x.2.1+1-(1-p.turn)+1):Nat):Int)) ((b0||((x.1==1)&&ql2 r p x (1-p.turn)),fewOf p x (1-p.turn),()),()) (fun i hi=>by
    unfold qbM;simp only[show decide ((i:Int)<((p.1.length:Nat):Int))=true by simp;omega,cond_true];rw[qbL (p:=p) (s:=(i:Int)) (by omega) (by show(i:Int)<((p.1.length:Nat):Int);omega),Option.bind_some,hq,himp,qg,t1,far2 hr (by omega) (by omega) (by omega)];rw[show p.2.2.1=p.turn from rfl,qd (n:=2*x.2.1) (by omega) (by omega),qd (n:=2*x.2.1+(1-p.turn)) (by omega) (by omega),qd (n:=2*x.2.1+(1-p.turn)+1) (by omega) (by omega),qd (n:=2*x.2.1+p.turn) (by omega) (by omega),qd (n:=2*x.2.1+p.turn+1) (by omega) (by omega),qd (n:=(i:Int)+1) (by omega) (by omega)];have hcl:(p.1.take i).countP (fun c=>c==2*x.2.1+1-(1-p.turn)+1)≤i:=Nat.le_trans List.countP_le_length (by simp;omega)
    rw[qd (n:=(((p.1.take i).countP (fun c=>c==2*x.2.1+1-(1-p.turn)+1):Nat):Int)+1) (by omega) (by omega)];rw[List.range_succ,List.any_append,List.take_succ_eq_append_getElem hi,List.countP_append,←qn4 p i hi];simp only[List.any_cons,List.any_nil,Bool.or_false,List.countP_cons,List.countP_nil];rw[show 2*x.2.1+1-(1-p.turn)+1=2*x.2.1+p.turn+1 by omega]
    have e1:(bif ((x.1==1&&cellI p (i:Int)==2*x.2.1+(1-p.turn)+1)&&lastB r (1-p.turn) (i:Int)) then some ((true,()),()) else some (((b0||((x.1==1)&&(List.range i).any fun s=>(cellI p (s:Int)==2*x.2.1+(1-p.turn)+1)&&lastB r (1-p.turn) (s:Int))),()),()))=some (((b0||((x.1==1)&&((List.range i).any (fun s=>(cellI p (s:Int)==2*x.2.1+(1-p.turn)+1)&&lastB r (1-p.turn) (s:Int))||((cellI p (i:Int)==2*x.2.1+(1-p.turn)+1)&&lastB r (1-p.turn) (i:Int))))),()),()):=by
      generalize (List.range i).any (fun s=>(cellI p (s:Int)==2*x.2.1+(1-p.turn)+1)&&lastB r (1-p.turn) (s:Int))=q
      cases b0<;>cases (x.1==1)<;>cases (cellI p (i:Int)==2*x.2.1+(1-p.turn)+1)<;>cases lastB r (1-p.turn) (i:Int)<;>cases q<;>rfl
    rw[e1,Option.bind_some]
    cases (cellI p (i:Int)==2*x.2.1+p.turn+1)<;>simp) (by
    unfold qbM;simp only[show decide (((p.1.length:Nat):Int)<((p.1.length:Nat):Int))=false by simp,cond_false,List.take_length]
    rfl)
  simpa using key
theorem qfO {r:Rules} {p:Place} (h:Valid r p):qcK r p=some (qn r p):=by
  have ht:=h.turn;obtain⟨t1,t2,t3,t4⟩:=qlV h;have h6:r.2.2.2.2.2.2.2.1.length≤6:=h.r0.ends6;have hbl:=h.r0.blocked;unfold qcK qn
  have hL:=qky r.2.2.2.2.2.2.2.1.length (qcH r p) (endE r p) (.inl ((),())) (fun i hi=>by
    have hx:=h.endOk (List.getElem_mem hi);unfold qcH endE;rw[List.getElem?_eq_getElem hi];simp only[show decide ((i:Int)<((r.2.2.2.2.2.2.2.1.length:Nat):Int))=true by simp;omega,cond_true];rw[at?_eq r.2.2.2.2.2.2.2.1 (i:Int) (by omega) (by omega),Option.bind_some,t1];simp only[Int.toNat_natCast];obtain⟨x,hxe⟩:∃x,r.2.2.2.2.2.2.2.1[i]=x:=⟨_,rfl⟩;rw[show r.ends[i]=r.2.2.2.2.2.2.2.1[i] from rfl,hxe] at hx;simp only[hxe];have hl:gopt (x.1==0) false (qeV r p (1-p.turn) x.2.2.1)=some ((x.1==0)&&lineB r p (1-p.turn) x.2.2.1):=by
      by_cases k0:x.1=0
      · rw[beq_t k0,qo9 h (1-p.turn) (hx.cnt k0).1 (hx.cnt k0).2,qoP h (hx.cnt k0).1];rfl
      · rw[beq_f k0];rfl
    rw[hl,Option.bind_some,refLoop h hx,Option.bind_some,t2,t3,qd (n:=(i:Int)+1) (by omega) (by omega)]
    have hk:x.1=0∨x.1=1∨x.1=2:=by have:=hx.kind;omega
    unfold metB
    rcases hk with k | k | k<;>rw[k]<;>simp only[show((0:Int)==0)=true from rfl,show((0:Int)==1)=false from rfl,show((0:Int)==2)=false from rfl,show((1:Int)==0)=false from rfl,show((1:Int)==1)=true from rfl,show((1:Int)==2)=false from rfl,show((2:Int)==0)=false from rfl,show((2:Int)==1)=false from rfl,show((2:Int)==2)=true from rfl,Bool.true_and,Bool.false_and,Bool.or_false,Bool.false_or,cond_true,cond_false]
    · cases lineB r p (1-p.turn) x.2.2.1<;>cases x.2.2.2.1<;>rfl
    · cases ql2 r p x (1-p.turn)<;>cases x.2.2.2.1<;>rfl
    · cases decide (fewOf p x (1-p.turn)<x.2.2.1)<;>cases x.2.2.2.1<;>rfl) (by
    unfold qcH
    simp)
  rw[hL,Option.bind_some]
  cases scan (endE r p) (.inl ((),())) 0 r.2.2.2.2.2.2.2.1.length with
  | inr v=>rfl
  | inl u =>
    simp only[Sum.elim_inl];rw[show((r.2.2.2.2.2.2.2.2.2.1 !=(0:Int))&&(decide (p.2.2.2.1≥r.2.2.2.2.2.2.2.2.2.1)))=((r.quiet !=0)&&decide (p.quiet≥r.quiet)) from rfl];cases ((r.quiet !=0)&&decide (p.quiet≥r.quiet))
    · rw[cond_false,cond_false,qes h,Option.bind_some];cases decide ((((qe r p).length:Nat):Int)>0)
      · rw[cond_false,cond_false,t1,t2,t3]
        have hb:r.blocked=0∨r.blocked=1∨r.blocked=2:=by omega
        unfold qiw;rw[show r.2.2.2.2.2.2.2.2.1=r.blocked from rfl]
        rcases hb with e | e | e<;>rw[e]<;>rfl
      · rfl
    · rfl

def qeS (p:Place) (m:Mv):Int:=2*m.2.2.1+p.turn+1
def qdx (p:Place) (m:Mv):List Int:=(bif decide (m.1≥0) then p.1.set m.1.toNat 0 else p.1).set m.2.1.toNat (qeS p m)
def handD (m:Mv) (h:List Int):List Int:=bif decide (m.1≥0) then h else h.set m.2.2.1.toNat (h.getD m.2.2.1.toNat 0-1)
def handK (r:Rules) (c:Int) (h:List Int):List Int:=bif decide (c>0)&&r.keeps then h.set (qZ c).toNat (if 1000<h.getD (qZ c).toNat 0+1 then 1000 else h.getD (qZ c).toNat 0+1) else h
def handA (r:Rules) (p:Place) (m:Mv) (h:List Int):List Int:=handK r (cellI p m.2.1) (handD m h)
def qjx (p:Place) (m:Mv):Int:=bif decide (cellI p m.2.1>0)||decide (m.1<0) then 0 else if 200<p.quiet+1 then 200 else p.quiet+1
def qat (r:Rules) (p:Place) (m:Mv):Place:=(qdx p m,((bif p.turn==0 then handA r p m p.2.1.1 else p.2.1.1),(bif p.turn==0 then p.2.1.2.1 else handA r p m p.2.1.2.1),()),1-p.turn,qjx p m,())
theorem qiG {r:Rules} {p:Place} (h:Valid r p):qci p=some p:=by
  have h64:=qbG h;have ht:=h.r0.t6;have a0:p.2.1.1.length=r.pieces.length:=h.l0;have a1:p.2.1.2.1.length=r.pieces.length:=h.l1;unfold qci;rw[qld p.1 (by omega),qld p.2.1.1 (by omega),qld p.2.1.2.1 (by omega)];simp only[Option.bind_some,agree_self]
theorem qbZ {r:Rules} {p:Place} {m:Mv} (ha:qD r p m=true):(-1≤m.1∧m.1<((p.1.length:Nat):Int))∧(0≤m.2.1∧m.2.1<((p.1.length:Nat):Int))∧(0≤m.2.2.1∧m.2.2.1<((r.pieces.length:Nat):Int)):=by
  unfold qD mvOk at ha;rw[Bool.and_eq_true,decide_eq_true_eq] at ha;exact ha.1
theorem qgb {r:Rules} {p:Place} {m:Mv} (ha:qD r p m=true) (hm:m.1 = -1):handI p m.2.2.1>0∧cellI p m.2.1=0:=by
  unfold qD putOk at ha;rw[beq_t hm,cond_true] at ha;simp only[Bool.and_eq_true,decide_eq_true_eq,beq_iff_eq] at ha;exact⟨ha.2.1,ha.2.2.1⟩
theorem qeN (m:Mv) (h:List Int):(handD m h).length=h.length:=by unfold handD;cases decide (m.1≥0)<;>simp
theorem qiZ (r:Rules) (c:Int) (h:List Int):(handK r c h).length=h.length:=by unfold handK;cases (decide (c>0)&&r.keeps)<;>simp
theorem qfB {l:List Int} {b:Int} (hb:0≤b) (h:∀c∈l,0≤c∧c≤b) (i:Nat):0≤l.getD i 0∧l.getD i 0≤b:=by
  rw[List.getD_eq_getElem?_getD]
  cases e:l[i]? with
  | none=>simp;exact hb
  | some c=>exact h c (List.mem_of_getElem? e)
theorem qjb {r:Rules} {p:Place} {m:Mv} (h:Valid r p) (ha:qD r p m=true):∀c∈handD m (qbc p),0≤c∧c≤1000:=by
  have hr:=qkP h;unfold handD
  cases hd:decide (m.1≥0) with
  | true=>exact hr
  | false =>
    intro c hc;rw[cond_false] at hc
    have hm:m.1 = -1:=by have:=(qbZ ha).1.1;simp at hd;omega
    have hp:=(qgb ha hm).1;have hg:=qfB (by omega) hr m.2.2.1.toNat;rcases List.mem_or_eq_of_mem_set hc with h1 | h1
    · exact hr c h1
    · unfold handI at hp;omega
theorem handK_rng {r:Rules} {c:Int} {h:List Int} (hh:∀x∈h,0≤x∧x≤1000):∀x∈handK r c h,0≤x∧x≤1000:=by
  unfold handK
  cases (decide (c>0)&&r.keeps) with
  | false=>exact hh
  | true =>
    intro x hx;have hg:=qfB (by omega) hh (qZ c).toNat;rcases List.mem_or_eq_of_mem_set hx with h1 | h1
    · exact hh x h1
    · rw[h1];split<;>omega
theorem qmJ {r:Rules} {p:Place} {m:Mv} (hv:Valid r p) (ha:qD r p m=true) (l:List Int) (hl:l=qbc p) :
    (decide (m.1≥0)=false→inb m.2.2.1 l.length=true∧w64 (getD' l m.2.2.1.toNat 0-1)=l.getD m.2.2.1.toNat 0-1) ∧
    (decide (cellI p m.2.1>0)=true→inb (qZ (cellI p m.2.1)) (handD m l).length=true∧w64 (getD' (handD m l) (qZ (cellI p m.2.1)).toNat 0+1)=(handD m l).getD (qZ (cellI p m.2.1)).toNat 0+1):=by
  subst hl;have hr:=qkP hv;have hl:=qgP hv;obtain⟨r1,r2,r3⟩:=qbZ ha;refine⟨fun _=>⟨inb_iff.2 ⟨r3.1,by rw[hl];exact r3.2⟩,?_⟩,fun hc=>⟨?_,?_⟩⟩
  · have:=qfB (by omega) hr m.2.2.1.toNat;exact qd (by show _≤(qbc p).getD m.2.2.1.toNat 0-1;omega) (by show(qbc p).getD m.2.2.1.toNat 0-1≤_;omega)
  · have hk:=qdd hv (of_decide_eq_true hc);exact inb_iff.2 ⟨hk.2.1,by rw[qeN,hl];exact hk.2.2⟩
  · have:=qfB (by omega) (qjb hv ha) (qZ (cellI p m.2.1)).toNat;exact qd (by show _≤(handD m (qbc p)).getD (qZ (cellI p m.2.1)).toNat 0+1;omega) (by show(handD m (qbc p)).getD (qZ (cellI p m.2.1)).toNat 0+1≤_;omega)
theorem make_spec {r:Rules} {p:Place} {m:Mv} (h:Valid r p) (ha:qD r p m=true):qck r p m=some (qat r p m):=by
  obtain⟨r1,r2,r3⟩:=qbZ ha;have ht6:=h.r0.t6;have hq:=h.quiet;have htn:=h.turn;have h64:=qbG h;have hto:inb m.2.1 p.1.length=true:=inb_iff.2 r2;have wv:w64 (w64 (w64 (2*m.2.2.1)+p.2.2.1)+1)=qeS p m:=by
    unfold qeS;rw[show p.2.2.1=p.turn from rfl,qd (n:=2*m.2.2.1) (by omega) (by omega),qd (n:=2*m.2.2.1+p.turn) (by omega) (by omega),qd (by omega) (by omega)]
  have wq:w64 (p.2.2.2.1+1)=p.quiet+1:=qd (by show _≤p.quiet+1;omega) (by show p.quiet+1≤_;omega);have wt:w64 (1-p.2.2.1)=1-p.turn:=(qlV h).1;have hcell:getD' p.1 m.2.1.toNat 0=cellI p m.2.1:=rfl;have hin:inb p.2.2.1 2=true:=inb_iff.2 (by show 0≤p.turn∧p.turn<((2:Nat):Int);omega);have wk:decide (cellI p m.2.1>0)=true→w64 ((w64 (cellI p m.2.1-1)).tdiv 2)=qZ (cellI p m.2.1):=fun hc=>(qdd h (of_decide_eq_true hc)).1;have hho:qbc p=if p.turn=0 then p.2.1.1 else p.2.1.2.1:=qe7 h;have hneg:decide (m.1<0) = !decide (m.1≥0):=by
    rw[Bool.eq_iff_iff];simp only[decide_eq_true_eq,Bool.not_eq_true',decide_eq_false_iff_not];omega
  unfold qck qat;rw[qiG h,Option.bind_some];simp only[hcell,hto,qg,wv,wq,wt,hin,hneg];rcases htn with e | e
  · have e':p.2.2.1=0:=e;rw[if_pos e] at hho;obtain⟨k1,k2⟩:=qmJ h ha p.2.1.1 hho.symm;simp only[e',e,show((0:Int)==0)=true from rfl,cond_true];unfold handA qdx qjx handK;simp only[hneg]
    cases hd:decide (m.1≥0) with
    | true =>
      have hf:inb m.1 p.1.length=true:=inb_iff.2 ⟨of_decide_eq_true hd,r1.2⟩
      have hD:handD m p.2.1.1=p.2.1.1:=by unfold handD;rw[hd];rfl
      rw[hD] at k2 ⊢;simp only[cond_true,hf,qg,Option.bind_some,List.length_set,hto]
      cases hc:decide (cellI p m.2.1>0) with
      | false=>rfl
      | true =>
        obtain⟨k3,k4⟩:=k2 hc
        cases hk:r.2.2.2.2.2.2.1 with
        | false=>rw[show r.keeps=false from hk];rfl
        | true =>
          rw[show r.keeps=true from hk];simp only[Bool.true_and,cond_true,wk hc,k3,qg,k4,Option.bind_some];rfl
    | false =>
      obtain⟨k5,k6⟩:=k1 hd
      have hD:handD m p.2.1.1=p.2.1.1.set m.2.2.1.toNat (p.2.1.1.getD m.2.2.1.toNat 0-1):=by unfold handD;rw[hd];rfl
      have hz:decide (cellI p m.2.1>0)=false:=by
        have:=(qgb ha (by simp at hd;omega)).2;rw[this];rfl
      rw[hD];simp only[cond_false,k5,k6,qg,Option.bind_some,hz,Bool.false_and,hto];rfl
  · have e':p.2.2.1=1:=e;rw[if_neg (by omega)] at hho;obtain⟨k1,k2⟩:=qmJ h ha p.2.1.2.1 hho.symm;simp only[e',e,show((1:Int)==0)=false from rfl,cond_false];unfold handA qdx qjx handK;simp only[hneg]
    cases hd:decide (m.1≥0) with
    | true =>
      have hf:inb m.1 p.1.length=true:=inb_iff.2 ⟨of_decide_eq_true hd,r1.2⟩
      have hD:handD m p.2.1.2.1=p.2.1.2.1:=by unfold handD;rw[hd];rfl
      rw[hD] at k2 ⊢;simp only[cond_true,hf,qg,Option.bind_some,List.length_set,hto]
      cases hc:decide (cellI p m.2.1>0) with
      | false=>rfl
      | true =>
        obtain⟨k3,k4⟩:=k2 hc
        cases hk:r.2.2.2.2.2.2.1 with
        | false=>rw[show r.keeps=false from hk];rfl
        | true =>
          rw[show r.keeps=true from hk];simp only[Bool.true_and,cond_true,wk hc,k3,qg,k4,Option.bind_some];rfl
    | false =>
      obtain⟨k5,k6⟩:=k1 hd
      have hD:handD m p.2.1.2.1=p.2.1.2.1.set m.2.2.1.toNat (p.2.1.2.1.getD m.2.2.1.toNat 0-1):=by unfold handD;rw[hd];rfl
      have hz:decide (cellI p m.2.1>0)=false:=by
        have:=(qgb ha (by simp at hd;omega)).2;rw[this];rfl
      rw[hD];simp only[cond_false,k5,k6,qg,Option.bind_some,hz,Bool.false_and,hto];rfl
theorem qnP {r:Rules} {p:Place} {m:Mv} (h:Valid r p) (ha:qD r p m=true):Valid r (qat r p m):=by
  obtain⟨r1,r2,r3⟩:=qbZ ha;have htn:=h.turn;have hq:=h.quiet;have hK:=handK_rng (r:=r) (c:=cellI p m.2.1) (qjb h ha);have hho:=qe7 h;refine⟨h.r0,?_,?_,?_,?_,?_,?_,?_,?_⟩
  · show((((bif decide (m.1≥0) then p.1.set m.1.toNat 0 else p.1).set m.2.1.toNat (qeS p m)).length:Nat):Int)=_
    have:((bif decide (m.1≥0) then p.1.set m.1.toNat 0 else p.1).set m.2.1.toNat (qeS p m)).length=p.1.length:=by cases decide (m.1≥0)<;>simp
    rw[this];exact h.cells
  · show(bif p.turn==0 then handA r p m p.2.1.1 else p.2.1.1).length=_;cases (p.turn==0)
    · exact h.l0
    · rw[cond_true];unfold handA;rw[qiZ,qeN];exact h.l0
  · show(bif p.turn==0 then p.2.1.2.1 else handA r p m p.2.1.2.1).length=_;cases (p.turn==0)
    · rw[cond_false];unfold handA;rw[qiZ,qeN];exact h.l1
    · exact h.l1
  · intro c hc;have hc:c∈(bif decide (m.1≥0) then p.1.set m.1.toNat 0 else p.1).set m.2.1.toNat (qeS p m):=hc;rcases List.mem_or_eq_of_mem_set hc with h1 | h1
    · cases hd:decide (m.1≥0) with
      | false=>rw[hd,cond_false] at h1;exact h.cell c h1
      | true =>
        rw[hd,cond_true] at h1;rcases List.mem_or_eq_of_mem_set h1 with h2 | h2
        · exact h.cell c h2
        · have:=h.r0.t1;omega
    · rw[h1];unfold qeS;omega
  · intro c hc;have hc:c∈(bif p.turn==0 then handA r p m p.2.1.1 else p.2.1.1):=hc;rcases htn with e | e
    · rw[beq_t e,cond_true] at hc;rw[if_pos e] at hho;have hc:c∈handK r (cellI p m.2.1) (handD m p.h0):=hc;rw[←hho] at hc;exact hK c hc
    · rw[beq_f (by omega),cond_false] at hc;exact h.hand0 c hc
  · intro c hc;have hc:c∈(bif p.turn==0 then p.2.1.2.1 else handA r p m p.2.1.2.1):=hc;rcases htn with e | e
    · rw[beq_t e,cond_true] at hc;exact h.hand1 c hc
    · rw[beq_f (by omega),cond_false] at hc;rw[if_neg (by omega)] at hho;have hc:c∈handK r (cellI p m.2.1) (handD m p.h1):=hc;rw[←hho] at hc;exact hK c hc
  · show 1-p.turn=0∨1-p.turn=1;omega
  · show 0≤qjx p m∧qjx p m≤200;unfold qjx;cases (decide (cellI p m.2.1>0)||decide (m.1<0))
    · rw[cond_false];split<;>omega
    · simp
def newC (p:Place) (m:Mv) (i:Nat):Int:=bif ((i:Int)==m.2.1) then qeS p m else bif ((i:Int)==m.1) then 0 else p.1.getD i 0
theorem newC_list {p:Place} {m:Mv} (h1 : -1≤m.1) (h2:0≤m.2.1∧m.2.1<((p.1.length:Nat):Int)):(List.range p.1.length).map (newC p m)=qdx p m:=by
  have hl:(qdx p m).length=p.1.length:=by unfold qdx;cases decide (m.1≥0)<;>simp
  apply List.ext_getElem?;intro i;by_cases hi:i<p.1.length
  · rw[List.getElem?_map,List.getElem?_range hi,Option.map_some];unfold newC qdx
    have hg:p.1[i]?=some (p.1.getD i 0):=by rw[List.getD_eq_getElem?_getD,List.getElem?_eq_getElem hi];rfl
    have hl2:(bif decide (m.1≥0) then p.1.set m.1.toNat 0 else p.1).length=p.1.length:=by cases decide (m.1≥0)<;>simp
    rw[List.getElem?_set];by_cases e:(i:Int)=m.2.1
    · rw[beq_t e,cond_true,if_pos (by omega),if_pos (by rw[hl2];omega)]
    · rw[beq_f e,cond_false,if_neg (by omega)];by_cases c:m.1≥0
      · rw[show decide (m.1≥0)=true by simp;omega,cond_true,List.getElem?_set];by_cases e2:(i:Int)=m.1
        · rw[beq_t e2,cond_true,if_pos (by omega),if_pos (by omega)]
        · rw[beq_f e2,cond_false,if_neg (by omega),hg]
      · rw[show decide (m.1≥0)=false by simp;omega,cond_false,beq_f (by omega),cond_false,hg]
  · rw[List.getElem?_eq_none (by simp;omega),List.getElem?_eq_none (by rw[hl];omega)]
def newH (r:Rules) (p:Place) (m:Mv) (h:List Int) (i:Nat):Int :=
  let n:=bif (m.1 == -1)&&((i:Int)==m.2.2.1) then h.getD i 0-1 else h.getD i 0
  bif ((r.keeps&&decide (cellI p m.2.1>0))&&((i:Int)==qZ (cellI p m.2.1)))&&decide (n<1000) then n+1 else n
theorem newH_list {r:Rules} {p:Place} {m:Mv} (hv:Valid r p) (ha:qD r p m=true) (l:List Int) (hl:l=qbc p):(List.range l.length).map (newH r p m l)=handA r p m l:=by
  obtain⟨r1,r2,r3⟩:=qbZ ha
  have hlen:(handA r p m l).length=l.length:=by unfold handA;rw[qiZ,qeN]
  have hDr:∀c∈handD m l,0≤c∧c≤1000:=by rw[hl];exact qjb hv ha
  have hDl:=qeN m l
  have hgD:∀(xs:List Int) (i:Nat),i<xs.length→xs[i]?=some (xs.getD i 0):=fun xs i hi=>by rw[List.getD_eq_getElem?_getD,List.getElem?_eq_getElem hi];rfl
  have hd:∀i,i<l.length→(handD m l).getD i 0=bif (m.1 == -1)&&((i:Int)==m.2.2.1) then l.getD i 0-1 else l.getD i 0:=fun i hi=>by
    by_cases c:m.1≥0
    · have:handD m l=l:=by unfold handD;rw[show decide (m.1≥0)=true by simp;omega];rfl
      rw[this,beq_f (by omega),Bool.false_and,cond_false]
    · have:handD m l=l.set m.2.2.1.toNat (l.getD m.2.2.1.toNat 0-1):=by unfold handD;rw[show decide (m.1≥0)=false by simp;omega];rfl
      rw[this,beq_t (by omega),Bool.true_and,List.getD_eq_getElem?_getD,List.getElem?_set];by_cases e:(i:Int)=m.2.2.1
      · rw[beq_t e,cond_true,if_pos (by omega),if_pos (by omega),show m.2.2.1.toNat=i by omega];rfl
      · rw[beq_f e,cond_false,if_neg (by omega),←List.getD_eq_getElem?_getD]
  apply List.ext_getElem?;intro i;by_cases hi:i<l.length
  · rw[List.getElem?_map,List.getElem?_range hi,Option.map_some];unfold newH;simp only;rw[←hd i hi];have hb:=qfB (by omega) hDr i;unfold handA;obtain⟨D0,hD0⟩:∃D0,handD m l=D0:=⟨_,rfl⟩;rw[hD0] at hb hDl ⊢;unfold handK
    cases hc:decide (cellI p m.2.1>0) with
    | false=>simp only[Bool.and_false,Bool.false_and,cond_false];exact(hgD D0 i (by omega)).symm
    | true =>
      have hk:=qdd hv (of_decide_eq_true hc)
      cases hkp:r.keeps with
      | false=>simp only[Bool.and_false,Bool.false_and,cond_false];exact(hgD D0 i (by omega)).symm
      | true =>
        simp only[Bool.true_and,cond_true];rw[List.getElem?_set];by_cases e:(i:Int)=qZ (cellI p m.2.1)
        · have ei:(qZ (cellI p m.2.1)).toNat=i:=by omega
          rw[beq_t e,Bool.true_and,if_pos ei,ei,if_pos (by omega)];by_cases c:D0.getD i 0<1000
          · rw[show decide (D0.getD i 0<1000)=true by simp;simpa using c,cond_true,if_neg (by omega)]
          · rw[show decide (D0.getD i 0<1000)=false by simp;simpa using c,cond_false,if_pos (by omega)];congr 1;omega
        · rw[beq_f e,Bool.false_and,cond_false,if_neg (by omega),hgD D0 i (by omega)]
  · rw[List.getElem?_eq_none (by simp;omega),List.getElem?_eq_none (by rw[hlen];omega)]
theorem qlr {A:Type} (F:Nat→A) (i:Nat):(List.range (i+1)).map F=(List.range i).map F++[F i]:=by rw[List.range_succ,List.map_append];rfl
theorem qkS {r:Rules} {p:Place} {m:Mv} (h:Valid r p) (ha:qD r p m=true):qdT r p m=some (qat r p m):=by
  obtain⟨r1,r2,r3⟩:=qbZ ha;have ht6:=h.r0.t6;have hq:=h.quiet;have htn:=h.turn;have h64:=qbG h;have a0:p.2.1.1.length=r.pieces.length:=h.l0;have a1:p.2.1.2.1.length=r.pieces.length:=h.l1;have hat:=qbL (p:=p) (s:=m.2.1) r2.1 r2.2;have wv:w64 (w64 (w64 (2*m.2.2.1)+p.2.2.1)+1)=qeS p m:=by
    unfold qeS;rw[show p.2.2.1=p.turn from rfl,qd (n:=2*m.2.2.1) (by omega) (by omega),qd (n:=2*m.2.2.1+p.turn) (by omega) (by omega),qd (by omega) (by omega)]
  have wq:w64 (p.2.2.2.1+1)=p.quiet+1:=qd (by show _≤p.quiet+1;omega) (by show p.quiet+1≤_;omega);have wt:w64 (1-p.2.2.1)=1-p.turn:=(qlV h).1;unfold qdT;rw[hat,Option.bind_some,wq,wt]
  have hL1:=qaO (f:=qcp p m) p.1.length (fun i=>(((i:Int),()),(((List.range i).map (newC p m),(([]:List Int),(([]:List Int),(1-p.turn,(p.quiet+1,()))))),()))) ((),((qdx p m,(([]:List Int),(([]:List Int),(1-p.turn,(p.quiet+1,()))))),())) (fun i hi=>by
    unfold qcp;simp only[show decide ((i:Int)<((p.1.length:Nat):Int))=true by simp;omega,cond_true];rw[qbL (p:=p) (s:=(i:Int)) (by omega) (by show(i:Int)<((p.1.length:Nat):Int);omega),Option.bind_some,wv,qd (n:=(i:Int)+1) (by omega) (by omega),qlr];have e:(bif ((i:Int)==m.2.1) then some ((qeS p m,()),()) else Option.bind (bif ((i:Int)==m.1) then some (((0:Int),()),()) else some ((cellI p (i:Int),()),())) fun x5=>some ((x5.1.1,()),()))=some ((newC p m i,()),()):=by
      unfold newC;rw[show p.1.getD i 0=cellI p (i:Int) from rfl]
      cases ((i:Int)==m.2.1)<;>cases ((i:Int)==m.1)<;>rfl
    rw[e,Option.bind_some];have hroom:room (((List.range i).map (newC p m)).length+[newC p m i].length) 8=true:=qb2 (by simp;omega);simp only[hroom,qg]
    rfl) (by
    unfold qcp;simp only[show decide (((p.1.length:Nat):Int)<((p.1.length:Nat):Int))=false by simp,cond_false]
    rw[newC_list r1.1 r2])
  have hL1':iterW (qcp p m) (((0:Int),()),((([]:List Int),(([]:List Int),(([]:List Int),(1-p.turn,(p.quiet+1,()))))),()))=_:=hL1;rw[hL1',Option.bind_some];have hng:decide (m.1<0)=(m.1 == -1):=by
    by_cases c:m.1 = -1
    · rw[beq_t c,c];rfl
    · rw[beq_f c];simp;omega
  have kg:decide (cellI p m.2.1>0)=true→w64 ((w64 (cellI p m.2.1-1)).tdiv 2)=qZ (cellI p m.2.1):=fun hc=>(qdd h (of_decide_eq_true hc)).1
  have hL3:∀(o:Nat) (l:List Int) (c:List Int) (q0 q1:List Int) (x8:(Int×Unit)×(((List Int)×(List Int)×(List Int)×Int×Int×Unit)×Unit)),o<2→x8.1.1=(o:Int)→l=getD' [p.2.1.1,p.2.1.2.1] o []→l.length≤6→(∀x∈l,0≤x∧x≤1000)→(o=0→q0=[])→(o=1→q1=[]) →
      iterW (qcs p x8 m r (cellI p m.2.1)) (((0:Int),()),((c,(q0,(q1,(1-p.turn,(p.quiet+1,()))))),()))=some ((),((c,((if o=0 then(List.range l.length).map (fun i=>bif ((o:Int)==p.turn) then newH r p m l i else l.getD i 0) else q0),((if o=0 then q1 else(List.range l.length).map (fun i=>bif ((o:Int)==p.turn) then newH r p m l i else l.getD i 0)),(1-p.turn,(p.quiet+1,()))))),())):=by
    intro o l c q0 q1 x8 ho hx8 hl hl6 hlr z0 z1
    have:=qaO (f:=qcs p x8 m r (cellI p m.2.1)) l.length (fun i=>(((i:Int),()),((c,((if o=0 then(List.range i).map (fun i=>bif ((o:Int)==p.turn) then newH r p m l i else l.getD i 0) else q0),((if o=0 then q1 else(List.range i).map (fun i=>bif ((o:Int)==p.turn) then newH r p m l i else l.getD i 0)),(1-p.turn,(p.quiet+1,()))))),()))) ((),((c,((if o=0 then(List.range l.length).map (fun i=>bif ((o:Int)==p.turn) then newH r p m l i else l.getD i 0) else q0),((if o=0 then q1 else(List.range l.length).map (fun i=>bif ((o:Int)==p.turn) then newH r p m l i else l.getD i 0)),(1-p.turn,(p.quiet+1,()))))),())) (fun i hi=>by
      unfold qcs;rw[hx8];simp only[Int.toNat_natCast,←hl];simp only[show decide ((i:Int)<((l.length:Nat):Int))=true by simp;omega,cond_true];have hatl:at? l (i:Int)=some (l.getD i 0):=by
        rw[at?_eq l _ (by omega) (by omega),List.getD_eq_getElem?_getD,List.getElem?_eq_getElem hi];rfl
      have hgr:=qfB (by omega) hlr i;rw[hatl,Option.bind_some,show p.2.2.1=p.turn from rfl,qd (n:=l.getD i 0-1) (by omega) (by omega),qd (n:=(i:Int)+1) (by omega) (by omega)];have e1:(bif ((((o:Int)==p.turn)&&(m.1==(-1:Int)))&&((i:Int)==m.2.2.1)) then some ((l.getD i 0-1,()),()) else some ((l.getD i 0,()),()))=some (((bif ((((o:Int)==p.turn)&&(m.1==(-1:Int)))&&((i:Int)==m.2.2.1)) then l.getD i 0-1 else l.getD i 0),()),()):=by
        cases ((((o:Int)==p.turn)&&(m.1==(-1:Int)))&&((i:Int)==m.2.2.1))<;>rfl
      rw[e1,Option.bind_some]
      simp only[show ∀b,imp b true=true from fun b=>by cases b<;>rfl,qg]
      obtain⟨n,hn⟩:∃n,(bif ((((o:Int)==p.turn)&&(m.1==(-1:Int)))&&((i:Int)==m.2.2.1)) then l.getD i 0-1 else l.getD i 0)=n:=⟨_,rfl⟩;have hnr : -1≤n∧n≤1000:=by
        rw[←hn];cases ((((o:Int)==p.turn)&&(m.1==(-1:Int)))&&((i:Int)==m.2.2.1))
        · rw[cond_false];omega
        · rw[cond_true];omega
      rw[hn,qd (n:=n+1) (by omega) (by omega)];have e2:(bif ((((((o:Int)==p.turn)&&r.2.2.2.2.2.2.1)&&(decide (cellI p m.2.1>(0:Int))))&&((i:Int)==(w64 ((w64 (cellI p m.2.1-(1:Int))).tdiv (2:Int)))))&&(decide (n<(1000:Int)))) then some ((n+1,()),()) else some ((n,()),()))=some (((bif ((o:Int)==p.turn) then newH r p m l i else l.getD i 0),()),()):=by
        unfold newH;rw[show r.2.2.2.2.2.2.1=r.keeps from rfl]
        cases hot:((o:Int)==p.turn) with
        | false =>
          rw[hot] at hn;simp only[Bool.false_and,cond_false] at hn ⊢;rw[hn]
        | true =>
          rw[hot] at hn;simp only[Bool.true_and,cond_true] at hn ⊢;rw[hn]
          cases hc:decide (cellI p m.2.1>0) with
          | false=>simp
          | true =>
            rw[kg hc]
            cases r.keeps<;>cases ((i:Int)==qZ (cellI p m.2.1))<;>cases decide (n<1000)<;>rfl
      rw[e2,Option.bind_some];have ho2:inb (o:Int) 2=true:=inb_iff.2 ⟨by omega,by omega⟩;have hroom:∀(F:Nat→Int) (z:Int),room (((List.range i).map F).length+[z].length) 8=true:=fun F z=>qb2 (by simp;omega);simp only[ho2,qg];rcases(show o=0∨o=1 by omega) with rfl | rfl
      · simp only[↓reduceIte,show(((0:Nat):Int)==0)=true from rfl,cond_true,hroom,qg,Option.bind_some,qlr];rfl
      · simp only[if_neg (show ¬(1:Nat)=0 by omega),show(((1:Nat):Int)==0)=false from rfl,cond_false,hroom,qg,Option.bind_some,qlr]
        rfl) (by
      unfold qcs;rw[hx8];simp only[Int.toNat_natCast,←hl]
      simp only[show decide (((l.length:Nat):Int)<((l.length:Nat):Int))=false by simp,cond_false])
    rcases(show o=0∨o=1 by omega) with rfl | rfl
    · rw[z0 rfl];simpa using this
    · rw[z1 rfl];simpa using this
  have hsame:∀l:List Int,(List.range l.length).map (fun i=>l.getD i 0)=l:=fun l=>by
    apply List.ext_getElem
    · simp
    · intro i h1 h2;simp[List.getD_eq_getElem?_getD,h2]
  have hho:=qe7 h;have hfin:∀(o:Nat) (l:List Int),l=getD' [p.2.1.1,p.2.1.2.1] o []→o<2→(List.range l.length).map (fun i=>bif ((o:Int)==p.turn) then newH r p m l i else l.getD i 0)=bif ((o:Int)==p.turn) then handA r p m l else l:=fun o l hl ho=>by
    cases hot:((o:Int)==p.turn) with
    | false=>simp only[cond_false];exact hsame l
    | true =>
      simp only[cond_true];refine newH_list h ha l ?_;rw[hl];unfold qbc;rw[beq_iff_eq] at hot;rw[show p.2.2.1=(o:Int) from hot.symm];rfl
  have hL2:iterW (qdv p m r (cellI p m.2.1)) (((0:Int),()),((qdx p m,(([]:List Int),(([]:List Int),(1-p.turn,(p.quiet+1,()))))),()))=some ((),((qdx p m,((bif p.turn==0 then handA r p m p.2.1.1 else p.2.1.1),((bif p.turn==0 then p.2.1.2.1 else handA r p m p.2.1.2.1),(1-p.turn,(p.quiet+1,()))))),())):=by
    rw[qs (y:=(((1:Int),()),((qdx p m,((bif p.turn==0 then handA r p m p.2.1.1 else p.2.1.1),(([]:List Int),(1-p.turn,(p.quiet+1,()))))),()))) (by
      unfold qdv;simp only[show decide ((0:Int)<2)=true from rfl,cond_true,show inb (0:Int) 2=true from rfl,qg];rw[hL3 0 p.2.1.1 (qdx p m) [] [] _ (by omega) rfl rfl (by omega) h.hand0 (fun _=>rfl) (fun h=>by omega),Option.bind_some];simp only[↓reduceIte];rw[hfin 0 p.2.1.1 rfl (by omega)]
      have:(((0:Nat):Int)==p.turn)=(p.turn==0):=by rw[Bool.eq_iff_iff,beq_iff_eq,beq_iff_eq];omega
      rw[this]
      rfl)]
    rw[qs (y:=(((2:Int),()),((qdx p m,((bif p.turn==0 then handA r p m p.2.1.1 else p.2.1.1),((bif p.turn==0 then p.2.1.2.1 else handA r p m p.2.1.2.1),(1-p.turn,(p.quiet+1,()))))),()))) (by
      unfold qdv;simp only[show decide ((1:Int)<2)=true from rfl,cond_true,show inb (1:Int) 2=true from rfl,qg];rw[hL3 1 p.2.1.2.1 (qdx p m) _ [] _ (by omega) rfl rfl (by omega) h.hand1 (fun h=>by omega) (fun _=>rfl),Option.bind_some];simp only[if_neg (show ¬(1:Nat)=0 by omega)];rw[hfin 1 p.2.1.2.1 rfl (by omega)];have:(((1:Nat):Int)==p.turn) = !(p.turn==0):=by
        rcases htn with e | e<;>rw[e]<;>rfl
      rw[this]
      cases (p.turn==0)<;>rfl)]
    exact qk rfl
  simp only;rw[hL2,Option.bind_some];unfold qat qjx;rw[hng];simp only;by_cases c:p.quiet+1>200
  · rw[show decide (p.quiet+1>200)=true by simp;omega,if_pos (by omega)]
    cases (decide (cellI p m.2.1>0)||m.1 == -1)<;>rfl
  · rw[show decide (p.quiet+1>200)=false by simp;omega,if_neg (by omega)]
    cases (decide (cellI p m.2.1>0)||m.1 == -1)<;>rfl

theorem qaS {r:Rules} {p:Place} (h:Valid r p):(qe r p).length≤100000:=by
  have h64:=qbG h;refine Nat.le_trans (qaU _ 384 _ fun i _=>at1_len h i) ?_;rw[List.length_range];omega

def qeE (r:Rules) (p:Place):List Mv:=if qn r p=0 then qe r p else []
theorem qh3 {r:Rules} {p:Place} {m:Mv} (hm:m∈qeE r p):qD r p m=true:=by
  unfold qeE at hm;split at hm
  · exact(qi2 m).1 hm
  · cases hm

theorem qg0 {A:Type} (xs:List A) (i:Nat) (hi:i<xs.length) (d:A):getD' xs ((i:Int)).toNat d=xs[i]:=by
  simp[getD',hi]
theorem qdA {A:Type} (xs:List A) (i:Nat) (hi:i<xs.length):decide ((i:Int)<((xs.length:Nat):Int))=true:=by simp;omega
theorem qnF {A:Type} (xs:List A):decide (((xs.length:Nat):Int)<((xs.length:Nat):Int))=false:=by simp
theorem qa1 {A:Type} (xs:List A) (i:Nat) (hi:i<xs.length):inb (i:Int) xs.length=true:=inb_iff.2 ⟨by omega,by omega⟩
theorem qor {β:Type} {e:Nat→Option β} {B:β} (Q:β→Prop) (hB:Q B) (he:∀i b,e i=some b→Q b):∀(k i:Nat),Q (scan e B i k)
  | 0,_=>hB
  | k+1,i=>by
    unfold scan
    match h:e i with
    | some b=>exact he i b h
    | none=>exact qor Q hB he k (i+1)
theorem end_rng {r:Rules} {p:Place} (h:Valid r p):∀i b,endE r p i=some b→∃v,b = .inr v∧(v=1∨v=2):=by
  intro i b hb;have ht:=h.turn;unfold endE at hb;split at hb
  · rename_i x _
    cases hm:metB r p x (1-p.turn) with
    | false=>rw[hm] at hb;cases hb
    | true =>
      rw[hm] at hb;simp only[cond_true,Option.some.injEq] at hb;subst hb;refine⟨_,rfl,?_⟩;cases x.2.2.2.1
      · simp only[cond_false];omega
      · simp only[cond_true];omega
  · cases hb
theorem qlO {r:Rules} {p:Place} (h:Valid r p):(qn r p=0∧0<(qe r p).length)∨qn r p=1∨qn r p=2∨qn r p=3:=by
  have ht:=h.turn;unfold qn;have:=qor (e:=endE r p) (B := .inl ((),())) (fun b=>b = .inl ((),())∨∃v,b = .inr v∧(v=1∨v=2)) (.inl rfl) (fun i b hb => .inr (end_rng h i b hb)) r.2.2.2.2.2.2.2.1.length 0;rcases this with e | ⟨v,e,hv⟩
  · rw[e];simp only
    cases (r.quiet !=0)&&decide (p.quiet≥r.quiet) with
    | true=>right;right;right;rfl
    | false =>
      simp only[cond_false];by_cases c:(((qe r p).length:Nat):Int)>0
      · rw[decide_eq_true c];left;exact⟨rfl,by omega⟩
      · rw[decide_eq_false c];right;simp only[cond_false];unfold qiw;cases r.blocked==0
        · cases r.blocked==1
          · right;right;rfl
          · simp only[cond_false,cond_true];omega
        · simp only[cond_true];omega
  · rw[e];simp only;omega
theorem open_0 {r:Rules} {p:Place} (h:qn r p=0):qeE r p=qe r p:=if_pos h
theorem qjg {r:Rules} {p:Place} {ms:List Mv} (h:Valid r p) (hm:ms=qeE r p) {i:Nat} (hi:i<ms.length):qD r p ms[i]=true∧Valid r (qat r p ms[i]):=by
  have:ms[i]∈qeE r p:=hm▸List.getElem_mem hi;exact⟨qh3 this,qnP h (qh3 this)⟩

theorem eta_r (r:Rules):(r.1,(r.2.1,(r.2.2.1,(r.2.2.2.1,(r.2.2.2.2.1,(r.2.2.2.2.2.1,(r.2.2.2.2.2.2.1,(r.2.2.2.2.2.2.2.1,(r.2.2.2.2.2.2.2.2.1,(r.2.2.2.2.2.2.2.2.2.1,(r.2.2.2.2.2.2.2.2.2.2.1,())))))))))))=r:=rfl
theorem eta_p2 (p:Place):(p.1,((p.2.1.1,(p.2.1.2.1,())),(p.2.2.1,(p.2.2.2.1,()))))=p:=rfl
theorem qmu:Rng qee qm:=qhD _ _ (by decide +kernel)
theorem near_ok:qa4 qm law1Near=0:=by decide +kernel
theorem qkj:qe qm law1Near=[2,5,6,7,8].map fun i:Int=>((-1:Int),(i,((0:Int),()))):=by decide +kernel
theorem near_n:law1Near.1.length≤9223372036854775807:=by decide

def k1 (p:Place) (i:Nat) (a:Int):Int:=bif p.1.getD i 0 !=0 then wu64 (a+zobMix (16*(i:Int)+p.1.getD i 0)) else a
def k2 (o:Int) (l:List Int) (i:Nat) (a:Int):Int:=wu64 (a+wu64 (zobMix (2000+8*o+(i:Int))*wu64 (l.getD i 0)))

def emptyP:Place:=([],([],[],()),0,0,())

structure PN where
  p:Place
  ks:List Nat
  a:Int
  b:Int
  e:Bool
def dP:PN:=⟨emptyP,[],0,0,false⟩
def nd (M:List PN) (i:Nat):PN:=M.getD i dP
theorem qlY {M:List PN} {i:Nat} (h:i<M.length):M[i]?=some (nd M i):=by
  unfold nd;rw[List.getD_eq_getElem?_getD,List.getElem?_eq_getElem h];rfl
theorem qby {M:List PN} {i:Nat} (h:i<M.length) (n:PN):nd (M.set i n) i=n:=by
  unfold nd;rw[List.getD_eq_getElem?_getD,List.getElem?_set_self h];rfl
theorem qcZ {M:List PN} {i j:Nat} (h:i≠j) (n:PN):nd (M.set i n) j=nd M j:=by
  unfold nd;rw[List.getD_eq_getElem?_getD,List.getElem?_set_ne h,←List.getD_eq_getElem?_getD]
theorem qku {M N:List PN} {i:Nat} (h:i<M.length):nd (M++N) i=nd M i:=by
  unfold nd;rw[List.getD_eq_getElem?_getD,List.getElem?_append_left h,←List.getD_eq_getElem?_getD]
theorem nd_app2 {M N:List PN} {i:Nat} (h:M.length≤i):nd (M++N) i=nd N (i-M.length):=by
  unfold nd;rw[List.getD_eq_getElem?_getD,List.getElem?_append_right h,←List.getD_eq_getElem?_getD]
theorem nd_map {A:Type} (f:A→PN) (l:List A) {t:Nat} (h:t<l.length):nd (l.map f) t=f l[t]:=by
  unfold nd;rw[List.getD_eq_getElem?_getD,List.getElem?_map,List.getElem?_eq_getElem h];rfl
def qr (a m:Nat):List Nat:=(List.range m).map (a + ·)
theorem qeu (a m:Nat):qr a (m+1)=qr a m++[a+m]:=by
  unfold qr;rw[List.range_succ,List.map_append];rfl
theorem qaR (a m:Nat):(qr a m).length=m:=by simp[qr]
theorem mem_kidsFrom {a m k:Nat}:k∈qr a m↔a≤k∧k<a+m:=by
  unfold qr;rw[List.mem_map];constructor
  · rintro ⟨t,ht,rfl⟩
    rw[List.mem_range] at ht;omega
  · rintro ⟨h1,h2⟩
    exact⟨k-a,by rw[List.mem_range];omega,by omega⟩
theorem qjO (a m:Nat):(qr a m).Nodup:=by
  induction m with
  | zero=>exact List.nodup_nil
  | succ m ih =>
    rw[qeu,List.nodup_append];refine⟨ih,by simp,fun x hx y hy=>?_⟩;rw[List.mem_singleton] at hy;have:=(mem_kidsFrom.1 hx).2;omega
def mn (a b:Int):Int:=if b<a then b else a
def stp (own:Bool) (x:Int×Int) (n:PN):Int×Int:=(mn x.1 (if own then n.a else n.b),mn (x.2+(if own then n.b else n.a)) 1099511627776)
def calcN (own:Bool) (M:List PN) (ks:List Nat):Int×Int:=ks.foldl (fun x k=>stp own x (nd M k)) (1099511627776,0)
def swp (own:Bool) (x:Int×Int):Int×Int:=if own then x else(x.2,x.1)
def ownB (att:Int) (n:PN):Bool:=n.p.2.2.1==att
def vals (att:Int) (M:List PN) (i:Nat):Int×Int:=swp (ownB att (nd M i)) (calcN (ownB att (nd M i)) M (nd M i).ks)
def recalc (att:Int) (M:List PN) (i:Nat):PN:={ nd M i with a:=(vals att M i).1,b:=(vals att M i).2 }
def leafV (r:Rules) (att:Int) (p:Place):Int×Int:=if qn r p=0 then(1,1) else if qn r p=1+att then(0,1099511627776) else(1099511627776,0)
def leafN (r:Rules) (att:Int) (p:Place):PN:=⟨p,[],(leafV r att p).1,(leafV r att p).2,false⟩
def numK (att:Int) (M:List PN) (i k:Nat):Int:=if ownB att (nd M i) then(nd M k).a else(nd M k).b
def bestF (f:Nat→Int) (b:Nat) (ks:List Nat):Nat:=ks.foldl (fun b k=>if f k<f b then k else b) b
def qT (att:Int) (M:List PN) (i:Nat):Nat:=bestF (numK att M i) ((nd M i).ks.headD 0) (nd M i).ks
def Kd (w:Nat) (a b:Int):Prop:=(a=0∧b=1099511627776)∨(a=1099511627776∧b=0)∨(1≤a∧a≤(w:Int)∧1≤b∧b≤(w:Int))
theorem Kd.swap {w:Nat} {a b:Int} (h:Kd w a b):Kd w b a:=by
  unfold Kd at h ⊢;omega
theorem Kd.mono {w v:Nat} {a b:Int} (h:Kd w a b) (hv:w≤v):Kd v a b:=by
  unfold Kd at h ⊢;omega
theorem kd_step {w v:Nat} {l s a b:Int} (h1:Kd w l s) (h2:Kd v a b) (hw:w+v≤1099511627775):Kd (w+v) (mn l a) (mn (s+b) 1099511627776):=by
  unfold Kd mn at *
  split<;>split<;>omega
theorem kd_stp {w v:Nat} {own:Bool} {x:Int×Int} {n:PN} (h1:Kd w x.1 x.2) (h2:Kd v n.a n.b) (hw:w+v≤1099511627775):Kd (w+v) (stp own x n).1 (stp own x n).2:=by
  cases own with
  | true=>exact kd_step h1 h2 hw
  | false=>exact kd_step h1 h2.swap hw
theorem kd_fold {own:Bool} {M:List PN} {W:Nat→Nat}:∀(ks:List Nat) (x:Int×Int) (w:Nat),Kd w x.1 x.2→(∀k∈ks,Kd (W k) (nd M k).a (nd M k).b)→w+(ks.map W).sum≤1099511627775 →
    Kd (w+(ks.map W).sum) (ks.foldl (fun x k=>stp own x (nd M k)) x).1 (ks.foldl (fun x k=>stp own x (nd M k)) x).2
  | [],x,w,h,_,_=>h
  | k::ks,x,w,h,hk,hw=>by
    rw[List.map_cons,List.sum_cons] at hw ⊢;have:=kd_fold (own:=own) ks (stp own x (nd M k)) (w+W k) (kd_stp h (hk k List.mem_cons_self) (by omega)) (fun j hj=>hk j (List.mem_cons_of_mem _ hj)) (by omega);rw[Nat.add_assoc] at this;exact this
theorem kd_calc {own:Bool} {M:List PN} {W:Nat→Nat} {ks:List Nat} (hk:∀k∈ks,Kd (W k) (nd M k).a (nd M k).b) (hw:(ks.map W).sum≤1099511627775):Kd (ks.map W).sum (calcN own M ks).1 (calcN own M ks).2:=by
  have:=kd_fold (own:=own) ks (1099511627776,0) 0 (.inr (.inl ⟨rfl,rfl⟩)) hk (by omega);rw[Nat.zero_add] at this;exact this
theorem kd_vals {att:Int} {M:List PN} {W:Nat→Nat} {i:Nat} (hk:∀k∈(nd M i).ks,Kd (W k) (nd M k).a (nd M k).b) (hw:((nd M i).ks.map W).sum≤1099511627775):Kd ((nd M i).ks.map W).sum (vals att M i).1 (vals att M i).2:=by
  have:=kd_calc (own:=ownB att (nd M i)) hk hw;unfold vals swp;split
  · exact this
  · exact this.swap
theorem kd_leaf (r:Rules) (att:Int) (p:Place) {w:Nat} (h:1≤w):Kd w (leafV r att p).1 (leafV r att p).2:=by
  unfold leafV Kd;split
  · right;right;simp only;omega
  · split
    · left;exact⟨rfl,rfl⟩
    · right;left;exact⟨rfl,rfl⟩
theorem qkH {att:Int} {M G:List PN} {i:Nat} (hp:(nd G i).p=(nd M i).p) (hks:(nd G i).ks=(nd M i).ks) (h:∀k∈(nd M i).ks,(nd G k).a=(nd M k).a∧(nd G k).b=(nd M k).b):vals att G i=vals att M i:=by
  have ho:ownB att (nd G i)=ownB att (nd M i):=by unfold ownB;rw[hp]
  have hf:∀(own:Bool) (ks:List Nat) (x:Int×Int),(∀k∈ks,(nd G k).a=(nd M k).a∧(nd G k).b=(nd M k).b)→ks.foldl (fun x k=>stp own x (nd G k)) x=ks.foldl (fun x k=>stp own x (nd M k)) x:=by
    intro own ks
    induction ks with
    | nil=>intro x _;rfl
    | cons k ks ih =>
      intro x hk;rw[List.foldl_cons,List.foldl_cons];have e:stp own x (nd G k)=stp own x (nd M k):=by
        unfold stp;rw[(hk k List.mem_cons_self).1,(hk k List.mem_cons_self).2]
      rw[e];exact ih _ (fun j hj=>hk j (List.mem_cons_of_mem _ hj))
  unfold vals;rw[ho,hks];unfold calcN;rw[hf _ _ _ h]
theorem ql6 (f:Nat→Int) (L:Int):∀(ks:List Nat) (b:Nat),ks.foldl (fun l k=>mn l (f k)) (mn L (f b))=mn L (f (bestF f b ks))
  | [],b=>rfl
  | k::ks,b=>by
    have e:mn (mn L (f b)) (f k)=mn L (f (if f k<f b then k else b)):=by
      by_cases c:f k<f b
      · rw[if_pos c];unfold mn; (repeat' split)<;>omega
      · rw[if_neg c];unfold mn; (repeat' split)<;>omega
    show ks.foldl (fun l k=>mn l (f k)) (mn (mn L (f b)) (f k))=mn L (f (bestF f (if f k<f b then k else b) ks));rw[e];exact ql6 f L ks _
theorem qkR (f:Nat→Int):∀(ks:List Nat) (b:Nat),bestF f b ks=b∨bestF f b ks∈ks
  | [],b => .inl rfl
  | k::ks,b=>by
    show bestF f (if f k<f b then k else b) ks=b∨bestF f (if f k<f b then k else b) ks∈k::ks;rcases qkR f ks (if f k<f b then k else b) with h | h
    · rw[h];split
      · right;exact List.mem_cons_self
      · left;rfl
    · right;exact List.mem_cons_of_mem _ h
theorem qol (own:Bool) (M:List PN):∀(ks:List Nat) (x:Int×Int),(ks.foldl (fun x k=>stp own x (nd M k)) x).1=ks.foldl (fun l k=>mn l (if own then(nd M k).a else(nd M k).b)) x.1
  | [],x=>rfl
  | k::ks,x=>by
    rw[List.foldl_cons,List.foldl_cons];exact qol own M ks _
theorem qj0 {att:Int} {M:List PN} {i:Nat} (h:(nd M i).ks≠[]):qT att M i∈(nd M i).ks:=by
  unfold qT
  cases hk:(nd M i).ks with
  | nil=>exact absurd hk h
  | cons k ks =>
    rcases qkR (numK att M i) (k::ks) k with h | h
    · show bestF _ k (k::ks)∈_;rw[h];exact List.mem_cons_self
    · exact h
theorem qib {att:Int} {M:List PN} {i:Nat} (h:(nd M i).ks≠[]):(calcN (ownB att (nd M i)) M (nd M i).ks).1=mn 1099511627776 (numK att M i (qT att M i)):=by
  unfold calcN;rw[qol];unfold qT
  cases hk:(nd M i).ks with
  | nil=>exact absurd hk h
  | cons k ks =>
    have e:bestF (numK att M i) ((k::ks).headD 0) (k::ks)=bestF (numK att M i) k ks:=by
      show bestF (numK att M i) (if numK att M i k<numK att M i k then k else k) ks=_;rw[if_neg (by omega)]
    rw[e,←ql6];rfl
structure Gd (r:Rules) (att:Int) (B:Nat) (M:List PN):Prop where
  val:∀j<M.length,Valid r (nd M j).p
  kid:∀j<M.length,∀k∈(nd M j).ks,j<k∧k<M.length
  kl:∀j<M.length,(nd M j).ks.length≤100000
  dup:∀j<M.length,(nd M j).ks.Nodup
  up:∀i<M.length,∀j<M.length,∀k,k∈(nd M i).ks→k∈(nd M j).ks→i=j
  e0:∀j<M.length,(nd M j).e=false→(nd M j).ks=[]∧((nd M j).a,(nd M j).b)=leafV r att (nd M j).p
  e1:∀j<M.length,(nd M j).e=true→(nd M j).ks≠[]∧qn r (nd M j).p=0∧((nd M j).a,(nd M j).b)=vals att M j
  wt:∃W:Nat→Nat,∀j<M.length,1≤W j∧W j≤B∧((nd M j).e=true→((nd M j).ks.map W).sum≤W j)
theorem Gd.kd {r:Rules} {att:Int} {B:Nat} {M:List PN} (h:Gd r att B M) (hB:B≤1099511627775):∀j<M.length,Kd B (nd M j).a (nd M j).b:=by
  obtain⟨W,hW⟩:=h.wt;have key:∀f j,M.length-j=f→j<M.length→Kd (W j) (nd M j).a (nd M j).b:=by
    intro f
    induction f using Nat.strongRecOn with
    | ind f ih =>
      intro j hf hj;obtain⟨w1,w2,w3⟩:=hW j hj
      cases he:(nd M j).e with
      | false =>
        have e:=(h.e0 j hj he).2;have:=kd_leaf r att (nd M j).p w1;rw[←e] at this;exact this
      | true =>
        have e:=(h.e1 j hj he).2.2;have hs:=w3 he
        have:=kd_vals (att:=att) (M:=M) (W:=W) (i:=j) (fun k hk=>by
          obtain⟨k1,k2⟩:=h.kid j hj k hk
          exact ih (M.length-k) (by omega) k rfl k2) (by omega)
        rw[←e] at this;exact this.mono hs
  exact fun j hj=>(key _ j rfl hj).mono (hW j hj).2.1
theorem Gd.next {r:Rules} {att:Int} {B:Nat} {M:List PN} (h:Gd r att B M) (hB:B≤1099511627775) {i:Nat} (hi:i<M.length) (he:(nd M i).e=true) (ha:(nd M i).a≠0) (hb:(nd M i).b≠0) :
    qT att M i∈(nd M i).ks∧(nd M (qT att M i)).a≠0∧(nd M (qT att M i)).b≠0:=by
  obtain⟨k0,_,hv⟩:=h.e1 i hi he;have hm:=qj0 (att:=att) k0;have hl:=qib (att:=att) k0;obtain⟨c1,c2⟩:=h.kid i hi _ hm;have ki:=h.kd hB i hi;have kc:=h.kd hB _ c2;refine⟨hm,?_⟩;have ea:(nd M i).a=(vals att M i).1:=congrArg Prod.fst hv;have eb:(nd M i).b=(vals att M i).2:=congrArg Prod.snd hv;unfold vals swp at ea eb;unfold numK at hl;unfold Kd at ki kc;unfold mn at hl
  cases ho:ownB att (nd M i) with
  | true =>
    rw[ho] at hl ea eb;simp only[if_true] at hl ea eb
    split at hl<;>omega
  | false =>
    rw[ho] at hl ea eb;simp only[Bool.false_eq_true,if_false] at hl ea eb
    split at hl<;>omega

theorem qmX {r:Rules} {p:Place} (h:Valid r p) (h0:qn r p=0):0<(qe r p).length:=by
  rcases qlO h with h | h | h | h<;>omega
def growM (r:Rules) (att:Int) (M:List PN) (i:Nat):List PN:=(M.set i { nd M i with ks:=qr M.length (qe r (nd M i).p).length,e:=true })++(qe r (nd M i).p).map fun m=>leafN r att (qat r (nd M i).p m)
theorem qc4 (r:Rules) (att:Int) (M:List PN) (i:Nat):(growM r att M i).length=M.length+(qe r (nd M i).p).length:=by simp[growM]
theorem qjC (r:Rules) (att:Int) {M:List PN} {i:Nat} (hi:i<M.length):nd (growM r att M i) i={ nd M i with ks:=qr M.length (qe r (nd M i).p).length,e:=true }:=by
  unfold growM;rw[qku (by simpa using hi),qby hi]
theorem qfc (r:Rules) (att:Int) {M:List PN} {i j:Nat} (hj:j<M.length) (h:i≠j):nd (growM r att M i) j=nd M j:=by
  unfold growM;rw[qku (by simpa using hj),qcZ h]
theorem qn1 (r:Rules) (att:Int) {M:List PN} {i j:Nat} (hj:M.length≤j) (h2:j<(growM r att M i).length):∃m,m∈qe r (nd M i).p∧nd (growM r att M i) j=leafN r att (qat r (nd M i).p m):=by
  rw[qc4] at h2
  have ht:j-M.length<(qe r (nd M i).p).length:=by omega
  refine⟨(qe r (nd M i).p)[j-M.length],List.getElem_mem ht,?_⟩;unfold growM;rw[nd_app2 (by simpa using hj),List.length_set,nd_map _ _ ht]
def pathM (att:Int):Nat→List PN→Nat→List Nat×Nat
  | 0,_,i=>([i],i)
  | f+1,M,i=>if (nd M i).e=true then(i::(pathM att f M (qT att M i)).1,(pathM att f M (qT att M i)).2) else([i],i)
def updR (att:Int) (P:List Nat) (G:List PN):List PN:=P.foldr (fun j G=>G.set j (recalc att G j)) G
def qaf (r:Rules) (att:Int) (f:Nat) (M:List PN) (i:Nat):List PN:=updR att (pathM att f M i).1 (growM r att M (pathM att f M i).2)
structure PathOK (att:Int) (M:List PN) (i:Nat) (q:List Nat×Nat):Prop where
  hd:∃P,q.1=i::P∧∀j∈P,i<j
  inc:q.1.Pairwise (· < ·)
  lt:∀j∈q.1,j<M.length
  last:q.2∈q.1
  e0:(nd M q.2).e=false
  und:(nd M q.2).a≠0∧(nd M q.2).b≠0
  ex:∀j∈q.1,j≠q.2→(nd M j).e=true
  stp:∀k∈q.1,k=i∨∃d∈q.1,k=qT att M d∧k∈(nd M d).ks
theorem qiB {r:Rules} {att:Int} {B:Nat} {M:List PN} (h:Gd r att B M) (hB:B≤1099511627775):∀(f i:Nat),i<M.length→M.length≤f+i→(nd M i).a≠0→(nd M i).b≠0→PathOK att M i (pathM att f M i)
  | 0,i,hi,hf,_,_=>by omega
  | f+1,i,hi,hf,ha,hb=>by
    unfold pathM;by_cases he:(nd M i).e=true
    · rw[if_pos he];obtain⟨n1,n2,n3⟩:=h.next hB hi he ha hb;obtain⟨k1,k2⟩:=h.kid i hi _ n1;have o:=qiB h hB f (qT att M i) k2 (by omega) n2 n3;obtain⟨P,hP,hlt⟩:=o.hd;have all:∀j∈(pathM att f M (qT att M i)).1,i<j:=fun j hj=>by
        rw[hP] at hj;rcases List.mem_cons.1 hj with rfl | hj
        · exact k1
        · have:=hlt j hj;omega
      refine⟨⟨_,rfl,all⟩,List.pairwise_cons.2 ⟨all,o.inc⟩,fun j hj=>?_,List.mem_cons_of_mem _ o.last,o.e0,o.und,fun j hj hne=>?_,fun k hk=>?_⟩
      · rcases List.mem_cons.1 hj with rfl | hj
        · exact hi
        · exact o.lt j hj
      · rcases List.mem_cons.1 hj with rfl | hj
        · exact he
        · exact o.ex j hj hne
      · rcases List.mem_cons.1 hk with rfl | hk
        · exact .inl rfl
        · right;rcases o.stp k hk with rfl | ⟨d,hd,h1,h2⟩
          · exact⟨i,List.mem_cons_self,rfl,n1⟩
          · exact⟨d,List.mem_cons_of_mem _ hd,h1,h2⟩
    · rw[if_neg he];refine⟨⟨[],rfl,fun j hj=>by cases hj⟩,List.pairwise_singleton _ _,fun j hj=>?_,List.mem_singleton.2 rfl,by simpa using he,⟨ha,hb⟩,fun j hj hne=>absurd (List.mem_singleton.1 hj) hne,fun k hk => .inl (List.mem_singleton.1 hk)⟩;rw[List.mem_singleton.1 hj];exact hi
theorem qea (att:Int):∀(P:List Nat) (G:List PN),(updR att P G).length=G.length
  | [],G=>rfl
  | a::P,G=>by
    show((updR att P G).set a _).length=_;rw[List.length_set,qea att P G]
theorem qlC (att:Int):∀(P:List Nat) (G:List PN) (j:Nat),j∉P→nd (updR att P G) j=nd G j
  | [],G,j,_=>rfl
  | a::P,G,j,h=>by
    rw[List.mem_cons,not_or] at h;show nd ((updR att P G).set a _) j=_;rw[qcZ (Ne.symm h.1),qlC att P G j h.2]
theorem qeF (att:Int):∀(P:List Nat) (G:List PN) (j:Nat),(∀x∈P,x<G.length)→(nd (updR att P G) j).p=(nd G j).p∧(nd (updR att P G) j).ks=(nd G j).ks∧(nd (updR att P G) j).e=(nd G j).e
  | [],G,j,_=>⟨rfl,rfl,rfl⟩
  | a::P,G,j,h=>by
    have ih:=qeF att P G;have hx:∀x∈P,x<G.length:=fun x hx=>h x (List.mem_cons_of_mem _ hx);show(nd ((updR att P G).set a (recalc att (updR att P G) a)) j).p=_∧(nd ((updR att P G).set a (recalc att (updR att P G) a)) j).ks=_∧(nd ((updR att P G).set a (recalc att (updR att P G) a)) j).e=_;by_cases c:a=j
    · subst c;rw[qby (by rw[qea];exact h a List.mem_cons_self)];exact ih a hx
    · rw[qcZ c];exact ih j hx
theorem qn9 (att:Int):∀(P:List Nat) (G:List PN),P.Pairwise (· < ·)→(∀x∈P,x<G.length)→(∀x∈P,∀k∈(nd G x).ks,x<k)→∀j∈P,((nd (updR att P G) j).a,(nd (updR att P G) j).b)=vals att (updR att P G) j
  | [],G,_,_,_,j,hj=>by cases hj
  | a::P,G,hp,hx,hk,j,hj=>by
    rw[List.pairwise_cons] at hp;have hx':∀x∈P,x<G.length:=fun x hx2=>hx x (List.mem_cons_of_mem _ hx2)
    have ha:a<(updR att P G).length:=by rw[qea];exact hx a List.mem_cons_self
    have kp:=qeF att P G;show((nd ((updR att P G).set a (recalc att (updR att P G) a)) j).a,(nd ((updR att P G).set a (recalc att (updR att P G) a)) j).b)=vals att ((updR att P G).set a (recalc att (updR att P G) a)) j;have cong:∀i,a≤i→(∀k∈(nd G i).ks,i<k)→vals att ((updR att P G).set a (recalc att (updR att P G) a)) i=vals att (updR att P G) i:=fun i hi hki=>by
      have e:(nd ((updR att P G).set a (recalc att (updR att P G) a)) i).p=(nd (updR att P G) i).p∧(nd ((updR att P G).set a (recalc att (updR att P G) a)) i).ks=(nd (updR att P G) i).ks:=by
        by_cases c:a=i
        · subst c;rw[qby ha];exact⟨rfl,rfl⟩
        · rw[qcZ c];exact⟨rfl,rfl⟩
      refine qkH e.1 e.2 fun k hk2=>?_;rw[(kp i hx').2.1] at hk2;have:=hki k hk2;rw[qcZ (by omega)];exact⟨rfl,rfl⟩
    rcases List.mem_cons.1 hj with rfl | hj'
    · rw[cong j (Nat.le_refl _) (hk j List.mem_cons_self),qby ha];rfl
    · have hlt:=hp.1 j hj';rw[cong j (by omega) (hk j hj),qcZ (by omega)];exact qn9 att P G hp.2 hx' (fun x h1=>hk x (List.mem_cons_of_mem _ h1)) j hj'
theorem qnI {f g:Nat→Nat}:∀(l:List Nat),(∀k∈l,f k≤g k)→(l.map f).sum≤(l.map g).sum
  | [],_=>Nat.le_refl _
  | a::l,h=>by
    rw[List.map_cons,List.map_cons,List.sum_cons,List.sum_cons];exact Nat.add_le_add (h a List.mem_cons_self) (qnI l fun k hk=>h k (List.mem_cons_of_mem _ hk))
theorem qoN (W:Nat→Nat) (c m:Nat):∀(l:List Nat),l.Nodup→(l.map fun k=>W k+if k=c then m else 0).sum≤(l.map W).sum+m∧(c∉l→(l.map fun k=>W k+if k=c then m else 0).sum=(l.map W).sum)
  | [],_=>⟨Nat.zero_le _,fun _=>rfl⟩
  | a::l,h=>by
    rw[List.nodup_cons] at h;obtain⟨i1,i2⟩:=qoN W c m l h.2;rw[List.map_cons,List.map_cons,List.sum_cons,List.sum_cons];by_cases e:a=c
    · subst e;refine⟨?_,fun hc=>absurd List.mem_cons_self hc⟩;rw[i2 h.1,if_pos rfl];omega
    · rw[if_neg e];refine⟨by omega,fun hc=>?_⟩;rw[i2 fun hh=>hc (List.mem_cons_of_mem _ hh)];omega
theorem sum_one:∀(l:List Nat) (W:Nat→Nat),(∀k∈l,W k=1)→(l.map W).sum=l.length
  | [],_,_=>rfl
  | a::l,W,h=>by
    rw[List.map_cons,List.sum_cons,h a List.mem_cons_self,sum_one l W fun k hk=>h k (List.mem_cons_of_mem _ hk),List.length_cons];omega
theorem qhR (r:Rules) (att:Int) (f:Nat) (M:List PN) (i:Nat):(qaf r att f M i).length=M.length+(qe r (nd M (pathM att f M i).2).p).length:=by
  unfold qaf;rw[qea,qc4]
theorem Gd.expand {r:Rules} {att:Int} {B:Nat} {M:List PN} (h:Gd r att B M) (hB:B≤1099511627775) (h0:0<M.length) (ha:(nd M 0).a≠0) (hb:(nd M 0).b≠0) {f:Nat} (hf:M.length≤f):Gd r att (B+100000) (qaf r att f M 0):=by
  have o:=qiB h hB f 0 h0 (by omega) ha hb;have hlen:=qhR r att f M 0;unfold qaf at hlen ⊢;generalize pathM att f M 0=q at o hlen ⊢;obtain⟨P,l⟩:=q;obtain⟨_,inc,lt,last,le0,und,ex,stp⟩:=o;simp only at inc lt last le0 und ex stp hlen ⊢;have hl:=lt l last;have hvl:=h.val l hl;have hml:=qaS hvl;have hres:qn r (nd M l).p=0:=by
    obtain⟨_,e⟩:=h.e0 l hl le0;refine Decidable.byContradiction fun hn=>?_;unfold leafV at e;rw[if_neg hn] at e;split at e
    · exact und.1 (congrArg Prod.fst e)
    · exact und.2 (congrArg Prod.snd e)
  have hpos:=qmX hvl hres
  have ltG:∀x∈P,x<(growM r att M l).length:=fun x hx=>by rw[qc4];have:=lt x hx;omega
  have kp:=fun j=>qeF att P (growM r att M l) j ltG
  have hU:∀j<(updR att P (growM r att M l)).length,
      (j<M.length∧j≠l∧(nd (updR att P (growM r att M l)) j).p=(nd M j).p∧(nd (updR att P (growM r att M l)) j).ks=(nd M j).ks∧(nd (updR att P (growM r att M l)) j).e=(nd M j).e) ∨
      (j=l∧(nd (updR att P (growM r att M l)) j).p=(nd M l).p∧(nd (updR att P (growM r att M l)) j).ks=qr M.length (qe r (nd M l).p).length∧(nd (updR att P (growM r att M l)) j).e=true) ∨
      (M.length≤j∧∃m,m∈qe r (nd M l).p∧nd (updR att P (growM r att M l)) j=leafN r att (qat r (nd M l).p m)):=fun j hj=>by
    by_cases c:j=l
    · subst c;right;left;obtain⟨a1,a2,a3⟩:=kp j;rw[qjC r att hl] at a1 a2 a3;exact⟨rfl,a1,a2,a3⟩
    · by_cases c2:j<M.length
      · left;obtain⟨a1,a2,a3⟩:=kp j;rw[qfc r att c2 (Ne.symm c)] at a1 a2 a3;exact⟨c2,c,a1,a2,a3⟩
      · right;right;refine⟨by omega,?_⟩;rw[qlC att P _ j fun hh=>c2 (lt j hh)];exact qn1 r att (by omega) (by rw[qea] at hj;exact hj)
  have hnP:∀j,j<M.length→j∉P→nd (updR att P (growM r att M l)) j=nd M j:=fun j hj hp=>by
    rw[qlC att P _ j hp,qfc r att hj fun hh=>hp (hh▸last)]
  have kP:∀j,j<M.length→∀k∈(nd M j).ks,k∈P→j∈P∧k=qT att M j:=fun j hj k hk hkP=>by
    have hkk:=h.kid j hj k hk;rcases stp k hkP with rfl | ⟨d,hd,h1,h2⟩
    · omega
    · have:=h.up d (lt d hd) j hj k h2 hk;subst this;exact⟨hd,h1⟩
  have hval:=qn9 att P (growM r att M l) inc ltG (fun x hx k hk=>by
    by_cases c:l=x
    · subst c;rw[qjC r att hl] at hk;have:=(mem_kidsFrom.1 hk).1;omega
    · rw[qfc r att (lt x hx) c] at hk
      exact(h.kid x (lt x hx) k hk).1)
  obtain⟨W,hW⟩:=h.wt;refine⟨fun j hj=>?_,fun j hj k hk=>?_,fun j hj=>?_,fun j hj=>?_,fun i hi j hj k hki hkj=>?_,fun j hj he=>?_,fun j hj he=>?_,⟨fun j=>if j<M.length then(if j∈P then W j+(qe r (nd M l).p).length else W j) else 1,fun j hj=>?_⟩⟩
  · rcases hU j hj with ⟨c,_,e,_⟩ | ⟨_,e,_⟩ | ⟨_,m,hm,e⟩
    · rw[e];exact h.val j c
    · rw[e];exact hvl
    · rw[e];obtain⟨i,hi,hh⟩:=List.getElem_of_mem hm;have:=(qjg hvl (open_0 hres).symm hi).2;rw[hh] at this;exact this
  · rw[hlen];rcases hU j hj with ⟨c,_,_,e,_⟩ | ⟨c,_,e,_⟩ | ⟨_,m,hm,e⟩
    · rw[e] at hk;have:=h.kid j c k hk;exact⟨this.1,by omega⟩
    · rw[e] at hk;have:=mem_kidsFrom.1 hk;exact⟨by omega,by omega⟩
    · rw[e] at hk;cases hk
  · rcases hU j hj with ⟨c,_,_,e,_⟩ | ⟨c,_,e,_⟩ | ⟨_,m,hm,e⟩
    · rw[e];exact h.kl j c
    · rw[e,qaR];exact hml
    · rw[e];exact Nat.zero_le _
  · rcases hU j hj with ⟨c,_,_,e,_⟩ | ⟨c,_,e,_⟩ | ⟨_,m,hm,e⟩
    · rw[e];exact h.dup j c
    · rw[e];exact qjO _ _
    · rw[e];exact List.nodup_nil
  · rcases hU i hi with ⟨c,_,_,e,_⟩ | ⟨c,_,e,_⟩ | ⟨_,m,hm,e⟩
    · rcases hU j hj with ⟨c',_,_,e',_⟩ | ⟨c',_,e',_⟩ | ⟨_,m',hm',e'⟩
      · rw[e] at hki;rw[e'] at hkj;exact h.up i c j c' k hki hkj
      · rw[e] at hki;rw[e'] at hkj;have:=h.kid i c k hki;have:=mem_kidsFrom.1 hkj;omega
      · rw[e'] at hkj;cases hkj
    · rcases hU j hj with ⟨c',_,_,e',_⟩ | ⟨c',_,e',_⟩ | ⟨_,m',hm',e'⟩
      · rw[e] at hki;rw[e'] at hkj;have:=h.kid j c' k hkj;have:=mem_kidsFrom.1 hki;omega
      · rw[c,c']
      · rw[e'] at hkj;cases hkj
    · rw[e] at hki;cases hki
  · rcases hU j hj with ⟨c,cl,_,_,e⟩ | ⟨_,_,_,e⟩ | ⟨_,m,hm,e⟩
    · have hj2:j∉P:=fun hh=>by
        rw[e,ex j hh cl] at he;cases he
      rw[hnP j c hj2] at he ⊢;exact h.e0 j c he
    · rw[e] at he;cases he
    · rw[e];exact⟨rfl,rfl⟩
  · rcases hU j hj with ⟨c,cl,ep,ek,ee⟩ | ⟨c,ep,ek,_⟩ | ⟨_,m,hm,e⟩
    · rw[ee] at he;obtain⟨x1,x2,x3⟩:=h.e1 j c he;refine⟨by rw[ek];exact x1,by rw[ep];exact x2,?_⟩;by_cases hjP:j∈P
      · exact hval j hjP
      · have e2:=hnP j c hjP;rw[e2,x3];refine(qkH ep ek fun k hk=>?_).symm;have hkk:=h.kid j c k hk;rw[hnP k hkk.2 fun hh=>hjP (kP j c k hk hh).1];exact⟨rfl,rfl⟩
    · subst c;refine⟨?_,by rw[ep];exact hres,hval j last⟩;rw[ek];intro hh;have:=congrArg List.length hh;rw[qaR,List.length_nil] at this;omega
    · rw[e] at he;cases he
  · by_cases c2:j<M.length
    · obtain⟨w1,w2,w3⟩:=hW j c2;simp only[if_pos c2]
      refine⟨by split<;>omega,by split<;>omega,fun he=>?_⟩
      rcases hU j hj with ⟨c,cl,ep,ek,ee⟩ | ⟨c,ep,ek,_⟩ | ⟨c,_⟩
      · rw[ee] at he;have w4:=w3 he;rw[ek];by_cases hjP:j∈P
        · rw[if_pos hjP]
          have s1:=qnI (f:=fun j=>if j<M.length then(if j∈P then W j+(qe r (nd M l).p).length else W j) else 1) (g:=fun k=>W k+if k=qT att M j then(qe r (nd M l).p).length else 0) (nd M j).ks (fun k hk=>by
            have hkk:=h.kid j c k hk;simp only[if_pos hkk.2];by_cases hkP:k∈P
            · rw[if_pos hkP,if_pos (kP j c k hk hkP).2];exact Nat.le_refl _
            · rw[if_neg hkP]
              exact Nat.le_add_right _ _)
          have s2:=(qoN W (qT att M j) (qe r (nd M l).p).length (nd M j).ks (h.dup j c)).1;exact Nat.le_trans s1 (Nat.le_trans s2 (Nat.add_le_add_right w4 _))
        · rw[if_neg hjP]
          have s1:=qnI (f:=fun j=>if j<M.length then(if j∈P then W j+(qe r (nd M l).p).length else W j) else 1) (g:=W) (nd M j).ks (fun k hk=>by
            have hkk:=h.kid j c k hk;simp only[if_pos hkk.2];rw[if_neg fun hh=>hjP (kP j c k hk hh).1]
            exact Nat.le_refl _)
          exact Nat.le_trans s1 w4
      · subst c
        rw[ek,if_pos last,sum_one _ _ (fun k hk=>by
          have:=mem_kidsFrom.1 hk
          exact if_neg (by omega)),qaR]
        omega
      · omega
    · simp only[if_neg c2];refine⟨Nat.le_refl _,by omega,fun he=>?_⟩;rcases hU j hj with ⟨c,_⟩ | ⟨c,_⟩ | ⟨_,m,hm,e⟩
      · exact absurd c c2
      · omega
      · rw[e] at he;cases he

theorem qoM {T α:Type} {G:(T→Option α)→T→Option α} (hG:Mono G) (R:Nat→T→α→Prop)
    (h:∀n φ x y,R n x y→(∀m x' y',m<n→R m x' y'→φ x'=some y')→G φ x=some y):∀n x y,R n x y→fixW G x=some y:=by
  have a2:∀k n x y,R n x y→n<k→fixN G k x=some y:=by
    intro k
    induction k with
    | zero=>intro n x y _ hl;omega
    | succ k ih=>intro n x y hr hl;exact h n _ x y hr fun m x' y' hm hr'=>ih m x' y' hr' (by omega)
  intro n x y hr;exact Le.fix (fun φ ψ hs y=>hG φ ψ hs y) hG (n+1) x _ (a2 _ n x y hr (Nat.lt_succ_self _))

abbrev Pn:=Place×Int×Int×Bool×Unit
abbrev ArP:=List (Pn×Option (List Nat))
abbrev dPn:Pn:=(([],(([],([],())),((0:Int),((0:Int),())))),((0:Int),((0:Int),(false,()))))
def wP (n:PN):Pn×Option (List Nat):=((n.p,(n.a,(n.b,(n.e,())))),if n.ks=[] then none else some (n.ks.map (· + 1)))
theorem ndP_w {M:List PN} {i:Nat} (h:i<M.length):ndP (M.map wP) dPn (i+1)=(wP (nd M i)).1:=by
  unfold ndP getD';rw[List.getD_eq_getElem?_getD,Nat.add_sub_cancel,List.getElem?_map,qlY h];rfl
theorem kqP_w {M:List PN} {i:Nat} (h:i<M.length):kqP (M.map wP) dPn (i+1)=(wP (nd M i)).2:=by
  unfold kqP getD';rw[List.getD_eq_getElem?_getD,Nat.add_sub_cancel,List.getElem?_map,qlY h];rfl
theorem kdP_w {M:List PN} {i:Nat} (h:i<M.length):kdP (M.map wP) dPn (i+1)=(nd M i).ks.map (· + 1):=by
  have:kdP (M.map wP) dPn (i+1)=(kqP (M.map wP) dPn (i+1)).getD []:=rfl;rw[this,kqP_w h];unfold wP;by_cases hk:(nd M i).ks=[]
  · rw[if_pos hk,hk];rfl
  · rw[if_neg hk];rfl
theorem qmL {M:List PN} {i:Nat} (h:i<M.length) (v:Pn) (n:PN) (h1:n.ks=(nd M i).ks) (h2:(wP n).1=v):setP (M.map wP) dPn (i+1) v=(M.set i n).map wP:=by
  have e:setP (M.map wP) dPn (i+1) v=(M.map wP).set i (v,kqP (M.map wP) dPn (i+1)):=rfl;rw[e,kqP_w h,List.map_set,←h2];unfold wP;rw[h1]
def wk (n:PN) (ks:List Nat):PN:=⟨n.p,ks,n.a,n.b,n.e⟩
def wke (n:PN) (ks:List Nat):PN:=⟨n.p,ks,n.a,n.b,true⟩
def pre (q:Place) (x y:Int):PN:=⟨q,[],x,y,false⟩
theorem putP_w {M:List PN} {i:Nat} (h:i<M.length) (ks:List Nat) (hk:ks≠[]):putP (M.map wP) dPn (i+1) (ks.map (· + 1))=(M.set i (wk (nd M i) ks)).map wP:=by
  have e:putP (M.map wP) dPn (i+1) (ks.map (· + 1))=(M.map wP).set i (ndP (M.map wP) dPn (i+1),some (ks.map (· + 1))):=rfl;rw[e,ndP_w h,List.map_set];have:wP (wk (nd M i) ks)=((wP (nd M i)).1,some (ks.map (· + 1))):=by
    unfold wP wk;simp only[if_neg hk]
  rw[this]
theorem addP_w (M:List PN) (n:PN) (h:n.ks=[]):addP (M.map wP) (wP n).1=(M++[n]).map wP:=by
  unfold addP wP;rw[List.map_append,List.map_singleton];simp only[h,if_true]
section
variable {r : Rules} {att : Int} {ms : List Mv} {n : Nat} {ns ns6 : ArP} {j v : Int} {p q : Place} {pa pb : Int} {pe : Bool}
theorem child_0 (hj:decide (j<((ms.length:Nat):Int))=true) (hin:inb j ms.length=true) (hn:Nat.blt 0 n=true) (hp:ndP ns dPn n=(p,(pa,(pb,(pe,()))))) (hm:qck r p (getD' ms j.toNat ((0:Int),((0:Int),((0:Int),()))))=some q)
    (h6:addP ns (q,((1:Int),((1:Int),(false,()))))=ns6) (hres:qav r q=some v) (hv:(v==0)=true) (hroom:room ((kdP ns6 dPn n).length+[ns.length+1].length) 8=true) :
    qo ms n (r,(att,())) ((j,()),(ns,()))=some (.inl ((w64 (j+1),()),(putP ns6 dPn n (kdP ns6 dPn n++[ns.length+1]),()))):=by
  obtain⟨p1,⟨p2,p3,⟨⟩⟩,⟨p4,p5,⟨⟩⟩⟩:=p;obtain⟨q1,⟨q2,q3,⟨⟩⟩,⟨q4,q5,⟨⟩⟩⟩:=q;have hb:Nat.beq (n-1) (n-1)=true:=Nat.beq_refl _;unfold qo;simp only[hj,cond_true,hin,qg,hn,hp,hm,Option.bind_some,h6,hres,hv,hroom,hb,agree_self]
theorem child_n {ns10 ns12:ArP} {x y:Int} (hj:decide (j<((ms.length:Nat):Int))=true) (hin:inb j ms.length=true) (hn:Nat.blt 0 n=true) (hp:ndP ns dPn n=(p,(pa,(pb,(pe,()))))) (hm:qck r p (getD' ms j.toNat ((0:Int),((0:Int),((0:Int),()))))=some q)
    (h6:addP ns (q,((1:Int),((1:Int),(false,()))))=ns6) (hres:qav r q=some v) (hv:(v==0)=false) (hxy:(x,y)=bif v==w64 (1+att) then((0:Int),(1099511627776:Int)) else((1099511627776:Int),(0:Int)))
    (hn2:Nat.blt 0 (ns.length+1)=true) (h9:ndP ns6 dPn (ns.length+1)=(q,((1:Int),((1:Int),(false,()))))) (h10:setP ns6 dPn (ns.length+1) (q,(x,((1:Int),(false,()))))=ns10)
    (h11:ndP ns10 dPn (ns.length+1)=(q,(x,((1:Int),(false,()))))) (h12:setP ns10 dPn (ns.length+1) (q,(x,(y,(false,()))))=ns12) (hroom:room ((kdP ns12 dPn n).length+[ns.length+1].length) 8=true) :
    qo ms n (r,(att,())) ((j,()),(ns,()))=some (.inl ((w64 (j+1),()),(putP ns12 dPn n (kdP ns12 dPn n++[ns.length+1]),()))):=by
  obtain⟨p1,⟨p2,p3,⟨⟩⟩,⟨p4,p5,⟨⟩⟩⟩:=p;obtain⟨q1,⟨q2,q3,⟨⟩⟩,⟨q4,q5,⟨⟩⟩⟩:=q;have hb:Nat.beq (n-1) (n-1)=true:=Nat.beq_refl _;unfold qo
  cases hw:v==w64 (1+att) with
  | true =>
    rw[hw,cond_true] at hxy;cases hxy;simp only[hj,cond_true,cond_false,hin,qg,hn,hn2,hp,hm,Option.bind_some,h6,hres,hv,hw,h9,h10,h11,h12,hroom,hb,agree_self]
  | false =>
    rw[hw,cond_false] at hxy;cases hxy;simp only[hj,cond_true,cond_false,hin,qg,hn,hn2,hp,hm,Option.bind_some,h6,hres,hv,hw,h9,h10,h11,h12,hroom,hb,agree_self]
end
def gpart (r:Rules) (att:Int) (M:List PN) (i j:Nat):List PN:=(M.set i (wke (nd M i) (qr M.length j)))++((qe r (nd M i).p).take j).map fun m=>leafN r att (qat r (nd M i).p m)
theorem gpart_len (r:Rules) (att:Int) (M:List PN) (i:Nat) {j:Nat} (hj:j≤(qe r (nd M i).p).length):(gpart r att M i j).length=M.length+j:=by
  simp[gpart,Nat.min_eq_left hj]
theorem qnv (r:Rules) (att:Int) {M:List PN} {i:Nat} (hi:i<M.length) (j:Nat):nd (gpart r att M i j) i=wke (nd M i) (qr M.length j):=by
  unfold gpart;rw[qku (by simpa using hi),qby hi]
theorem qo7 (r:Rules) (att:Int) {M:List PN} {i:Nat} (hi:i<M.length) {j:Nat} (hj:j<(qe r (nd M i).p).length) :
    gpart r att M i (j+1)=(gpart r att M i j++[leafN r att (qat r (nd M i).p (qe r (nd M i).p)[j])]).set i (wk (nd (gpart r att M i j) i) (qr M.length (j+1))):=by
  rw[qnv r att hi];unfold gpart;rw[List.append_assoc,List.set_append_left _ _ (by simpa using hi),List.set_set,List.take_succ_eq_append_getElem hj,List.map_append,List.map_singleton];rfl
theorem gpart_0 (r:Rules) (att:Int) {M:List PN} {i:Nat} (hi:i<M.length) (hk:(nd M i).ks=[]):gpart r att M i 0=M.set i (wke (nd M i) (nd M i).ks):=by
  have e:wke (nd M i) (qr M.length 0)=wke (nd M i) (nd M i).ks:=by
    have:qr M.length 0=(nd M i).ks:=by rw[hk];rfl
    rw[this]
  unfold gpart;rw[e,List.take_zero,List.map_nil,List.append_nil]
theorem gpart_all (r:Rules) (att:Int) (M:List PN) (i:Nat):gpart r att M i (qe r (nd M i).p).length=growM r att M i:=by
  unfold gpart growM;rw[List.take_length];rfl
theorem qpe {r:Rules} {att:Int} (hatt:att=0∨att=1) {G:List PN} {i:Nat} (hi:i<G.length) (hv:Valid r (nd G i).p) (h0:qn r (nd G i).p=0) (hL:G.length≤1000000000) {j:Nat} (hj:j<(qe r (nd G i).p).length) (hk:(nd G i).ks.length≤1000000) :
    qo (qe r (nd G i).p) (i+1) (r,(att,())) (((j:Int),()),(G.map wP,())) =
      some (.inl ((((j+1:Nat):Int),()),(((G++[leafN r att (qat r (nd G i).p (qe r (nd G i).p)[j])]).set i (wk (nd G i) ((nd G i).ks++[G.length]))).map wP,()))):=by
  have hma:=qjg hv (open_0 h0).symm hj;have hml:=qaS hv;have hres:=qf4 hma.2;have hmk:qck r (nd G i).p (getD' (qe r (nd G i).p) (j:Int).toNat ((0:Int),((0:Int),((0:Int),()))))=some (qat r (nd G i).p (qe r (nd G i).p)[j]):=by
    rw[qg0 _ _ hj];exact make_spec hv hma.1
  generalize hq:qat r (nd G i).p (qe r (nd G i).p)[j]=q at hmk hres;have hp:ndP (G.map wP) dPn (i+1)=((nd G i).p,((nd G i).a,((nd G i).b,((nd G i).e,())))):=ndP_w hi;have h6:addP (G.map wP) ((q,((1:Int),((1:Int),(false,())))):Pn)=(G++[pre q 1 1]).map wP:=addP_w G (pre q 1 1) rfl
  have hw:w64 ((j:Int)+1)=((j+1:Nat):Int):=by rw[qd (by omega) (by omega)];omega
  have hlen:(G.map wP).length=G.length:=List.length_map _;have fin:∀n:PN,n.ks=[]→kdP ((G++[n]).map wP) dPn (i+1)=(nd G i).ks.map (· + 1)∧putP ((G++[n]).map wP) dPn (i+1) (((nd G i).ks.map (· + 1))++[G.length+1])=((G++[n]).set i (wk (nd G i) ((nd G i).ks++[G.length]))).map wP:=fun n _=>by
    have hi':i<(G++[n]).length:=by rw[List.length_append];omega
    have e:nd (G++[n]) i=nd G i:=qku hi;refine⟨by rw[kdP_w hi',e],?_⟩;have:=putP_w hi' ((nd G i).ks++[G.length]) (by simp)
    have e2:((nd G i).ks++[G.length]).map (· + 1)=(nd G i).ks.map (· + 1)++[G.length+1]:=by rw[List.map_append];rfl
    rw[e2,e] at this;exact this
  have hroomG:room (((nd G i).ks.map (· + 1)).length+[G.length+1].length) 8=true:=qb2 (by rw[List.length_map,List.length_singleton];omega);by_cases c:qn r q=0
  · have e:=child_0 (r:=r) (att:=att) (qdA _ _ hj) (qa1 _ _ hj) (by simp) hp hmk h6 hres (beq_t c) (by rw[(fin _ rfl).1,hlen];exact hroomG);rw[(fin _ rfl).1,hlen,(fin _ rfl).2,hw] at e;rw[e]
    have:leafN r att q=pre q 1 1:=by unfold leafN leafV;rw[if_pos c];rfl
    rw[this]
  · have hwa:w64 (1+att)=1+att:=qd (by omega) (by omega)
    have hl:∀n:PN,nd (G++[n]) G.length=n:=fun n=>by rw[nd_app2 (Nat.le_refl _),Nat.sub_self];rfl
    have hlt:∀n:PN,G.length<(G++[n]).length:=fun n=>by rw[List.length_append,List.length_singleton];omega
    have hset:∀n m:PN,(G++[n]).set G.length m=G++[m]:=fun n m=>by rw[List.set_append_right _ _ (Nat.le_refl _),Nat.sub_self];rfl
    have hxy:((leafV r att q).1,(leafV r att q).2)=bif qn r q==w64 (1+att) then((0:Int),(1099511627776:Int)) else((1099511627776:Int),(0:Int)):=by
      unfold leafV;rw[if_neg c,hwa];by_cases c2:qn r q=1+att
      · rw[if_pos c2,beq_t c2,cond_true]
      · rw[if_neg c2,beq_f c2,cond_false]
    have h9:ndP ((G++[pre q 1 1]).map wP) dPn (G.length+1)=(q,((1:Int),((1:Int),(false,())))):=by rw[ndP_w (hlt _),hl];rfl
    have h10:setP ((G++[pre q 1 1]).map wP) dPn (G.length+1) (q,((leafV r att q).1,((1:Int),(false,()))))=(G++[pre q (leafV r att q).1 1]).map wP:=by
      have:=qmL (M:=G++[pre q 1 1]) (hlt _) (q,((leafV r att q).1,((1:Int),(false,())))) (pre q (leafV r att q).1 1) (by rw[hl];first | done | rfl) rfl;rw[hset] at this;exact this
    have h11:ndP ((G++[pre q (leafV r att q).1 1]).map wP) dPn (G.length+1)=(q,((leafV r att q).1,((1:Int),(false,())))):=by rw[ndP_w (hlt _),hl];rfl
    have h12:setP ((G++[pre q (leafV r att q).1 1]).map wP) dPn (G.length+1) (q,((leafV r att q).1,((leafV r att q).2,(false,()))))=(G++[leafN r att q]).map wP:=by
      have:=qmL (M:=G++[pre q (leafV r att q).1 1]) (hlt _) (q,((leafV r att q).1,((leafV r att q).2,(false,())))) (leafN r att q) (by rw[hl];first | done | rfl) rfl;rw[hset] at this;exact this
    have e:=child_n (r:=r) (att:=att) (ns10:=(G++[pre q (leafV r att q).1 1]).map wP) (ns12:=(G++[leafN r att q]).map wP) (qdA _ _ hj) (qa1 _ _ hj) (by simp) hp hmk h6 hres (beq_f c) hxy (by simp) (by rw[hlen];exact h9) (by rw[hlen];exact h10) (by rw[hlen];exact h11) (by rw[hlen];exact h12) (by rw[(fin _ rfl).1,hlen];exact hroomG);rw[(fin _ rfl).1,hlen,(fin _ rfl).2,hw] at e;rw[e]
theorem grow_loop {r:Rules} {att:Int} (hatt:att=0∨att=1) {M:List PN} {i:Nat} (hi:i<M.length) (hv:Valid r (nd M i).p) (h0:qn r (nd M i).p=0) (hL:M.length≤900000000):∀(f j:Nat),j+f=(qe r (nd M i).p).length →
    iterW (qo (qe r (nd M i).p) (i+1) (r,(att,()))) (((j:Int),()),((gpart r att M i j).map wP,()))=some ((),((growM r att M i).map wP,())):=by
  intro f;have hml:=qaS hv
  induction f with
  | zero =>
    intro j hj
    obtain rfl:j=(qe r (nd M i).p).length:=by omega
    refine qk ?_;rw[gpart_all];unfold qo;rw[qnF,cond_false]
  | succ f ih =>
    intro j hj
    have hj':j<(qe r (nd M i).p).length:=by omega
    have hgl:=gpart_len r att M i (Nat.le_of_lt hj')
    have hgi:i<(gpart r att M i j).length:=by omega
    have eP:nd (gpart r att M i j) i=wke (nd M i) (qr M.length j):=qnv r att hi j
    have eP1:(nd (gpart r att M i j) i).p=(nd M i).p:=by rw[eP];rfl
    have eP2:(nd (gpart r att M i j) i).ks=qr M.length j:=by rw[eP];rfl
    have e:=qpe (r:=r) hatt hgi (by rw[eP1];exact hv) (by rw[eP1];exact h0) (by omega) (j:=j) (by rw[eP1];exact hj') (by rw[eP2,qaR];omega);simp only[eP1,eP2] at e;rw[hgl,←qeu,←qo7 r att hi hj'] at e;rw[qs e];exact ih (j+1) (by omega)
end Go.Proofs.Ytcifaoaepbidoaa
namespace Go.Proofs.Ytcifaoaepbidoaa
open Go.Den
set_option linter.unusedVariables false
set_option linter.unusedSimpArgs false
set_option maxRecDepth 100000

def flA (r:Rules) (att:Int):=(r.1,(r.2.1,(r.2.2.1,(r.2.2.2.1,(r.2.2.2.2.1,(r.2.2.2.2.2.1,(r.2.2.2.2.2.2.1,(r.2.2.2.2.2.2.2.1,(r.2.2.2.2.2.2.2.2.1,(r.2.2.2.2.2.2.2.2.2.1,(r.2.2.2.2.2.2.2.2.2.2.1,(att,()))))))))))))
def Bd (M:List PN):Prop:=∀j<M.length,0≤(nd M j).a∧(nd M j).a≤1099511627776∧0≤(nd M j).b∧(nd M j).b≤1099511627776
theorem Gd.bd {r:Rules} {att:Int} {B:Nat} {M:List PN} (h:Gd r att B M) (hB:B≤1099511627775):Bd M:=fun j hj=>by
  have:=h.kd hB j hj;unfold Kd at this;omega
def BdP (x:Int×Int):Prop:=0≤x.1∧x.1≤1099511627776∧0≤x.2∧x.2≤1099511627776
theorem bd_stp {own:Bool} {x:Int×Int} {n:PN} (h:BdP x) (hn:0≤n.a∧n.a≤1099511627776∧0≤n.b∧n.b≤1099511627776):BdP (stp own x n):=by
  unfold BdP stp mn at *;cases own
  · simp only[Bool.false_eq_true,if_false]
    (repeat' split)<;>omega
  · simp only[if_true]
    (repeat' split)<;>omega
theorem qlv {own:Bool} {M:List PN} (hM:Bd M):∀(ks:List Nat) (x:Int×Int),(∀k∈ks,k<M.length)→BdP x→BdP (ks.foldl (fun x k=>stp own x (nd M k)) x)
  | [],x,_,h=>h
  | k::ks,x,hk,h=>qlv hM ks _ (fun j hj=>hk j (List.mem_cons_of_mem _ hj)) (bd_stp h (hM k (hk k List.mem_cons_self)))
theorem bd_recalc {att:Int} {M:List PN} (hM:Bd M) {i:Nat} (hk:∀k∈(nd M i).ks,k<M.length):0≤(recalc att M i).a∧(recalc att M i).a≤1099511627776∧0≤(recalc att M i).b∧(recalc att M i).b≤1099511627776:=by
  have h:BdP (calcN (ownB att (nd M i)) M (nd M i).ks):=qlv hM _ _ hk ⟨by omega,by omega,by omega,by omega⟩;obtain⟨h1,h2,h3,h4⟩:=h;show 0≤(vals att M i).1∧(vals att M i).1≤1099511627776∧0≤(vals att M i).2∧(vals att M i).2≤1099511627776;unfold vals swp;split
  · exact⟨h1,h2,h3,h4⟩
  · exact⟨h3,h4,h1,h2⟩
theorem bd_set {M:List PN} (hM:Bd M) (i:Nat) {n:PN} (hn:0≤n.a∧n.a≤1099511627776∧0≤n.b∧n.b≤1099511627776):Bd (M.set i n):=fun j hj=>by
  rw[List.length_set] at hj;by_cases c:i=j
  · subst c;rw[qby hj];exact hn
  · rw[qcZ c];exact hM j hj
theorem bd_grow {r:Rules} {att:Int} {M:List PN} (hM:Bd M) {i:Nat} (hi:i<M.length):Bd (growM r att M i):=fun j hj=>by
  by_cases c:j<M.length
  · by_cases c2:i=j
    · subst c2;rw[qjC r att hi];exact hM i hi
    · rw[qfc r att c c2];exact hM j c
  · obtain⟨m,_,e⟩:=qn1 r att (Nat.le_of_not_lt c) hj;rw[e];have:=kd_leaf r att (qat r (nd M i).p m) (Nat.le_refl 1);show 0≤(leafV r att (qat r (nd M i).p m)).1∧_≤_∧0≤(leafV r att (qat r (nd M i).p m)).2∧(leafV r att (qat r (nd M i).p m)).2≤_;show _∧(leafV r att (qat r (nd M i).p m)).1≤_∧_;unfold Kd at this;omega
theorem L2_step {r:Rules} {att:Int} {own:Bool} {ns:ArP} {n c b:Nat} {ks:List Nat} {j:Int} {p pc pb:Place} {na nb ca cb ba bb:Int} {ne ce be:Bool} (hn:ndP ns dPn n=(p,(na,(nb,(ne,()))))) (ho:(p.2.2.1==att)=own) (hks:kdP ns dPn n=ks)
    (hj:decide (j<((ks.length:Nat):Int))=true) (hin:inb j ks.length=true) (hc:getD' ks j.toNat 0=c) (hbc:Nat.blt 0 c=true) (hbb:Nat.blt 0 b=true) (hnc:ndP ns dPn c=(pc,(ca,(cb,(ce,()))))) (hnb:ndP ns dPn b=(pb,(ba,(bb,(be,()))))) :
    qz ns n (r,(att,())) ((b,(j,())),())=some (.inl ((if (if own then ca else cb)<(if own then ba else bb) then c else b,(w64 (j+1),())),())):=by
  unfold qz;simp only[hn,ho,hks,hj,cond_true,hin,qg,hc,hbc,hbb,hnc,hnb]
  cases own with
  | true =>
    by_cases h:ca<ba
    · simp only[cond_true,Option.bind_some,decide_eq_true h,if_true,if_pos h]
    · simp only[cond_true,Option.bind_some,decide_eq_false h,cond_false,if_true,if_neg h]
  | false =>
    by_cases h:cb<bb
    · simp only[cond_true,cond_false,Option.bind_some,decide_eq_true h,Bool.false_eq_true,if_false,if_pos h]
    · simp only[cond_true,Option.bind_some,decide_eq_false h,cond_false,Bool.false_eq_true,if_false,if_neg h]
theorem qhE (f:Nat→Int) (b:Nat) (ks:List Nat) {j:Nat} (h:j<ks.length):bestF f b (ks.take (j+1))=if f ks[j]<f (bestF f b (ks.take j)) then ks[j] else bestF f b (ks.take j):=by
  unfold bestF;rw[List.take_succ_eq_append_getElem h,List.foldl_append];rfl
theorem L2_loop {r:Rules} {att:Int} {M:List PN} {i:Nat} (hi:i<M.length) (hk:∀k∈(nd M i).ks,k<M.length) (hne:(nd M i).ks≠[]) (hl:(nd M i).ks.length≤100000):∀(f j:Nat),j+f=(nd M i).ks.length →
    iterW (qz (M.map wP) (i+1) (r,(att,()))) ((bestF (numK att M i) ((nd M i).ks.headD 0) ((nd M i).ks.take j)+1,((j:Int),())),())=some ((qT att M i+1,()),()):=by
  intro f;have hkl:((nd M i).ks.map (· + 1)).length=(nd M i).ks.length:=List.length_map _
  induction f with
  | zero =>
    intro j hj
    obtain rfl:j=(nd M i).ks.length:=by omega
    refine qk ?_;rw[List.take_length];have hd:decide ((((nd M i).ks.length:Nat):Int)<((((nd M i).ks.map (· + 1)).length:Nat):Int))=false:=decide_eq_false (by rw[hkl];omega);unfold qz;simp only[kdP_w hi,hd,cond_false];rfl
  | succ f ih =>
    intro j hj
    have hj':j<(nd M i).ks.length:=by omega
    have hb:bestF (numK att M i) ((nd M i).ks.headD 0) ((nd M i).ks.take j)<M.length:=by
      rcases qkR (numK att M i) ((nd M i).ks.take j) ((nd M i).ks.headD 0) with h | h
      · rw[h];refine hk _ ?_
        cases hh:(nd M i).ks with
        | nil=>exact absurd hh hne
        | cons a l=>exact List.mem_cons_self
      · exact hk _ (List.mem_of_mem_take h)
    have hc:(nd M i).ks[j]<M.length:=hk _ (List.getElem_mem hj');have e:=L2_step (r:=r) (att:=att) (ndP_w hi) rfl (kdP_w hi) (by rw[hkl];exact qdA _ _ hj') (by rw[hkl];exact qa1 _ _ hj') (c:=(nd M i).ks[j]+1) (by rw[qg0 _ _ (by rw[hkl];exact hj'),List.getElem_map]) (by simp) (by simp) (ndP_w hc) (ndP_w hb);rw[qd (by omega) (by omega)] at e;have e2:(if (if ((nd M i).p.2.2.1==att)=true then(nd M (nd M i).ks[j]).a else(nd M (nd M i).ks[j]).b)<(if ((nd M i).p.2.2.1==att)=true then(nd M (bestF (numK att M i) ((nd M i).ks.headD 0) ((nd M i).ks.take j))).a else(nd M (bestF (numK att M i) ((nd M i).ks.headD 0) ((nd M i).ks.take j))).b) then(nd M i).ks[j]+1 else bestF (numK att M i) ((nd M i).ks.headD 0) ((nd M i).ks.take j)+1)=bestF (numK att M i) ((nd M i).ks.headD 0) ((nd M i).ks.take (j+1))+1:=by
      rw[qhE _ _ _ hj'];show _=(if (numK att M i (nd M i).ks[j])<numK att M i (bestF (numK att M i) ((nd M i).ks.headD 0) ((nd M i).ks.take j)) then _ else _)+1;by_cases c:(numK att M i (nd M i).ks[j])<numK att M i (bestF (numK att M i) ((nd M i).ks.headD 0) ((nd M i).ks.take j))
      · rw[if_pos c];exact if_pos c
      · rw[if_neg c];exact if_neg c
    rw[e2] at e;rw[qs e];have:=ih (j+1) (by omega);rw[show(((j+1:Nat)):Int)=(j:Int)+1 by omega] at this;exact this
theorem L3_step {r:Rules} {att:Int} {own:Bool} {ns:ArP} {n c:Nat} {ks:List Nat} {j l s:Int} {p pc:Place} {na nb ca cb:Int} {ne ce:Bool} (hn:ndP ns dPn n=(p,(na,(nb,(ne,()))))) (ho:(p.2.2.1==att)=own) (hks:kdP ns dPn n=ks)
    (hj:decide (j<((ks.length:Nat):Int))=true) (hin:inb j ks.length=true) (hc:getD' ks j.toNat 0=c) (hbc:Nat.blt 0 c=true) (hnc:ndP ns dPn c=(pc,(ca,(cb,(ce,()))))) :
    qF ((),(flA r att,(ns,()))) n ((l,(s,(j,()))),())=some (.inl ((if (if own then ca else cb)<l then(if own then ca else cb) else l,(if 1099511627776<w64 (s+(if own then cb else ca)) then 1099511627776 else w64 (s+(if own then cb else ca)),(w64 (j+1),()))),())):=by
  unfold qF;simp only[flA,hn,ho,hks,hj,cond_true,hin,qg,hc,hbc,hnc]
  cases own with
  | true=>simp only[Bool.not_true,cond_false,Option.bind_some,if_true]
  | false=>simp only[Bool.not_false,cond_true,Option.bind_some,Bool.false_eq_true,if_false]
theorem L3_loop {r:Rules} {att:Int} {M:List PN} (hM:Bd M) {i:Nat} (hi:i<M.length) (hk:∀k∈(nd M i).ks,k<M.length) (hl:(nd M i).ks.length≤100000):∀(f j:Nat) (x:Int×Int),j+f=(nd M i).ks.length→x=((nd M i).ks.take j).foldl (fun x k=>stp (ownB att (nd M i)) x (nd M k)) (1099511627776,0) →
    iterW (qF ((),(flA r att,(M.map wP,()))) (i+1)) ((x.1,(x.2,((j:Int),()))),())=some (((calcN (ownB att (nd M i)) M (nd M i).ks).1,((calcN (ownB att (nd M i)) M (nd M i).ks).2,())),()):=by
  intro f;have hkl:((nd M i).ks.map (· + 1)).length=(nd M i).ks.length:=List.length_map _
  induction f with
  | zero =>
    intro j x hj hx
    obtain rfl:j=(nd M i).ks.length:=by omega
    refine qk ?_;rw[List.take_length] at hx;have hd:decide ((((nd M i).ks.length:Nat):Int)<((((nd M i).ks.map (· + 1)).length:Nat):Int))=false:=decide_eq_false (by rw[hkl];omega);unfold qF;simp only[kdP_w hi,hd,cond_false];rw[hx];rfl
  | succ f ih =>
    intro j x hj hx
    have hj':j<(nd M i).ks.length:=by omega
    have hc:(nd M i).ks[j]<M.length:=hk _ (List.getElem_mem hj');have hxb:BdP x:=by
      rw[hx];exact qlv hM _ _ (fun k hk2=>hk k (List.mem_of_mem_take hk2)) ⟨by omega,by omega,by omega,by omega⟩
    have hb:=hM _ hc;have e:=L3_step (r:=r) (att:=att) (l:=x.1) (s:=x.2) (ndP_w hi) rfl (kdP_w hi) (by rw[hkl];exact qdA _ _ hj') (by rw[hkl];exact qa1 _ _ hj') (c:=(nd M i).ks[j]+1) (by rw[qg0 _ _ (by rw[hkl];exact hj'),List.getElem_map]) (by simp) (ndP_w hc);have hw:∀y:Int,0≤y→y≤1099511627776→w64 (x.2+y)=x.2+y:=fun y h1 h2=>by
      obtain⟨_,_,b3,b4⟩:=hxb;exact qd (by omega) (by omega)
    have hy:0≤(if ((nd M i).p.2.2.1==att)=true then(nd M (nd M i).ks[j]).b else(nd M (nd M i).ks[j]).a)∧(if ((nd M i).p.2.2.1==att)=true then(nd M (nd M i).ks[j]).b else(nd M (nd M i).ks[j]).a)≤1099511627776:=by
      split<;>omega
    have e3:=hw _ hy.1 hy.2;rw[qd (n:=(j:Int)+1) (by omega) (by omega)] at e
    have:=ih (j+1) (stp (ownB att (nd M i)) x (nd M (nd M i).ks[j])) (by omega) (by
      rw[List.take_succ_eq_append_getElem hj',List.foldl_append,←hx]
      rfl)
    rw[show(((j+1:Nat)):Int)=(j:Int)+1 by omega] at this;refine(qs e).trans ?_;rw[e3];exact this
section
variable {r : Rules} {att : Int} {own : Bool} {ns ns3 ns4 ns5 : ArP} {n : Nat} {p : Place} {a b a3 b3 l s x y : Int} {e3 : Bool} {self : ((Rules × Int × Unit) × Unit × ArP × Nat × Unit) → Option ((Rules × Int × Unit) × ArP × Unit)}
  (hn:Nat.blt 0 n=true) (ho:(p.2.2.1==att)=own) (hL3:iterW (qF ((),(flA r att,(ns3,()))) n) (((1099511627776:Int),((0:Int),((0:Int),()))),())=some ((l,(s,())),()))
  (hp3:ndP ns3 dPn n=(p,(a3,(b3,(e3,()))))) (hxy:(x,y)=swp own (l,s)) (hs4:setP ns3 dPn n (p,(x,(b3,(e3,()))))=ns4) (hp4:ndP ns4 dPn n=(p,(x,(b3,(e3,()))))) (hs5:setP ns4 dPn n (p,(x,(y,(e3,()))))=ns5)
include hn ho hL3 hp3 hxy hs4 hp4 hs5
theorem F_A {ns2:ArP} {ms:List Mv} (hp:ndP ns dPn n=(p,(a,(b,(false,()))))) (hs2:setP ns dPn n (p,(a,(b,(true,()))))=ns2) (hp2:ndP ns2 dPn n=(p,(a,(b,(true,()))))) (hm:qbo r p=some ms)
    (hL1:iterW (qo ms n (r,(att,()))) (((0:Int),()),(ns2,()))=some ((),(ns3,()))) :
    qC self (r,(att,())) ns n=some ((r,(att,())),(ns5,())):=by
  obtain⟨r1,r2,r3,r4,r5,r6,r7,r8,r9,r10,r11,⟨⟩⟩:=r;obtain⟨p1,⟨p2,p3,⟨⟩⟩,⟨p4,p5,⟨⟩⟩⟩:=p;simp only[flA] at hL3;simp only at ho;unfold qC
  cases own with
  | true =>
    cases hxy;simp only[hn,qg,hp,Bool.not_false,cond_true,Option.bind_some,hs2,hp2,hm,hL1,hL3,hp3,ho,hs4,hp4,hs5]
  | false =>
    cases hxy;simp only[hn,qg,hp,Bool.not_false,cond_true,cond_false,Option.bind_some,hs2,hp2,hm,hL1,hL3,hp3,ho,hs4,hp4,hs5]
theorem F_B {ks:List Nat} {c:Nat} (hp:ndP ns dPn n=(p,(a,(b,(true,()))))) (hk:kdP ns dPn n=ks) (hin:inb (0:Int) ks.length=true) (hL2:iterW (qz ns n (r,(att,()))) ((getD' ks 0 0,((0:Int),())),())=some ((c,()),()))
    (hs:self ((r,(att,())),(),ns,c,())=some ((r,(att,())),(ns3,()))) :
    qC self (r,(att,())) ns n=some ((r,(att,())),(ns5,())):=by
  obtain⟨r1,r2,r3,r4,r5,r6,r7,r8,r9,r10,r11,⟨⟩⟩:=r;obtain⟨p1,⟨p2,p3,⟨⟩⟩,⟨p4,p5,⟨⟩⟩⟩:=p;simp only[flA] at hL3;simp only at ho;unfold qC
  cases own with
  | true =>
    cases hxy;simp only[hn,qg,hp,Bool.not_true,cond_true,cond_false,Option.bind_some,hk,hin,hL2,hs,hL3,hp3,ho,hs4,hp4,hs5]
  | false =>
    cases hxy;simp only[hn,qg,hp,Bool.not_true,cond_true,cond_false,Option.bind_some,hk,hin,hL2,hs,hL3,hp3,ho,hs4,hp4,hs5]
end
end Go.Proofs.Ytcifaoaepbidoaa
namespace Go.Proofs.Ytcifaoaepbidoaa
open Go.Den
set_option linter.unusedVariables false
set_option linter.unusedSimpArgs false
set_option maxRecDepth 100000

theorem bd_upd {att:Int}:∀(P:List Nat) (G:List PN),Bd G→(∀x∈P,x<G.length)→(∀x∈P,∀k∈(nd G x).ks,k<G.length)→Bd (updR att P G)
  | [],G,h,_,_=>h
  | a::P,G,h,hx,hk=>by
    have hx':∀x∈P,x<G.length:=fun x hx2=>hx x (List.mem_cons_of_mem _ hx2);have ih:=bd_upd (att:=att) P G h hx' (fun x hx2=>hk x (List.mem_cons_of_mem _ hx2));show Bd ((updR att P G).set a (recalc att (updR att P G) a));refine bd_set ih a (bd_recalc ih fun k hk2=>?_);rw[(qeF att P G a hx').2.1] at hk2;rw[qea];exact hk a List.mem_cons_self k hk2
section
variable {r : Rules} {att : Int} {M N3 : List PN} {i : Nat} (hB : Bd N3) (hi : i < N3.length) (hk : ∀ k ∈ (nd N3 i).ks, k < N3.length) (hl : (nd N3 i).ks.length ≤ 100000) (hp3 : (nd N3 i).p = (nd M i).p)
include hi
theorem set4:setP (N3.map wP) dPn (i+1) ((nd N3 i).p,((vals att N3 i).1,((nd N3 i).b,((nd N3 i).e,()))))=(N3.set i ⟨(nd N3 i).p,(nd N3 i).ks,(vals att N3 i).1,(nd N3 i).b,(nd N3 i).e⟩).map wP:=qmL hi _ _ rfl rfl
theorem nd4:ndP ((N3.set i ⟨(nd N3 i).p,(nd N3 i).ks,(vals att N3 i).1,(nd N3 i).b,(nd N3 i).e⟩).map wP) dPn (i+1)=((nd N3 i).p,((vals att N3 i).1,((nd N3 i).b,((nd N3 i).e,())))):=by
  rw[ndP_w (by rw[List.length_set];exact hi),qby hi];rfl
theorem set5:setP ((N3.set i ⟨(nd N3 i).p,(nd N3 i).ks,(vals att N3 i).1,(nd N3 i).b,(nd N3 i).e⟩).map wP) dPn (i+1) ((nd N3 i).p,((vals att N3 i).1,((vals att N3 i).2,((nd N3 i).e,()))))=(N3.set i (recalc att N3 i)).map wP:=by
  have:=qmL (M:=N3.set i ⟨(nd N3 i).p,(nd N3 i).ks,(vals att N3 i).1,(nd N3 i).b,(nd N3 i).e⟩) (i:=i) (by rw[List.length_set];exact hi) ((nd N3 i).p,((vals att N3 i).1,((vals att N3 i).2,((nd N3 i).e,())))) (recalc att N3 i) (by rw[qby hi];rfl) rfl;rw[List.set_set] at this;exact this
end
theorem expand_e {r:Rules} {att:Int} {M:List PN} {i f:Nat} (he:(nd M i).e=true):qaf r att (f+1) M i=(qaf r att f M (qT att M i)).set i (recalc att (qaf r att f M (qT att M i)) i):=by
  unfold qaf;have:pathM att (f+1) M i=(i::(pathM att f M (qT att M i)).1,(pathM att f M (qT att M i)).2):=if_pos he;rw[this];rfl
theorem expand_n {r:Rules} {att:Int} {M:List PN} {i f:Nat} (he:¬(nd M i).e=true):qaf r att (f+1) M i=(growM r att M i).set i (recalc att (growM r att M i) i):=by
  unfold qaf;have:pathM att (f+1) M i=([i],i):=if_neg he;rw[this];rfl
theorem qlE {r:Rules} {att:Int} {B:Nat} {M:List PN} (h:Gd r att B M) {l:Nat} (hl:l<M.length) (le0:(nd M l).e=false) (ha:(nd M l).a≠0) (hb:(nd M l).b≠0):(nd M l).ks=[]∧qn r (nd M l).p=0:=by
  obtain⟨e0,e⟩:=h.e0 l hl le0;refine⟨e0,Decidable.byContradiction fun hn=>?_⟩;unfold leafV at e;rw[if_neg hn] at e;split at e
  · exact ha (congrArg Prod.fst e)
  · exact hb (congrArg Prod.snd e)
theorem below {r:Rules} {att:Int} {B:Nat} {M:List PN} (h:Gd r att B M) (hB:B≤1099511627775) {f c:Nat} (hc:c<M.length) (hf:M.length≤f+c) (ha:(nd M c).a≠0) (hb:(nd M c).b≠0) :
    Bd (qaf r att f M c)∧M.length≤(qaf r att f M c).length∧∀j<c,nd (qaf r att f M c) j=nd M j:=by
  have o:=qiB h hB f c hc hf ha hb;have hlen:=qhR r att f M c;refine⟨?_,by rw[hlen];omega,fun j hj=>?_⟩
  · unfold qaf
    have ltG:∀x∈(pathM att f M c).1,x<(growM r att M (pathM att f M c).2).length:=fun x hx=>by rw[qc4];have:=o.lt x hx;omega
    have hl:=o.lt _ o.last;refine bd_upd _ _ (bd_grow (h.bd hB) hl) ltG fun x hx k hk=>?_;rw[qc4];by_cases c:(pathM att f M c).2=x
    · subst c;rw[qjC r att hl] at hk;exact(mem_kidsFrom.1 hk).2
    · rw[qfc r att (o.lt x hx) c] at hk;have:=(h.kid x (o.lt x hx) k hk).2;omega
  · unfold qaf;obtain⟨P,hP,hlt⟩:=o.hd;have hn:∀x∈(pathM att f M c).1,j<x:=fun x hx=>by
      rw[hP] at hx;rcases List.mem_cons.1 hx with rfl | hx
      · exact hj
      · have:=hlt x hx;omega
    rw[qlC att _ _ j fun hh=>Nat.lt_irrefl _ (hn j hh),qfc r att (by omega) fun hh=>Nat.lt_irrefl _ (hh▸hn _ o.last)]
def Rex (r:Rules) (att:Int) (f:Nat) (x:(Rules×Int×Unit)×Unit×ArP×Nat×Unit) (y:(Rules×Int×Unit)×ArP×Unit):Prop :=
  ∃(M:List PN) (i B:Nat),Gd r att B M∧B≤1099511627775∧i<M.length∧M.length≤f+i∧M.length≤900000000∧(nd M i).a≠0∧(nd M i).b≠0∧x=((r,(att,())),(),M.map wP,i+1,())∧y=((r,(att,())),((qaf r att f M i).map wP,()))
theorem qo3 {r:Rules} {att:Int} (hatt:att=0∨att=1):∀f x y,Rex r att f x y→fixW qB x=some y:=by
  refine qoM qdH (Rex r att) fun f φ x y hR hφ=>?_;obtain⟨M,i,B,h,hB,hi,hf,hL,ha,hb,rfl,rfl⟩:=hR;show qC φ (r,(att,())) (M.map wP) (i+1)=_
  cases f with
  | zero=>omega
  | succ f =>
    have hn:Nat.blt 0 (i+1)=true:=by simp
    by_cases he:(nd M i).e=true
    · rw[expand_e he];obtain⟨n1,n2,n3⟩:=h.next hB hi he ha hb;obtain⟨k1,k2⟩:=h.kid i hi _ n1;obtain⟨x1,x2,x3⟩:=h.e1 i hi he;have hs:=hφ f _ _ (Nat.lt_succ_self f) ⟨M,qT att M i,B,h,hB,k2,by omega,hL,n2,n3,rfl,rfl⟩;obtain⟨b1,b2,b3⟩:=below h hB (f:=f) k2 (by omega) n2 n3;have e3:=b3 i k1;generalize qaf r att f M (qT att M i)=N3 at hs b1 b2 e3 ⊢
      have hi3:i<N3.length:=by omega
      have hk3:∀k∈(nd N3 i).ks,k<N3.length:=fun k hk=>by
        rw[e3] at hk;have:=(h.kid i hi k hk).2;omega
      have hl3:(nd N3 i).ks.length≤100000:=by rw[e3];exact h.kl i hi
      have hL3:=L3_loop (r:=r) (att:=att) b1 hi3 hk3 hl3 (nd N3 i).ks.length 0 (1099511627776,0) (by omega) rfl;have hkl:((nd M i).ks.map (· + 1)).length=(nd M i).ks.length:=List.length_map _;have hpos:0<(nd M i).ks.length:=List.length_pos_iff.2 x1;have hL2:=L2_loop (r:=r) (att:=att) hi (fun k hk=>(h.kid i hi k hk).2) x1 (h.kl i hi) (nd M i).ks.length 0 (by omega);have hL2':iterW (qz (M.map wP) (i+1) (r,(att,()))) ((getD' ((nd M i).ks.map (· + 1)) 0 0,((0:Int),())),())=some ((qT att M i+1,()),()):=by
        have e0:getD' ((nd M i).ks.map (· + 1)) 0 0=(nd M i).ks.headD 0+1:=by
          cases hh:(nd M i).ks with
          | nil=>exact absurd hh x1
          | cons a l=>rfl
        rw[e0];exact hL2
      refine F_B (p:=(nd N3 i).p) (ns3:=N3.map wP) (own:=ownB att (nd N3 i)) (l:=(calcN (ownB att (nd N3 i)) N3 (nd N3 i).ks).1) (s:=(calcN (ownB att (nd N3 i)) N3 (nd N3 i).ks).2) (x:=(vals att N3 i).1) (y:=(vals att N3 i).2) hn rfl hL3 (ndP_w hi3) rfl (set4 hi3) (nd4 hi3) (set5 hi3) (a:=(nd M i).a) (b:=(nd M i).b) ?_ (kdP_w hi) (by rw[hkl];exact qa1 _ 0 hpos) hL2' hs;rw[ndP_w hi,e3,←he];rfl
    · rw[expand_n he]
      have he':(nd M i).e=false:=by simpa using he
      obtain⟨x1,x2⟩:=qlE h hi he' ha hb;have hv:=h.val i hi;have hml:=qaS hv;have hL1:=grow_loop hatt hi hv x2 hL (qe r (nd M i).p).length 0 (by omega);have b1:=bd_grow (r:=r) (att:=att) (h.bd hB) hi;have e3:nd (growM r att M i) i=wke (nd M i) (qr M.length (qe r (nd M i).p).length):=qjC r att hi;have hlen:=qc4 r att M i;generalize growM r att M i=N3 at hL1 b1 e3 hlen ⊢
      have hi3:i<N3.length:=by omega
      have ek:(nd N3 i).ks=qr M.length (qe r (nd M i).p).length:=by rw[e3];rfl
      have ep:(nd N3 i).p=(nd M i).p:=by rw[e3];rfl
      have hk3:∀k∈(nd N3 i).ks,k<N3.length:=fun k hk=>by
        rw[ek] at hk;have:=(mem_kidsFrom.1 hk).2;omega
      have hl3:(nd N3 i).ks.length≤100000:=by rw[ek,qaR];exact hml
      have hL3:=L3_loop (r:=r) (att:=att) b1 hi3 hk3 hl3 (nd N3 i).ks.length 0 (1099511627776,0) (by omega) rfl;have hg0:=gpart_0 r att hi x1;have hgi:=qnv r att hi 0
      have hgl:i<(gpart r att M i 0).length:=by rw[hg0,List.length_set];exact hi
      refine F_A (p:=(nd N3 i).p) (ns3:=N3.map wP) (own:=ownB att (nd N3 i)) (l:=(calcN (ownB att (nd N3 i)) N3 (nd N3 i).ks).1) (s:=(calcN (ownB att (nd N3 i)) N3 (nd N3 i).ks).2) (x:=(vals att N3 i).1) (y:=(vals att N3 i).2) hn rfl hL3 (ndP_w hi3) rfl (set4 hi3) (nd4 hi3) (set5 hi3) (a:=(nd M i).a) (b:=(nd M i).b) (ns2:=(gpart r att M i 0).map wP) (ms:=qe r (nd M i).p) ?_ ?_ ?_ ?_ hL1
      · rw[ndP_w hi,ep,←he'];rfl
      · rw[hg0,ep];exact qmL hi _ _ rfl rfl
      · rw[ndP_w hgl,hgi,ep];rfl
      · rw[ep];exact qje hv
theorem qnp {r:Rules} {att:Int} (hatt:att=0∨att=1) {B:Nat} {M:List PN} (h:Gd r att B M) (hB:B≤1099511627775) (h0:0<M.length) (hL:M.length≤900000000) (ha:(nd M 0).a≠0) (hb:(nd M 0).b≠0) :
    qah (r,(att,())) (M.map wP) 1=some ((r,(att,())),((qaf r att M.length M 0).map wP,())) :=
  qo3 hatt M.length _ _ ⟨M,0,B,h,hB,h0,by omega,hL,ha,hb,rfl,rfl⟩
end Go.Proofs.Ytcifaoaepbidoaa
namespace Go.Proofs.Ytcifaoaepbidoaa
open Go.Den
set_option linter.unusedVariables false
set_option linter.unusedSimpArgs false
set_option maxRecDepth 100000

def loopM (r:Rules) (att:Int):Nat→List PN→Nat→List PN×Nat
  | 0,M,c=>(M,c)
  | n+1,M,c=>if (nd M 0).a≠0∧(nd M 0).b≠0 then loopM r att n (qaf r att M.length M 0) (c+1) else(M,c)
structure LK (r:Rules) (p:Place) (att:Int) (M:List PN) (c:Nat):Prop where
  gd:Gd r att (1+100000*c) M
  pos:0<M.length
  len:M.length≤1+100000*c
  pl:(nd M 0).p=p
  st:(c=0∧M.length=1∧(nd M 0).e=false)∨(0<c∧(nd M 0).e=true∧(nd M 0).ks=qr 1 (qe r p).length)
theorem qht {c:Nat} (h:c≤5000):1+100000*c≤500000001:=by
  have:=Nat.mul_le_mul_left 100000 h;exact Nat.le_trans (Nat.add_le_add_left this 1) (by decide)
theorem LK.step {r:Rules} {p:Place} {att:Int} {M:List PN} {c:Nat} (h:LK r p att M c) (hc:c≤5000) (ha:(nd M 0).a≠0) (hb:(nd M 0).b≠0):LK r p att (qaf r att M.length M 0) (c+1):=by
  have hcb:=qht hc;have h1:=h.len;have hB:1+100000*c≤1099511627775:=Nat.le_trans hcb (by decide);have g:=h.gd.expand hB h.pos ha hb (f:=M.length) (Nat.le_refl _);have hlen:=qhR r att M.length M 0;have o:=qiB h.gd hB M.length 0 h.pos (Nat.le_refl _) ha hb;have hl:=o.lt _ o.last;have hml:=qaS (h.gd.val _ hl)
  have e1:1+100000*c+100000=1+100000*(c+1):=by rw[Nat.mul_succ,Nat.add_assoc]
  have ltG:∀x∈(pathM att M.length M 0).1,x<(growM r att M (pathM att M.length M 0).2).length:=fun x hx=>by rw[qc4];have:=o.lt x hx;omega
  have kp:=qeF att (pathM att M.length M 0).1 (growM r att M (pathM att M.length M 0).2) 0 ltG;have kp':(nd (qaf r att M.length M 0) 0).p=(nd (growM r att M (pathM att M.length M 0).2) 0).p∧(nd (qaf r att M.length M 0) 0).ks=(nd (growM r att M (pathM att M.length M 0).2) 0).ks∧(nd (qaf r att M.length M 0) 0).e=(nd (growM r att M (pathM att M.length M 0).2) 0).e:=kp;refine⟨e1▸g,by rw[hlen];have:=h.pos;omega,by rw[hlen,←e1];omega,?_,.inr ?_⟩
  · rw[kp'.1];by_cases c0:(pathM att M.length M 0).2=0
    · rw[c0,qjC r att h.pos];exact h.pl
    · rw[qfc r att h.pos c0];exact h.pl
  · rcases h.st with ⟨s1,s2,s3⟩ | ⟨s1,s2,s3⟩
    · have hp:(pathM att M.length M 0).2=0:=by
        rw[s2];show(if (nd M 0).e=true then _ else(([0],0):List Nat×Nat)).2=0;rw[if_neg (by rw[s3];decide)]
      rw[kp'.2.1,kp'.2.2,hp,qjC r att h.pos,s2,h.pl];exact⟨Nat.succ_pos _,rfl,rfl⟩
    · have hp:(pathM att M.length M 0).2≠0:=fun hh=>by
        have:=o.e0;rw[hh,s2] at this;cases this
      rw[kp'.2.1,kp'.2.2,qfc r att h.pos hp];exact⟨Nat.succ_pos _,s2,s3⟩
theorem LK.loop {r:Rules} {p:Place} {att:Int}:∀(n:Nat) (M:List PN) (c:Nat),LK r p att M c→c+n≤5000→LK r p att (loopM r att n M c).1 (loopM r att n M c).2∧(loopM r att n M c).2≤c+n
  | 0,M,c,h,hc=>⟨h,Nat.le_refl _⟩
  | n+1,M,c,h,hc=>by
    unfold loopM;by_cases d:(nd M 0).a≠0∧(nd M 0).b≠0
    · rw[if_pos d];have:=LK.loop n _ _ (h.step (by omega) d.1 d.2) (by omega);exact⟨this.1,by have:=this.2;omega⟩
    · rw[if_neg d];exact⟨h,by simp only;omega⟩
theorem lk_0 {r:Rules} {p:Place} (att:Int) (hv:Valid r p):LK r p att [leafN r att p] 0:=by
  have h0:∀j<([leafN r att p]:List PN).length,j=0:=fun j hj=>by simp at hj;exact hj
  have e:nd [leafN r att p] 0=leafN r att p:=rfl;refine⟨⟨fun j hj=>?_,fun j hj k hk=>?_,fun j hj=>?_,fun j hj=>?_,fun i hi j hj k h1 h2=>?_,fun j hj he=>?_,fun j hj he=>?_,⟨fun _=>1,fun j hj=>⟨Nat.le_refl _,Nat.le_refl _,fun he=>?_⟩⟩⟩,Nat.one_pos,Nat.le_refl _,rfl,.inl ⟨rfl,rfl,rfl⟩⟩
  · rw[h0 j hj];exact hv
  · rw[h0 j hj] at hk;cases hk
  · rw[h0 j hj];exact Nat.zero_le _
  · rw[h0 j hj];exact List.nodup_nil
  · rw[h0 i hi,h0 j hj]
  · rw[h0 j hj];exact⟨rfl,rfl⟩
  · rw[h0 j hj] at he;cases he
  · rw[h0 j hj] at he;cases he
theorem qnS {r:Rules} {att:Int} {ns ns':ArP} {p:Place} {a b c bd:Int} {e:Bool} (hp:ndP ns dPn 1=(p,(a,(b,(e,()))))) (h:(((a !=0)&&(b !=0))&&decide (c<bd))=true) (hx:qah (r,(att,())) ns 1=some ((r,(att,())),(ns',()))) :
    qE bd ((c,()),(ns,(flA r att,())))=some (.inl ((w64 (c+1),()),(ns',(flA r att,())))):=by
  obtain⟨r1,r2,r3,r4,r5,r6,r7,r8,r9,r10,r11,⟨⟩⟩:=r;have hb:Nat.blt 0 1=true:=rfl
  have hi:imp (a !=0) true=true:=by cases (a !=0)<;>rfl
  unfold qE;simp only[flA,List.length_nil,Nat.zero_add,hb,qg,hp,hi,h,cond_true,hx,Option.bind_some]
theorem qgu {r:Rules} {att:Int} {ns:ArP} {p:Place} {a b c bd:Int} {e:Bool} (hp:ndP ns dPn 1=(p,(a,(b,(e,()))))) (h:(((a !=0)&&(b !=0))&&decide (c<bd))=false) :
    qE bd ((c,()),(ns,(flA r att,())))=some (.inr ((c,()),(ns,(flA r att,())))):=by
  have hb:Nat.blt 0 1=true:=rfl
  have hi:imp (a !=0) true=true:=by cases (a !=0)<;>rfl
  unfold qE;simp only[List.length_nil,Nat.zero_add,hb,qg,hp,hi,h,cond_false]
theorem qng:qaY=qE:=rfl
theorem qkI {r:Rules} {p:Place} {att:Int} (hatt:att=0∨att=1) {bd:Nat} (hbd:bd≤5000):∀(n:Nat) (M:List PN) (c:Nat),LK r p att M c→c+n=bd →
    iterW (qE (bd:Int)) (((c:Int),()),(M.map wP,(flA r att,())))=some ((((loopM r att n M c).2:Int),()),((loopM r att n M c).1.map wP,(flA r att,()))):=by
  intro n
  induction n with
  | zero =>
    intro M c h hc;refine qk (qgu (ndP_w h.pos) ?_);rw[decide_eq_false (by omega),Bool.and_false]
  | succ n ih =>
    intro M c h hc;have hn:decide ((c:Int)<(bd:Int))=true:=decide_eq_true (by omega);unfold loopM;by_cases d:(nd M 0).a≠0∧(nd M 0).b≠0
    · rw[if_pos d];have hcb:=qht (c:=c) (by omega);have hB:1+100000*c≤1099511627775:=Nat.le_trans hcb (by decide);have hL:M.length≤900000000:=Nat.le_trans h.len (Nat.le_trans hcb (by decide));have hx:=qnp hatt h.gd hB h.pos hL d.1 d.2;have e:=qnS (bd:=(bd:Int)) (c:=(c:Int)) (ndP_w h.pos) (by rw[hn,bne_t d.1,bne_t d.2];rfl) hx;rw[qd (by omega) (by omega),show((c:Int)+1)=((c+1:Nat):Int) by omega] at e;rw[qs e];exact ih _ _ (h.step (by omega) d.1 d.2) (by omega)
    · rw[if_neg d];refine qk (qgu (ndP_w h.pos) ?_);by_cases a0:(nd M 0).a=0
      · rw[bne_f a0];rfl
      · have b0:(nd M 0).b=0:=Decidable.byContradiction fun hh=>d ⟨a0,hh⟩;rw[bne_f b0,Bool.and_false,Bool.false_and]
def stI (a b:Int):Int:=if a=0 then 0 else if b=0 then 1 else 2
section
variable {r : Rules} {p q : Place} {bd v x y a b c att : Int} {e : Bool} {ns : ArP}
theorem qfp (A:Pn):addP ([]:ArP) A=[(A,none)]:=rfl
theorem qk6 (A:Pn) (o:Option (List Nat)):ndP [(A,o)] dPn 1=A:=rfl
theorem qim (A B:Pn):setP [(A,none)] dPn 1 B=[(B,none)]:=rfl
theorem prove_A (hpc:qbV r p=some 0) (hbd:(decide (bd<0)||decide (bd>5000))=false) (hcp:qci p=some p) (hres:qav r p=some v) (hatt:p.2.2.1=att)
    (hxy:(x,y)=bif v==0 then((1:Int),(1:Int)) else bif v==w64 (1+att) then((0:Int),(1099511627776:Int)) else((1099511627776:Int),(0:Int)))
    (hL:iterW (qE bd) (((0:Int),()),([((p,(x,(y,(false,())))),none)],(flA r att,())))=some ((c,()),(ns,(flA r att,())))) (hp:ndP ns dPn 1=(q,(a,(b,(e,()))))) :
    qaa r p bd=some ((stI a b,(a,(b,(c,())))),((0:Int),())):=by
  obtain⟨r1,r2,r3,r4,r5,r6,r7,r8,r9,r10,r11,⟨⟩⟩:=r;obtain⟨p1,⟨p2,p3,⟨⟩⟩,⟨p4,p5,⟨⟩⟩⟩:=p;simp only at hatt;subst hatt;have hb:Nat.blt 0 1=true:=rfl;have z:((0:Int)!=0)=false:=rfl;have tail:∀A:Option ((Int×Unit)×((Int×Int×Int×Int×Unit)×Unit)),True:=fun _=>trivial;simp only[flA] at hL;unfold qaa
  cases h1:v==0 with
  | true =>
    rw[h1,cond_true] at hxy;cases hxy;simp only[hpc,Option.bind_some,z,cond_false,hbd,hcp,qfp,hres,h1,cond_true,hL,List.length_nil,Nat.zero_add,hb,qg,hp,agree_self];unfold stI;by_cases ha:a=0
    · simp only[beq_t ha,cond_true,Option.bind_some,if_pos ha]
    · by_cases hb0:b=0
      · simp only[beq_f ha,cond_false,beq_t hb0,cond_true,Option.bind_some,if_neg ha,if_pos hb0]
      · simp only[beq_f ha,cond_false,beq_f hb0,Option.bind_some,if_neg ha,if_neg hb0]
  | false =>
    cases h2:v==w64 (1+p4) with
    | true =>
      rw[h1,cond_false,h2,cond_true] at hxy;cases hxy;simp only[hpc,Option.bind_some,z,cond_false,hbd,hcp,qfp,hres,h1,h2,cond_true,qk6,qim,hL,List.length_nil,Nat.zero_add,hb,qg,hp,agree_self];unfold stI;by_cases ha:a=0
      · simp only[beq_t ha,cond_true,Option.bind_some,if_pos ha]
      · by_cases hb0:b=0
        · simp only[beq_f ha,cond_false,beq_t hb0,cond_true,Option.bind_some,if_neg ha,if_pos hb0]
        · simp only[beq_f ha,cond_false,beq_f hb0,Option.bind_some,if_neg ha,if_neg hb0]
    | false =>
      rw[h1,cond_false,h2,cond_false] at hxy;cases hxy;simp only[hpc,Option.bind_some,z,cond_false,hbd,hcp,qfp,hres,h1,h2,cond_true,qk6,qim,hL,List.length_nil,Nat.zero_add,hb,qg,hp,agree_self];unfold stI;by_cases ha:a=0
      · simp only[beq_t ha,cond_true,Option.bind_some,if_pos ha]
      · by_cases hb0:b=0
        · simp only[beq_f ha,cond_false,beq_t hb0,cond_true,Option.bind_some,if_neg ha,if_pos hb0]
        · simp only[beq_f ha,cond_false,beq_f hb0,Option.bind_some,if_neg ha,if_neg hb0]
theorem first_A {st:Option ((Mv)×Int×Unit)} {ms:List Mv} (hpc:qbV r p=some 0) (hbd:(decide (bd<0)||decide (bd>5000))=false) (hcp:qci p=some p) (hres:qav r p=some v) (hatt:p.2.2.1=att)
    (hxy:(x,y)=bif v==0 then((1:Int),(1:Int)) else bif v==w64 (1+att) then((0:Int),(1099511627776:Int)) else((1099511627776:Int),(0:Int)))
    (hL:iterW (qaY bd) (((0:Int),()),([((p,(x,(y,(false,())))),none)],(flA r att,())))=some ((c,()),(ns,(flA r att,())))) (hp:ndP ns dPn 1=(q,(a,(b,(e,()))))) (hm:qbo r p=some ms)
    {res:(Mv)×Int×Unit} (hno:a≠0→res=(((0:Int),((0:Int),((0:Int),()))),((8:Int),())))
    (hyes:a=0→iterW (qw ms ((1,((0:Int),())),(ns,()))) (((0:Int),()),(((0:Int),((0:Int),((0:Int),()))),()))=some (.inl ((),(((0:Int),((0:Int),((0:Int),()))),())))∧res=(((0:Int),((0:Int),((0:Int),()))),((8:Int),())) ∨
      iterW (qw ms ((1,((0:Int),())),(ns,()))) (((0:Int),()),(((0:Int),((0:Int),((0:Int),()))),()))=some (.inr (.inr res))) :
    qI r p bd=some res:=by
  obtain⟨r1,r2,r3,r4,r5,r6,r7,r8,r9,r10,r11,⟨⟩⟩:=r;obtain⟨p1,⟨p2,p3,⟨⟩⟩,⟨p4,p5,⟨⟩⟩⟩:=p;simp only at hatt;subst hatt;have hb:Nat.blt 0 1=true:=rfl;have z:((0:Int)!=0)=false:=rfl;simp only[flA] at hL;unfold qI
  cases h1:v==0 with
  | true =>
    rw[h1,cond_true] at hxy;cases hxy;simp only[hpc,Option.bind_some,z,cond_false,hbd,hcp,qfp,hres,h1,cond_true,hL,List.length_nil,Nat.zero_add,hb,qg,hp];by_cases ha:a=0
    · rcases hyes ha with ⟨h4,h5⟩ | h4
      · simp only[beq_t ha,cond_true,Option.bind_some,hm,h4,Sum.elim_inl,h5]
      · simp only[beq_t ha,cond_true,Option.bind_some,hm,h4,Sum.elim_inr]
    · rw[hno ha];simp only[beq_f ha,cond_false]
      cases b==0<;>rfl
  | false =>
    cases h2:v==w64 (1+p4) with
    | true =>
      rw[h1,cond_false,h2,cond_true] at hxy;cases hxy;simp only[hpc,Option.bind_some,z,cond_false,hbd,hcp,qfp,hres,h1,h2,cond_true,qk6,qim,hL,List.length_nil,Nat.zero_add,hb,qg,hp];by_cases ha:a=0
      · rcases hyes ha with ⟨h4,h5⟩ | h4
        · simp only[beq_t ha,cond_true,Option.bind_some,hm,h4,Sum.elim_inl,h5]
        · simp only[beq_t ha,cond_true,Option.bind_some,hm,h4,Sum.elim_inr]
      · rw[hno ha];simp only[beq_f ha,cond_false]
        cases b==0<;>rfl
    | false =>
      rw[h1,cond_false,h2,cond_false] at hxy;cases hxy;simp only[hpc,Option.bind_some,z,cond_false,hbd,hcp,qfp,hres,h1,h2,cond_true,qk6,qim,hL,List.length_nil,Nat.zero_add,hb,qg,hp];by_cases ha:a=0
      · rcases hyes ha with ⟨h4,h5⟩ | h4
        · simp only[beq_t ha,cond_true,Option.bind_some,hm,h4,Sum.elim_inl,h5]
        · simp only[beq_t ha,cond_true,Option.bind_some,hm,h4,Sum.elim_inr]
      · rw[hno ha];simp only[beq_f ha,cond_false]
        cases b==0<;>rfl
end
end Go.Proofs.Ytcifaoaepbidoaa
namespace Go.Proofs.Ytcifaoaepbidoaa
open Go.Den
set_option linter.unusedVariables false
set_option linter.unusedSimpArgs false
set_option linter.unusedSectionVars false
set_option maxRecDepth 100000

abbrev Sn:=(Place×Int×Unit)×List Int×Bool×Unit
abbrev dSn:Sn:=((([],(([],([],())),((0:Int),((0:Int),())))),((0:Int),())),([],(false,())))
abbrev Xn:=Rules×Int×List Sn×Int×Unit
def wR (r:Rules) (n:PN):Sn:=((n.p,(qn r n.p,())),(n.ks.map (fun k:Nat=>(k:Int)),(n.e,())))
theorem getR {r:Rules} {M:List PN} {i:Nat} (h:i<M.length):getD' (M.map (wR r)) i dSn=wR r (nd M i):=by
  unfold getD';rw[List.getD_eq_getElem?_getD,List.getElem?_map,qlY h];rfl
theorem atR {r:Rules} {M:List PN} {i:Nat} (h:i<M.length):at? (M.map (wR r)) (i:Int)=some (wR r (nd M i)):=by
  have:=List.getElem?_map (f:=wR r) (l:=M) (i:=i);rw[qlY h] at this;unfold at?;rw[show decide (0≤(i:Int))=true from decide_eq_true (by omega),cond_true,Int.toNat_natCast];exact this
theorem atK {ks:List Nat} {j:Nat} (h:j<ks.length):at? (ks.map (fun k:Nat=>(k:Int))) (j:Int)=some ((ks[j]:Nat):Int):=by
  unfold at?;rw[show decide (0≤(j:Int))=true from decide_eq_true (by omega),cond_true,Int.toNat_natCast,List.getElem?_map,List.getElem?_eq_getElem h];rfl
section
variable {r : Rules} {att : Int} {xs : List Sn} {many : Int} {p : Place} {v l s j c a b : Int} {kk : List Int} {e own : Bool} {self : (Xn × Int × Unit) → Option (Int × Int × Unit)}
theorem num_step (ho:(p.2.2.1==att)=own) (hj:decide (j<((kk.length:Nat):Int))=true) (hat:at? kk j=some c) (hs:self ((r,(att,(xs,(many,())))),c,())=some (a,(b,()))) :
    qv ((p,(v,())),(kk,(e,()))) self (r,(att,(xs,(many,())))) ((l,(s,(j,()))),())=some (.inl ((if (if own then a else b)<l then(if own then a else b) else l,(if 1099511627776<w64 (s+(if own then b else a)) then 1099511627776 else w64 (s+(if own then b else a)),(w64 (j+1),()))),())):=by
  have hne:(p.2.2.1 !=att) = !own:=by rw[bne,ho]
  unfold qv
  cases own with
  | true =>
    simp only[hj,cond_true,hat,Option.bind_some,hs,hne,Bool.not_true,cond_false,if_true];by_cases h1:a<l
    · by_cases h2:w64 (s+b)>1099511627776
      · simp only[decide_eq_true h1,decide_eq_true h2,cond_true,Option.bind_some,if_pos h1,if_pos (show(1099511627776:Int)<w64 (s+b) from h2)]
      · simp only[decide_eq_true h1,decide_eq_false h2,cond_true,cond_false,Option.bind_some,if_pos h1,if_neg (show ¬(1099511627776:Int)<w64 (s+b) from h2)]
    · by_cases h2:w64 (s+b)>1099511627776
      · simp only[decide_eq_false h1,decide_eq_true h2,cond_true,cond_false,Option.bind_some,if_neg h1,if_pos (show(1099511627776:Int)<w64 (s+b) from h2)]
      · simp only[decide_eq_false h1,decide_eq_false h2,cond_false,Option.bind_some,if_neg h1,if_neg (show ¬(1099511627776:Int)<w64 (s+b) from h2)]
  | false =>
    simp only[hj,cond_true,hat,Option.bind_some,hs,hne,Bool.not_false,Bool.false_eq_true,if_false];by_cases h1:b<l
    · by_cases h2:w64 (s+a)>1099511627776
      · simp only[decide_eq_true h1,decide_eq_true h2,cond_true,Option.bind_some,if_pos h1,if_pos (show(1099511627776:Int)<w64 (s+a) from h2)]
      · simp only[decide_eq_true h1,decide_eq_false h2,cond_true,cond_false,Option.bind_some,if_pos h1,if_neg (show ¬(1099511627776:Int)<w64 (s+a) from h2)]
    · by_cases h2:w64 (s+a)>1099511627776
      · simp only[decide_eq_false h1,decide_eq_true h2,cond_true,cond_false,Option.bind_some,if_neg h1,if_pos (show(1099511627776:Int)<w64 (s+a) from h2)]
      · simp only[decide_eq_false h1,decide_eq_false h2,cond_false,Option.bind_some,if_neg h1,if_neg (show ¬(1099511627776:Int)<w64 (s+a) from h2)]
theorem num_A {k:Int} (hat:at? xs k=some ((p,(v,())),(kk,(true,())))) (hv:(v==0)=true) (ho:(p.2.2.1==att)=own) (hL:iterW (qv ((p,(v,())),(kk,(true,()))) self (r,(att,(xs,(many,()))))) (((1099511627776:Int),((0:Int),((0:Int),()))),())=some ((l,(s,())),())) :
    qL self (r,(att,(xs,(many,())))) k=some ((swp own (l,s)).1,((swp own (l,s)).2,())):=by
  have hne:(p.2.2.1 !=att) = !own:=by rw[bne,ho]
  unfold qL;simp only[hat,Option.bind_some,hv,cond_true,Bool.not_true,cond_false,hL,hne]
  cases own<;>rfl
theorem num_B {k:Int} (hat:at? xs k=some ((p,(v,())),(kk,(false,())))) (hab:(a,b)=bif v==0 then((1:Int),(1:Int)) else bif v==w64 (1+att) then((0:Int),(1099511627776:Int)) else((1099511627776:Int),(0:Int))) :
    qL self (r,(att,(xs,(many,())))) k=some (a,(b,())):=by
  unfold qL
  cases h1:v==0 with
  | true =>
    rw[h1,cond_true] at hab;cases hab;simp only[hat,Option.bind_some,h1,cond_true,Bool.not_false]
  | false =>
    cases h2:v==w64 (1+att) with
    | true =>
      rw[h1,cond_false,h2,cond_true] at hab;cases hab;simp only[hat,Option.bind_some,h1,h2,cond_true,cond_false]
    | false =>
      rw[h1,cond_false,h2,cond_false] at hab;cases hab;simp only[hat,Option.bind_some,h1,h2,cond_false]
end
theorem qjH {r:Rules} {att:Int} (hatt:att=0∨att=1) (q:Place):((leafV r att q).1,(leafV r att q).2)=bif qn r q==0 then((1:Int),(1:Int)) else bif qn r q==w64 (1+att) then((0:Int),(1099511627776:Int)) else((1099511627776:Int),(0:Int)):=by
  have hwa:w64 (1+att)=1+att:=qd (by omega) (by omega);unfold leafV;by_cases c:qn r q=0
  · rw[if_pos c,beq_t c,cond_true]
  · rw[if_neg c,beq_f c,cond_false,hwa];by_cases c2:qn r q=1+att
    · rw[if_pos c2,beq_t c2,cond_true]
    · rw[if_neg c2,beq_f c2,cond_false]
theorem num_loop {r:Rules} {att:Int} {M:List PN} (hM:Bd M) {i:Nat} (hi:i<M.length) (hk:∀k∈(nd M i).ks,k<M.length) (hl:(nd M i).ks.length≤100000) {xs:List Sn} {many v:Int} {e:Bool} {self:(Xn×Int×Unit)→Option (Int×Int×Unit)}
    (hs:∀k∈(nd M i).ks,self ((r,(att,(xs,(many,())))),((k:Nat):Int),())=some ((nd M k).a,((nd M k).b,()))):∀(f j:Nat) (x:Int×Int),j+f=(nd M i).ks.length→x=((nd M i).ks.take j).foldl (fun x k=>stp (ownB att (nd M i)) x (nd M k)) (1099511627776,0) →
    iterW (qv (((nd M i).p,(v,())),((nd M i).ks.map (fun k:Nat=>(k:Int)),(e,()))) self (r,(att,(xs,(many,()))))) ((x.1,(x.2,((j:Int),()))),())=some (((calcN (ownB att (nd M i)) M (nd M i).ks).1,((calcN (ownB att (nd M i)) M (nd M i).ks).2,())),()):=by
  intro f;have hkl:((nd M i).ks.map (fun k:Nat=>(k:Int))).length=(nd M i).ks.length:=List.length_map _
  induction f with
  | zero =>
    intro j x hj hx
    obtain rfl:j=(nd M i).ks.length:=by omega
    refine qk ?_;rw[List.take_length] at hx;have hd:decide ((((nd M i).ks.length:Nat):Int)<((((nd M i).ks.map (fun k:Nat=>(k:Int))).length:Nat):Int))=false:=decide_eq_false (by rw[hkl];omega);unfold qv;simp only[hd,cond_false];rw[hx];rfl
  | succ f ih =>
    intro j x hj hx
    have hj':j<(nd M i).ks.length:=by omega
    have hmem:(nd M i).ks[j]∈(nd M i).ks:=List.getElem_mem hj';have hc:(nd M i).ks[j]<M.length:=hk _ hmem;have hxb:BdP x:=by
      rw[hx];exact qlv hM _ _ (fun k hk2=>hk k (List.mem_of_mem_take hk2)) ⟨by omega,by omega,by omega,by omega⟩
    have hb:=hM _ hc;have e:=num_step (r:=r) (att:=att) (xs:=xs) (many:=many) (v:=v) (e:=e) (l:=x.1) (s:=x.2) (self:=self) (p:=(nd M i).p) rfl (by rw[hkl];exact qdA _ _ hj') (atK hj') (hs _ hmem);have hw:∀y:Int,0≤y→y≤1099511627776→w64 (x.2+y)=x.2+y:=fun y h1 h2=>by
      obtain⟨_,_,b3,b4⟩:=hxb;exact qd (by omega) (by omega)
    have hy:0≤(if ((nd M i).p.2.2.1==att)=true then(nd M (nd M i).ks[j]).b else(nd M (nd M i).ks[j]).a)∧(if ((nd M i).p.2.2.1==att)=true then(nd M (nd M i).ks[j]).b else(nd M (nd M i).ks[j]).a)≤1099511627776:=by
      split<;>omega
    have e3:=hw _ hy.1 hy.2;rw[qd (n:=(j:Int)+1) (by omega) (by omega)] at e
    have:=ih (j+1) (stp (ownB att (nd M i)) x (nd M (nd M i).ks[j])) (by omega) (by
      rw[List.take_succ_eq_append_getElem hj',List.foldl_append,←hx]
      rfl)
    rw[show(((j+1:Nat)):Int)=(j:Int)+1 by omega] at this;refine(qs e).trans ?_;rw[e3];exact this
def Rnu (r:Rules) (att many:Int) (f:Nat) (x:Xn×Int×Unit) (y:Int×Int×Unit):Prop :=
  ∃(M:List PN) (j B:Nat),Gd r att B M∧B≤1099511627775∧j<M.length∧M.length≤f+j∧x=((r,(att,(M.map (wR r),(many,())))),(j:Int),())∧y=((nd M j).a,((nd M j).b,()))
theorem qm1 {r:Rules} {att many:Int} (hatt:att=0∨att=1):∀f x y,Rnu r att many f x y→fixW qK x=some y:=by
  refine qoM qeA (Rnu r att many) fun f φ x y hR hφ=>?_;obtain⟨M,j,B,h,hB,hj,hf,rfl,rfl⟩:=hR;show qL φ (r,(att,(M.map (wR r),(many,())))) (j:Int)=_;have hat:=atR (r:=r) hj
  cases he:(nd M j).e with
  | false =>
    have e:=(h.e0 j hj he).2
    have hat':at? (M.map (wR r)) (j:Int)=some (((nd M j).p,(qn r (nd M j).p,())),((nd M j).ks.map (fun k:Nat=>(k:Int)),(false,()))):=by rw[hat,←he];rfl
    refine num_B hat' ?_;rw[e];exact qjH hatt _
  | true =>
    obtain⟨x1,x2,x3⟩:=h.e1 j hj he
    have hat':at? (M.map (wR r)) (j:Int)=some (((nd M j).p,(qn r (nd M j).p,())),((nd M j).ks.map (fun k:Nat=>(k:Int)),(true,()))):=by rw[hat,←he];rfl
    have hL:=num_loop (r:=r) (att:=att) (xs:=M.map (wR r)) (many:=many) (v:=qn r (nd M j).p) (e:=true) (self:=φ) (h.bd hB) hj (fun k hk=>(h.kid j hj k hk).2) (h.kl j hj) (fun k hk=>by
      obtain⟨k1,k2⟩:=h.kid j hj k hk
      exact hφ (M.length-k) _ _ (by omega) ⟨M,k,B,h,hB,k2,by omega,rfl,rfl⟩) (nd M j).ks.length 0 (1099511627776,0) (by omega) rfl
    have:=num_A (r:=r) (att:=att) (many:=many) (self:=φ) hat' (beq_t x2) rfl hL;rw[this];have ea:(nd M j).a=(vals att M j).1:=congrArg Prod.fst x3;have eb:(nd M j).b=(vals att M j).2:=congrArg Prod.snd x3;rw[ea,eb];rfl
theorem qco {r:Rules} {att:Int} (many:Int) (hatt:att=0∨att=1) {B:Nat} {M:List PN} (h:Gd r att B M) (hB:B≤1099511627775) {j:Nat} (hj:j<M.length):qx (r,(att,(M.map (wR r),(many,())))) (j:Int)=some ((nd M j).a,((nd M j).b,())) :=
  qm1 hatt (M.length-j) _ _ ⟨M,j,B,h,hB,hj,by omega,rfl,rfl⟩
section
variable {r : Rules} {att : Int} {xs : List Sn} {many k : Int} {p : Place} {v : Int} {kk : List Int} {e own : Bool}
  (hn0:getD' xs k.toNat dSn=((p,(v,())),(kk,(e,())))) (hin:inb k xs.length=true)
include hn0 hin
theorem way_step {nx l j c a b:Int} (ho:(p.2.2.1==att)=own) (hj:decide (j<((kk.length:Nat):Int))=true) (hat:at? kk j=some c) (hs:qx (r,(att,(xs,(many,())))) c=some (a,(b,()))) :
    qW (r,(att,((xs,()),(many,())))) ((k,()),()) ((nx,(l,(j,()))),())=some (.inl ((if (decide (nx<0)||decide ((if own then a else b)<l))=true then c else nx,(if (decide (nx<0)||decide ((if own then a else b)<l))=true then(if own then a else b) else l,(w64 (j+1),()))),())):=by
  have hne:(p.2.2.1 !=att) = !own:=by rw[bne,ho]
  unfold qW
  cases own with
  | true =>
    simp only[hn0,hj,cond_true,hat,Option.bind_some,hs,hin,qg,hne,Bool.not_true,cond_false,if_true]
    cases (decide (nx<0)||decide (a<l))<;>rfl
  | false =>
    simp only[hn0,hj,cond_true,hat,Option.bind_some,hs,hin,qg,hne,Bool.not_false,Bool.false_eq_true,if_false]
    cases (decide (nx<0)||decide (b<l))<;>rfl
theorem way_go {c l:Int} (he:e=true) (hL2:iterW (qW (r,(att,((xs,()),(many,())))) ((k,()),())) (((-1:Int),((0:Int),((0:Int),()))),())=some ((c,()),())) :
    qN (r,(att,((xs,()),(many,())))) ((k,()),())=some (.inl ((c,()),())):=by
  subst he;unfold qN;simp only[hn0,hin,qg,cond_true,hL2,Option.bind_some]
theorem way_stop (he:e=false):qN (r,(att,((xs,()),(many,())))) ((k,()),())=some (.inr ((k,()),())):=by
  subst he;unfold qN;simp only[hn0,hin,qg,cond_false]
end
def nxS (f:Nat→Int) (b:Nat) (ks:List Nat):Nat→Int×Int
  | 0=>(-1,0)
  | j+1=>(((bestF f b (ks.take (j+1)):Nat):Int),f (bestF f b (ks.take (j+1))))
theorem headD_get:∀(l:List Nat) (h:0<l.length),l.headD 0=l[0]
  | a::l,_=>rfl
theorem way_loop {r:Rules} {att:Int} (many:Int) (hatt:att=0∨att=1) {B:Nat} {M:List PN} (h:Gd r att B M) (hB:B≤1099511627775) {i:Nat} (hi:i<M.length) (hne:(nd M i).ks≠[]):∀(f j:Nat),j+f=(nd M i).ks.length →
    iterW (qW (r,(att,((M.map (wR r),()),(many,())))) (((i:Int),()),())) (((nxS (numK att M i) ((nd M i).ks.headD 0) (nd M i).ks j).1,((nxS (numK att M i) ((nd M i).ks.headD 0) (nd M i).ks j).2,((j:Int),()))),())=some ((((qT att M i:Nat):Int),()),()):=by
  have hpos:0<(nd M i).ks.length:=List.length_pos_iff.2 hne;have hl:=h.kl i hi
  have hn0:getD' (M.map (wR r)) (i:Int).toNat dSn=(((nd M i).p,(qn r (nd M i).p,())),((nd M i).ks.map (fun k:Nat=>(k:Int)),((nd M i).e,()))):=by rw[Int.toNat_natCast];exact getR hi
  have hin:inb (i:Int) (M.map (wR r)).length=true:=qa1 _ i (by rw[List.length_map];exact hi);have hkl:((nd M i).ks.map (fun k:Nat=>(k:Int))).length=(nd M i).ks.length:=List.length_map _;intro f
  induction f with
  | zero =>
    intro j hj
    obtain rfl:j=(nd M i).ks.length:=by omega
    refine qk ?_;have hd:decide ((((nd M i).ks.length:Nat):Int)<((((nd M i).ks.map (fun k:Nat=>(k:Int))).length:Nat):Int))=false:=decide_eq_false (by rw[hkl];omega);unfold qW;simp only[hn0,hd,cond_false];obtain⟨m,hm⟩:∃m,(nd M i).ks.length=m+1:=⟨(nd M i).ks.length-1,by omega⟩;have:(nxS (numK att M i) ((nd M i).ks.headD 0) (nd M i).ks (nd M i).ks.length).1=((qT att M i:Nat):Int):=by
      rw[hm];show((bestF (numK att M i) ((nd M i).ks.headD 0) ((nd M i).ks.take (m+1)):Nat):Int)=_;rw[←hm,List.take_length];rfl
    rw[this]
  | succ f ih =>
    intro j hj
    have hj':j<(nd M i).ks.length:=by omega
    have hmem:(nd M i).ks[j]∈(nd M i).ks:=List.getElem_mem hj';obtain⟨_,hc⟩:=h.kid i hi _ hmem;have e:=way_step (r:=r) (att:=att) (many:=many) hn0 hin (nx:=(nxS (numK att M i) ((nd M i).ks.headD 0) (nd M i).ks j).1) (l:=(nxS (numK att M i) ((nd M i).ks.headD 0) (nd M i).ks j).2) rfl (by rw[hkl];exact qdA _ _ hj') (atK hj') (qco many hatt h hB hc);have en:(if ((nd M i).p.2.2.1==att)=true then(nd M (nd M i).ks[j]).a else(nd M (nd M i).ks[j]).b)=numK att M i (nd M i).ks[j]:=rfl;rw[en,qd (by omega) (by omega)] at e
    have e2:((if (decide ((nxS (numK att M i) ((nd M i).ks.headD 0) (nd M i).ks j).1<0)||decide (numK att M i (nd M i).ks[j]<(nxS (numK att M i) ((nd M i).ks.headD 0) (nd M i).ks j).2))=true then(((nd M i).ks[j]:Nat):Int) else(nxS (numK att M i) ((nd M i).ks.headD 0) (nd M i).ks j).1),
        (if (decide ((nxS (numK att M i) ((nd M i).ks.headD 0) (nd M i).ks j).1<0)||decide (numK att M i (nd M i).ks[j]<(nxS (numK att M i) ((nd M i).ks.headD 0) (nd M i).ks j).2))=true then numK att M i (nd M i).ks[j] else(nxS (numK att M i) ((nd M i).ks.headD 0) (nd M i).ks j).2))=nxS (numK att M i) ((nd M i).ks.headD 0) (nd M i).ks (j+1):=by
      show _=((((bestF (numK att M i) ((nd M i).ks.headD 0) ((nd M i).ks.take (j+1)):Nat):Int),numK att M i (bestF (numK att M i) ((nd M i).ks.headD 0) ((nd M i).ks.take (j+1)))):Int×Int)
      cases j with
      | zero =>
        have e0:bestF (numK att M i) ((nd M i).ks.headD 0) ((nd M i).ks.take (0+1))=(nd M i).ks[0]:=by
          rw[qhE _ _ _ hj'];have:(nd M i).ks.headD 0=(nd M i).ks[0]:=headD_get _ hj';show(if numK att M i (nd M i).ks[0]<numK att M i ((nd M i).ks.headD 0) then(nd M i).ks[0] else(nd M i).ks.headD 0)=_;rw[this,if_neg (by omega)]
        rw[e0];rfl
      | succ m =>
        rw[qhE _ _ _ hj'];show((if (decide ((((bestF (numK att M i) ((nd M i).ks.headD 0) ((nd M i).ks.take (m+1)):Nat)):Int)<0)||decide (numK att M i (nd M i).ks[m+1]<numK att M i (bestF (numK att M i) ((nd M i).ks.headD 0) ((nd M i).ks.take (m+1)))))=true then _ else _),(if (decide ((((bestF (numK att M i) ((nd M i).ks.headD 0) ((nd M i).ks.take (m+1)):Nat)):Int)<0)||decide (numK att M i (nd M i).ks[m+1]<numK att M i (bestF (numK att M i) ((nd M i).ks.headD 0) ((nd M i).ks.take (m+1)))))=true then _ else _))=_;rw[show decide ((((bestF (numK att M i) ((nd M i).ks.headD 0) ((nd M i).ks.take (m+1)):Nat)):Int)<0)=false from decide_eq_false (by omega),Bool.false_or];by_cases c:numK att M i (nd M i).ks[m+1]<numK att M i (bestF (numK att M i) ((nd M i).ks.headD 0) ((nd M i).ks.take (m+1)))
        · rw[if_pos c,if_pos (decide_eq_true c),if_pos (decide_eq_true c)]
        · rw[if_neg c,if_neg (by rw[decide_eq_false c];decide),if_neg (by rw[decide_eq_false c];decide)];rfl
    have e3:=congrArg Prod.fst e2;have e4:=congrArg Prod.snd e2;simp only at e3 e4;rw[e3,e4] at e;rw[qs e];have:=ih (j+1) (by omega);rw[show(((j+1:Nat)):Int)=(j:Int)+1 by omega] at this;exact this
theorem qmA {r:Rules} {att:Int} (many:Int) (hatt:att=0∨att=1) {B:Nat} {M:List PN} (h:Gd r att B M) (hB:B≤1099511627775):∀(f i:Nat),i<M.length→M.length≤f+i→(nd M i).a≠0→(nd M i).b≠0 →
    iterW (qN (r,(att,((M.map (wR r),()),(many,()))))) (((i:Int),()),())=some (((((pathM att f M i).2:Nat):Int),()),())
  | 0,i,hi,hf,_,_=>by omega
  | f+1,i,hi,hf,ha,hb=>by
    have hn0:getD' (M.map (wR r)) (i:Int).toNat dSn=(((nd M i).p,(qn r (nd M i).p,())),((nd M i).ks.map (fun k:Nat=>(k:Int)),((nd M i).e,()))):=by rw[Int.toNat_natCast];exact getR hi
    have hin:inb (i:Int) (M.map (wR r)).length=true:=qa1 _ i (by rw[List.length_map];exact hi);unfold pathM;by_cases he:(nd M i).e=true
    · rw[if_pos he];obtain⟨n1,n2,n3⟩:=h.next hB hi he ha hb;obtain⟨k1,k2⟩:=h.kid i hi _ n1;have hL2:=way_loop many hatt h hB hi (h.e1 i hi he).1 (nd M i).ks.length 0 (by omega);have e:=way_go (r:=r) (att:=att) (many:=many) (l:=0) hn0 hin he hL2;rw[qs e];exact qmA many hatt h hB f _ k2 (by omega) n2 n3
    · rw[if_neg he]
      have he':(nd M i).e=false:=by simpa using he
      exact qk (way_stop hn0 hin he')
end Go.Proofs.Ytcifaoaepbidoaa
namespace Go.Proofs.Ytcifaoaepbidoaa
open Go.Den
set_option linter.unusedVariables false
set_option linter.unusedSimpArgs false
set_option linter.unusedSectionVars false
set_option maxRecDepth 100000

def flAh (r:Rules) (att:Int) (xs:List Sn) (hk:Nat) (y:Option (List Int)) (many:Int):=(r.1,(r.2.1,(r.2.2.1,(r.2.2.2.1,(r.2.2.2.2.1,(r.2.2.2.2.2.1,(r.2.2.2.2.2.2.1,(r.2.2.2.2.2.2.2.1,(r.2.2.2.2.2.2.2.2.1,(r.2.2.2.2.2.2.2.2.2.1,(r.2.2.2.2.2.2.2.2.2.2.1,(att,((xs,(hk,y)),(many,()))))))))))))))
def flAx (r:Rules) (att:Int) (xs:List Sn) (many:Int):=(r.1,(r.2.1,(r.2.2.1,(r.2.2.2.1,(r.2.2.2.2.1,(r.2.2.2.2.2.1,(r.2.2.2.2.2.2.1,(r.2.2.2.2.2.2.2.1,(r.2.2.2.2.2.2.2.2.1,(r.2.2.2.2.2.2.2.2.2.1,(r.2.2.2.2.2.2.2.2.2.2.1,(att,((xs,()),(many,()))))))))))))))
def newS (q:Place) (v:Int):Sn:=((q,(v,())),([],(false,())))
theorem L3_stepR {r:Rules} {att many:Int} {xs0 xs:List Sn} {hk:Nat} {y:Option (List Int)} {j l v w:Int} {ms:List Mv} {p q:Place} {kk:List Int} {f:Bool} (hj:decide (j<((ms.length:Nat):Int))=true) (hin:inb j ms.length=true)
    (hlin:inb l xs.length=true) (hb:Nat.beq l.toNat hk=true) (hroom:room ((y.getD []).length+[((xs.length:Nat):Int)].length) 8=true)
    (hp:getD' xs0 l.toNat dSn=((p,(v,())),(kk,(f,())))) (ha:qdT r p (getD' ms j.toNat ((0:Int),((0:Int),((0:Int),()))))=some q) (hw:qcK r q=some w) (hroom2:room (xs.length+[newS q w].length) 128=true) :
    qO ms ((l,()),()) (r,(att,((xs0,()),(many,())))) ((j,()),(flAh r att xs hk y many,()))=some (.inl ((w64 (j+1),()),(flAh r att (xs++[newS q w]) hk (some (y.getD []++[((xs.length:Nat):Int)])) many,()))):=by
  obtain⟨r1,r2,r3,r4,r5,r6,r7,r8,r9,r10,r11,⟨⟩⟩:=r;obtain⟨p1,⟨p2,p3,⟨⟩⟩,⟨p4,p5,⟨⟩⟩⟩:=p;obtain⟨q1,⟨q2,q3,⟨⟩⟩,⟨q4,q5,⟨⟩⟩⟩:=q;unfold qO;simp only[newS] at hroom2 ⊢;simp only[flAh,hj,cond_true,hin,qg,hlin,hb,hroom,hp,ha,hw,agree_self,Option.bind_some,hroom2]
theorem L3_endR {r:Rules} {att many:Int} {xs0 xs:List Sn} {hk:Nat} {y:Option (List Int)} {j l:Int} {ms:List Mv} (hj:decide (j<((ms.length:Nat):Int))=false) :
    qO ms ((l,()),()) (r,(att,((xs0,()),(many,())))) ((j,()),(flAh r att xs hk y many,()))=some (.inr ((),(flAh r att xs hk y many,()))):=by
  obtain⟨r1,r2,r3,r4,r5,r6,r7,r8,r9,r10,r11,⟨⟩⟩:=r;unfold qO;simp only[flAh,hj,cond_false]
def yk (L j:Nat):Option (List Int):=if j=0 then none else some ((qr L j).map (fun n:Nat=>(n:Int)))
theorem qnL (L j:Nat):(yk L j).getD []=(qr L j).map (fun n:Nat=>(n:Int)):=by
  unfold yk;split
  · rename_i h;subst h;rfl
  · rfl
def lvs (r:Rules) (att:Int) (p:Place) (ms:List Mv):List PN:=ms.map fun m=>leafN r att (qat r p m)
theorem L3_loopR {r:Rules} {att many:Int} {M:List PN} {i:Nat} (hi:i<M.length) (hv:Valid r (nd M i).p) (h0:qn r (nd M i).p=0) (hL:M.length≤900000000):∀(m j:Nat),j+m=(qe r (nd M i).p).length →
    iterW (qO (qe r (nd M i).p) (((i:Int),()),()) (r,(att,((M.map (wR r),()),(many,()))))) (((j:Int),()),(flAh r att ((M++lvs r att (nd M i).p ((qe r (nd M i).p).take j)).map (wR r)) i (yk M.length j) many,())) =
      some ((),(flAh r att ((M++lvs r att (nd M i).p (qe r (nd M i).p)).map (wR r)) i (yk M.length (qe r (nd M i).p).length) many,())):=by
  intro m;have hml:=qaS hv
  induction m with
  | zero =>
    intro j hj
    obtain rfl:j=(qe r (nd M i).p).length:=by omega
    rw[List.take_length];exact qk (L3_endR (qnF _))
  | succ m ih =>
    intro j hj
    have hj':j<(qe r (nd M i).p).length:=by omega
    have hma:=qjg hv (open_0 h0).symm hj'
    have hlen:(M++lvs r att (nd M i).p ((qe r (nd M i).p).take j)).length=M.length+j:=by simp[lvs,Nat.min_eq_left (Nat.le_of_lt hj')]
    have hp0:getD' (M.map (wR r)) (i:Int).toNat dSn=(((nd M i).p,(qn r (nd M i).p,())),((nd M i).ks.map (fun k:Nat=>(k:Int)),((nd M i).e,()))):=by rw[Int.toNat_natCast];exact getR hi
    have e:=L3_stepR (r:=r) (att:=att) (many:=many) (xs0:=M.map (wR r)) (xs:=(M++lvs r att (nd M i).p ((qe r (nd M i).p).take j)).map (wR r)) (hk:=i) (y:=yk M.length j) (l:=(i:Int)) (qdA _ _ hj') (qa1 _ _ hj')
      (by rw[List.length_map];exact qa1 _ i (by omega)) (by rw[Int.toNat_natCast];exact Nat.beq_refl _) (by rw[qnL];refine qb2 ?_;simp[qaR];omega) hp0 (by rw[qg0 _ _ hj'];exact qkS hv hma.1) (qfO hma.2) (by
        refine qb2 ?_;rw[List.length_map,hlen];simp;omega)
    have hw:w64 ((j:Int)+1)=((j+1:Nat):Int):=by rw[qd (by omega) (by omega)];omega
    have e1:(M++lvs r att (nd M i).p ((qe r (nd M i).p).take j)).map (wR r)++[newS (qat r (nd M i).p (qe r (nd M i).p)[j]) (qn r (qat r (nd M i).p (qe r (nd M i).p)[j]))]=(M++lvs r att (nd M i).p ((qe r (nd M i).p).take (j+1))).map (wR r):=by
      unfold lvs;rw[List.take_succ_eq_append_getElem hj',List.map_append,List.map_append,List.map_append,List.map_append,List.append_assoc];rfl
    have e2:some ((yk M.length j).getD []++[((((M++lvs r att (nd M i).p ((qe r (nd M i).p).take j)).map (wR r)).length:Nat):Int)])=yk M.length (j+1):=by
      rw[qnL,List.length_map,hlen];unfold yk;rw[if_neg (by omega),qeu,List.map_append];rfl
    rw[hw,e1,e2] at e;rw[qs e];exact ih (j+1) (by omega)
theorem exp_A {r:Rules} {att many:Int} {xs xs3 xs4 xs5:List Sn} {l v v':Int} {p p':Place} {kk kk':List Int} {f f':Bool} {ms:List Mv} {hk:Nat} {y:Option (List Int)} (hL1:iterW (qN (r,(att,((xs,()),(many,()))))) (((0:Int),()),())=some ((l,()),()))
    (hlin:inb l xs.length=true) (hp:getD' xs l.toNat dSn=((p,(v,())),(kk,(f,())))) (hm:qcP r p=some ms) (hgd:(decide (0≤l)&&(Nat.blt l.toNat xs.length&&kk.isEmpty))=true)
    (hL3:iterW (qO ms ((l,()),()) (r,(att,((xs,()),(many,()))))) (((0:Int),()),(flAh r att xs l.toNat none many,()))=some ((),(flAh r att xs3 hk y many,())))
    (hel:Option.elim y true (fun ks=>!List.isEmpty ks)=true) (h4:xs3.set hk ((getD' xs3 hk dSn).1,(y.getD [],(getD' xs3 hk dSn).2.2))=xs4) (hlin4:inb l xs4.length=true) (hp4:getD' xs4 l.toNat dSn=((p',(v',())),(kk',(f',()))))
    (h5:xs4.set l.toNat ((p',(v',())),(kk',(true,())))=xs5):qau (r,(att,((xs,()),(many,()))))=some ((r,(att,((xs5,()),(w64 (many+1),())))),()):=by
  obtain⟨r1,r2,r3,r4,r5,r6,r7,r8,r9,r10,r11,⟨⟩⟩:=r;obtain⟨p1,⟨p2,p3,⟨⟩⟩,⟨p4,p5,⟨⟩⟩⟩:=p;unfold qau;simp only[flAh] at hL3;simp only[hL1,Option.bind_some,hlin,qg,hp,hm,hgd,hL3,hel,h4,hlin4,hp4,h5]
theorem qpx (r:Rules) (att:Int) {U:List PN} {a:Nat} (ha:a<U.length):(U.set a (recalc att U a)).map (wR r)=U.map (wR r):=by
  refine List.ext_getElem? fun t=>?_;rw[List.getElem?_map,List.getElem?_map,List.getElem?_set];split
  · rename_i h;subst h;rw[qlY ha];rfl
  · rfl
theorem qon (r:Rules) (att:Int):∀(P:List Nat) (G:List PN),(∀x∈P,x<G.length)→(updR att P G).map (wR r)=G.map (wR r)
  | [],G,_=>rfl
  | a::P,G,h=>by
    show((updR att P G).set a (recalc att (updR att P G) a)).map (wR r)=_;rw[qpx r att (by rw[qea];exact h a List.mem_cons_self)];exact qon r att P G fun x hx=>h x (List.mem_cons_of_mem _ hx)
theorem qmj {r:Rules} {att:Int} (many:Nat) (hmany:many≤5000) (hatt:att=0∨att=1) {B:Nat} {M:List PN} (h:Gd r att B M) (hB:B≤1099511627775) (h0:0<M.length) (hL:M.length≤900000000) (ha:(nd M 0).a≠0) (hb:(nd M 0).b≠0) :
    qau (r,(att,((M.map (wR r),()),((many:Int),()))))=some ((r,(att,(((qaf r att M.length M 0).map (wR r),()),(((many+1:Nat):Int),())))),()):=by
  have o:=qiB h hB M.length 0 h0 (by omega) ha hb;have hL1:=qmA (many:Int) hatt h hB M.length 0 h0 (by omega) ha hb
  have eE:(qaf r att M.length M 0).map (wR r)=(growM r att M (pathM att M.length M 0).2).map (wR r):=qon r att _ _ fun x hx=>by rw[qc4];have:=o.lt x hx;omega
  rw[eE];have hl:=o.lt _ o.last;have le0:=o.e0;have und:=o.und;generalize (pathM att M.length M 0).2=l at hL1 hl le0 und ⊢;obtain⟨x1,x2⟩:=qlE h hl le0 und.1 und.2;have hv:=h.val l hl;have hml:=qaS hv;have hpos:=qmX hv x2
  have hw:w64 ((many:Int)+1)=((many+1:Nat):Int):=by rw[qd (by omega) (by omega)];omega
  rw[←hw];have hL3:=L3_loopR (r:=r) (att:=att) (many:=(many:Int)) hl hv x2 hL (qe r (nd M l).p).length 0 (by omega)
  have hG:l<(M++lvs r att (nd M l).p (qe r (nd M l).p)).length:=by rw[List.length_append];omega
  have eP:nd (M++lvs r att (nd M l).p (qe r (nd M l).p)) l=nd M l:=qku hl
  have hyk:(yk M.length (qe r (nd M l).p).length)=some ((qr M.length (qe r (nd M l).p).length).map (fun n:Nat=>(n:Int))):=by unfold yk;rw[if_neg (by omega)]
  refine exp_A (l:=(l:Int)) (hk:=l) (y:=yk M.length (qe r (nd M l).p).length) (xs3:=(M++lvs r att (nd M l).p (qe r (nd M l).p)).map (wR r)) (xs4:=(M.set l (wk (nd M l) (qr M.length (qe r (nd M l).p).length))++lvs r att (nd M l).p (qe r (nd M l).p)).map (wR r)) hL1 ?_ ?_ (qes hv) (kk:=[]) ?_ ?_ ?_ ?_ ?_ ?_ ?_
    (p':=(nd M l).p) (v':=qn r (nd M l).p) (kk':=(qr M.length (qe r (nd M l).p).length).map (fun n:Nat=>(n:Int))) (f':=(nd M l).e) (v:=qn r (nd M l).p) (f:=(nd M l).e)
  · rw[List.length_map];exact qa1 _ l hl
  · rw[Int.toNat_natCast,getR hl];unfold wR;rw[x1];rfl
  · rw[Int.toNat_natCast,List.length_map]
    have:Nat.blt l M.length=true:=by simpa using hl
    rw[this,decide_eq_true (by omega)];rfl
  · rw[Int.toNat_natCast];have e0:(M++lvs r att (nd M l).p ((qe r (nd M l).p).take 0)).map (wR r)=M.map (wR r):=by
      rw[List.take_zero];unfold lvs;rw[List.map_nil,List.append_nil]
    rw[e0] at hL3;exact hL3
  · rw[hyk];show(!List.isEmpty ((qr M.length (qe r (nd M l).p).length).map (fun n:Nat=>(n:Int))))=true
    rw[List.isEmpty_eq_false_iff.2 (fun hh=>by
      have:=congrArg List.length hh;rw[List.length_map,qaR,List.length_nil] at this
      omega)]
    rfl
  · rw[getR hG,eP,qnL];have:((wR r (nd M l)).1,((qr M.length (qe r (nd M l).p).length).map (fun n:Nat=>(n:Int)),(wR r (nd M l)).2.2))=wR r (wk (nd M l) (qr M.length (qe r (nd M l).p).length)):=rfl;rw[this,←List.map_set,List.set_append_left _ _ hl]
  · rw[List.length_map];exact qa1 _ l (by rw[List.length_append,List.length_set];omega)
  · rw[Int.toNat_natCast,getR (by rw[List.length_append,List.length_set];omega),qku (by rw[List.length_set];exact hl),qby hl];rfl
  · rw[Int.toNat_natCast];have:(((nd M l).p,(qn r (nd M l).p,())),((qr M.length (qe r (nd M l).p).length).map (fun n:Nat=>(n:Int)),(true,())))=wR r (wke (nd M l) (qr M.length (qe r (nd M l).p).length)):=rfl;rw[this,←List.map_set,List.set_append_left _ _ (by rw[List.length_set];exact hl),List.set_set];rfl
theorem law_L1_go {r:Rules} {att:Int} {xs xs':List Sn} {a b a' b' bd many many':Int} (h:((decide (a>0)&&decide (b>0))&&decide (many<bd))=true) (hx:qau (r,(att,((xs,()),(many,()))))=some ((r,(att,((xs',()),(many',())))),()))
    (hn:qx (r,(att,(xs',(many',())))) 0=some (a',(b',()))):qR bd ((a,(b,())),(flAx r att xs many,()))=some (.inl ((a',(b',())),(flAx r att xs' many',()))):=by
  obtain⟨r1,r2,r3,r4,r5,r6,r7,r8,r9,r10,r11,⟨⟩⟩:=r;simp only[flAx];unfold qR;simp only[h,cond_true,hx,hn,Option.bind_some]
theorem qjE {r:Rules} {att:Int} {xs:List Sn} {a b bd many:Int} (h:((decide (a>0)&&decide (b>0))&&decide (many<bd))=false):qR bd ((a,(b,())),(flAx r att xs many,()))=some (.inr ((a,(b,())),(flAx r att xs many,()))):=by
  obtain⟨r1,r2,r3,r4,r5,r6,r7,r8,r9,r10,r11,⟨⟩⟩:=r;simp only[flAx];unfold qR;simp only[h,cond_false]
theorem law_loop {r:Rules} {p:Place} {att:Int} (hatt:att=0∨att=1) {bd:Nat} (hbd:bd≤5000):∀(n:Nat) (M:List PN) (c:Nat),LK r p att M c→c+n=bd →
    iterW (qR (bd:Int)) (((nd M 0).a,((nd M 0).b,())),(flAx r att (M.map (wR r)) (c:Int),()))=some (((nd (loopM r att n M c).1 0).a,((nd (loopM r att n M c).1 0).b,())),(flAx r att ((loopM r att n M c).1.map (wR r)) ((loopM r att n M c).2:Int),())):=by
  intro n
  induction n with
  | zero =>
    intro M c h hc;refine qk (qjE ?_);rw[decide_eq_false (by omega:¬(c:Int)<(bd:Int)),Bool.and_false]
  | succ n ih =>
    intro M c h hc;have hn:decide ((c:Int)<(bd:Int))=true:=decide_eq_true (by omega);have hcb:=qht (c:=c) (by omega);have hB:1+100000*c≤1099511627775:=Nat.le_trans hcb (by decide);have hbnd:=h.gd.bd hB 0 h.pos;unfold loopM;by_cases d:(nd M 0).a≠0∧(nd M 0).b≠0
    · rw[if_pos d];have hL:M.length≤900000000:=Nat.le_trans h.len (Nat.le_trans hcb (by decide));have hs:=h.step (by omega) d.1 d.2;have hcb2:=qht (c:=c+1) (by omega);have hB2:1+100000*(c+1)≤1099511627775:=Nat.le_trans hcb2 (by decide);have hx:=qmj c (by omega) hatt h.gd hB h.pos hL d.1 d.2;have hnu:=qco ((c+1:Nat):Int) hatt hs.gd hB2 hs.pos;have e:=law_L1_go (bd:=(bd:Int)) (a:=(nd M 0).a) (b:=(nd M 0).b) (by rw[hn,decide_eq_true (by omega:(nd M 0).a>0),decide_eq_true (by omega:(nd M 0).b>0)];rfl) hx hnu;rw[qs e];exact ih _ _ hs (by omega)
    · rw[if_neg d];refine qk (qjE ?_);by_cases a0:(nd M 0).a=0
      · rw[decide_eq_false (by omega:¬(nd M 0).a>0)];rfl
      · have b0:(nd M 0).b=0:=Decidable.byContradiction fun hh=>d ⟨a0,hh⟩;rw[decide_eq_false (by omega:¬(nd M 0).b>0),Bool.and_false,Bool.false_and]

abbrev z0:Mv:=((0:Int),((0:Int),((0:Int),())))
def qce (r:Rules) (p:Place) (bd:Int):Int:=if qa4 r p≠0 then qa4 r p else if bd<0∨bd>5000 then 1 else 0
def endP (r:Rules) (p:Place) (n:Nat):List PN×Nat:=loopM r p.2.2.1 n [leafN r p.2.2.1 p] 0
theorem qmy {r:Rules} {p:Place} {bd:Int} (hr:Rng qee r) (hn:p.1.length≤9223372036854775807) (h:qce r p bd≠0):qaa r p bd=some (((0:Int),((0:Int),((0:Int),((0:Int),())))),(qce r p bd,()))∧qI r p bd=some (z0,(qce r p bd,())):=by
  unfold qce at h ⊢;unfold qaa qI;by_cases h1:qa4 r p=0
  · rw[if_neg (by simp[h1])] at h ⊢;by_cases h2:bd<0∨bd>5000
    · have hb:(decide (bd<0)||decide (bd>5000))=true:=by simpa using h2
      rw[if_pos h2];simp only[qfC r p hr hn,Option.bind_some,bne_f h1,cond_false,hb,cond_true];exact⟨rfl,rfl⟩
    · rw[if_neg h2] at h;exact absurd rfl h
  · rw[if_pos h1];simp only[qfC r p hr hn,Option.bind_some,bne_t h1,cond_true,and_self]
theorem qoo {r:Rules} {p:Place} {bd:Nat} (hr:Rng qee r) (hn:p.1.length≤9223372036854775807) (h1:qa4 r p=0) (hbd:bd≤5000) :
    qaa r p (bd:Int)=some ((stI (nd (endP r p bd).1 0).a (nd (endP r p bd).1 0).b,((nd (endP r p bd).1 0).a,((nd (endP r p bd).1 0).b,(((endP r p bd).2:Int),())))),((0:Int),())):=by
  have hv:=qlB h1;have hatt:p.2.2.1=0∨p.2.2.1=1:=hv.turn;have hb:(decide ((bd:Int)<0)||decide ((bd:Int)>5000))=false:=by
    rw[decide_eq_false (by omega),decide_eq_false (by omega)];rfl
  have hL:=qkI hatt hbd bd _ 0 (lk_0 p.2.2.1 hv) (by omega);have ok:=(LK.loop bd _ 0 (lk_0 p.2.2.1 hv) (by omega)).1;exact prove_A (by rw[qfC r p hr hn,h1]) hb (qiG hv) (qf4 hv) rfl (qjH hatt p) hL (ndP_w ok.pos)
section
variable {ms : List Mv} {ns : ArP} {j : Int} {mv : Mv} {ks : List Nat} {c : Nat} {pc : Place} {ca cb : Int} {ce : Bool}
  (hj:decide (j<((ms.length:Nat):Int))=true) (hin:inb j ms.length=true) (hk:kdP ns dPn 1=ks)
include hj hin hk
theorem L4_yes (hlt:decide (j<((ks.length:Nat):Int))=true) (hin2:inb j ks.length=true) (hc:getD' ks j.toNat 0=c) (hbc:Nat.blt 0 c=true) (hnc:ndP ns dPn c=(pc,(ca,(cb,(ce,()))))) (h0:(ca==0)=true) :
    qw ms ((1,((0:Int),())),(ns,())) ((j,()),(mv,()))=some (.inr (.inr (.inr (getD' ms j.toNat z0,((0:Int),()))))):=by
  have hb:Nat.blt 0 1=true:=rfl;have hi:imp true true=true:=rfl;unfold qw;simp only[hj,cond_true,hin,qg,hb,hk,hlt,hi,hin2,hc,hbc,hnc,h0,Bool.and_self]
theorem L4_no (hlt:decide (j<((ks.length:Nat):Int))=true) (hin2:inb j ks.length=true) (hc:getD' ks j.toNat 0=c) (hbc:Nat.blt 0 c=true) (hnc:ndP ns dPn c=(pc,(ca,(cb,(ce,()))))) (h0:(ca==0)=false) :
    qw ms ((1,((0:Int),())),(ns,())) ((j,()),(mv,()))=some (.inl ((w64 (j+1),()),(mv,()))):=by
  have hb:Nat.blt 0 1=true:=rfl;have hi:imp true true=true:=rfl;obtain⟨m1,m2,m3,⟨⟩⟩:=mv;unfold qw;simp only[hj,cond_true,hin,qg,hb,hk,hlt,hi,hin2,hc,hbc,hnc,h0,Bool.and_false,cond_false]
theorem L4_nok (hlt:decide (j<((ks.length:Nat):Int))=false) :
    qw ms ((1,((0:Int),())),(ns,())) ((j,()),(mv,()))=some (.inl ((w64 (j+1),()),(mv,()))):=by
  have hb:Nat.blt 0 1=true:=rfl;have hi:∀x,imp false x=true:=fun _=>rfl;obtain⟨m1,m2,m3,⟨⟩⟩:=mv;unfold qw;simp only[hj,cond_true,hin,qg,hb,hk,hlt,hi,Bool.false_and,cond_false]
end
theorem least_ex (P:Nat→Prop) [DecidablePred P]:∀n,P n→∃z,z≤n∧P z∧∀i<z,¬P i:=by
  intro n
  induction n using Nat.strongRecOn with
  | ind n ih =>
    intro hn;by_cases c:∃i,i<n∧P i
    · obtain⟨i,hi,hp⟩:=c;obtain⟨z,h1,h2,h3⟩:=ih i hi hp;exact⟨z,by omega,h2,h3⟩
    · exact⟨n,Nat.le_refl _,hn,fun i hi hp=>c ⟨i,hi,hp⟩⟩
theorem zero_kid {r:Rules} {p:Place} {M:List PN} {c:Nat} (h:LK r p p.2.2.1 M c) (hc:c≤5000) (ha:(nd M 0).a=0) (h0:c≠0):∃z,z<(qe r p).length∧(nd M (1+z)).a=0∧∀i<z,(nd M (1+i)).a≠0:=by
  have hB:1+100000*c≤1099511627775:=Nat.le_trans (qht hc) (by decide);rcases h.st with ⟨s1,_⟩ | ⟨s1,s2,s3⟩
  · exact absurd s1 h0
  · obtain⟨x1,x2,x3⟩:=h.gd.e1 0 h.pos s2;have hm:=qj0 (att:=p.2.2.1) x1;have hl:=qib (att:=p.2.2.1) x1;have ho:ownB p.2.2.1 (nd M 0)=true:=by
      unfold ownB;rw[h.pl];exact beq_self_eq_true _
    have ea:(nd M 0).a=(vals p.2.2.1 M 0).1:=congrArg Prod.fst x3;unfold vals swp at ea;unfold numK mn at hl;rw[ho] at ea hl;simp only[if_true] at ea hl;rw[←ea,ha] at hl;rw[s3] at hm;have hmm:=mem_kidsFrom.1 hm;have hz:(nd M (qT p.2.2.1 M 0)).a=0:=by
      split at hl<;>omega
    obtain⟨z,z1,z2,z3⟩:=least_ex (fun i=>(nd M (1+i)).a=0) (qT p.2.2.1 M 0-1) (by
      show(nd M (1+(qT p.2.2.1 M 0-1))).a=0;rw[show 1+(qT p.2.2.1 M 0-1)=qT p.2.2.1 M 0 by omega]
      exact hz)
    exact⟨z,by omega,z2,z3⟩
theorem qn2 {r:Rules} {p:Place} {bd:Nat} (hr:Rng qee r) (hn:p.1.length≤9223372036854775807) (h1:qa4 r p=0) (hbd:bd≤5000) :
    ((nd (endP r p bd).1 0).a≠0∨(endP r p bd).2=0→qI r p (bd:Int)=some (z0,((8:Int),()))) ∧
    (∀z,(nd (endP r p bd).1 0).a=0→(endP r p bd).2≠0→z<(qe r p).length→(nd (endP r p bd).1 (1+z)).a=0→(∀i<z,(nd (endP r p bd).1 (1+i)).a≠0)→qI r p (bd:Int)=some (getD' (qe r p) z z0,((0:Int),()))):=by
  have hv:=qlB h1;have hml:=qaS hv;have hatt:p.2.2.1=0∨p.2.2.1=1:=hv.turn;have hb:(decide ((bd:Int)<0)||decide ((bd:Int)>5000))=false:=by
    rw[decide_eq_false (by omega),decide_eq_false (by omega)];rfl
  have hL:=qkI hatt hbd bd _ 0 (lk_0 p.2.2.1 hv) (by omega);rw[←qng] at hL;obtain⟨ok,okc⟩:=LK.loop bd _ 0 (lk_0 p.2.2.1 hv) (by omega);have A:=fun res hno hyes=>first_A (st:=none) (r:=r) (p:=p) (bd:=(bd:Int)) (res:=res) (by rw[qfC r p hr hn,h1]) hb (qiG hv) (qf4 hv) rfl (qjH hatt p) hL (ndP_w ok.pos) (qje hv) hno hyes;have eE:loopM r p.2.2.1 bd [leafN r p.2.2.1 p] 0=endP r p bd:=rfl;rw[eE] at ok okc;have hstep:=fun j (hj:j<(qe r p).length)=>qd (n:=(j:Int)+1) (by omega) (by omega);refine⟨fun h=>?_,fun z ha hc hz h0 hlt=>?_⟩
  · refine A _ (fun _=>rfl) (fun ha => .inl ⟨?_,rfl⟩);have hc0:(endP r p bd).2=0:=by
      rcases h with h | h
      · exact absurd ha h
      · exact h
    have hks:(nd (endP r p bd).1 0).ks=[]:=by
      rcases ok.st with ⟨_,_,s3⟩ | ⟨s1,_⟩
      · exact(ok.gd.e0 0 ok.pos s3).1
      · omega
    have hkd:kdP ((endP r p bd).1.map wP) dPn 1=[]:=by
      have:=kdP_w ok.pos;rw[hks] at this;exact this
    exact qaO (f:=qw (qe r p) ((1,((0:Int),())),((endP r p bd).1.map wP,()))) (qe r p).length (fun j=>(((j:Int),()),(z0,()))) (.inl ((),(z0,()))) (fun j hj=>by
      have:=L4_nok (mv:=z0) (qdA _ _ hj) (qa1 _ _ hj) hkd (by rw[List.length_nil];exact decide_eq_false (by omega));rw[hstep j hj] at this
      exact this) (by
      unfold qw
      simp only[qnF,cond_false])
  · refine A _ (fun hh=>absurd ha hh) (fun _ => .inr ?_);have hks:(nd (endP r p bd).1 0).ks=qr 1 (qe r p).length:=by
      rcases ok.st with ⟨s1,_⟩ | ⟨_,_,s3⟩
      · exact absurd s1 hc
      · exact s3
    have hkd:kdP ((endP r p bd).1.map wP) dPn 1=(qr 1 (qe r p).length).map (· + 1):=by
      have:=kdP_w ok.pos;rw[hks] at this;exact this
    have hkl:((qr 1 (qe r p).length).map (· + 1)).length=(qe r p).length:=by rw[List.length_map,qaR]
    have hget:∀j,j<(qe r p).length→getD' ((qr 1 (qe r p).length).map (· + 1)) (j:Int).toNat 0=1+j+1:=fun j hj=>by
      rw[qg0 _ _ (by rw[hkl];exact hj)];simp[qr]
    have hlen:∀j,j<(qe r p).length→1+j<(endP r p bd).1.length:=fun j hj=>by
      have:=(ok.gd.kid 0 ok.pos (1+j) (by rw[hks];exact mem_kidsFrom.2 ⟨by omega,by omega⟩)).2;exact this
    exact qaO (f:=qw (qe r p) ((1,((0:Int),())),((endP r p bd).1.map wP,()))) z (fun j=>(((j:Int),()),(z0,()))) (.inr (.inr (getD' (qe r p) z z0,((0:Int),())))) (fun j hj=>by
      have hj':j<(qe r p).length:=by omega
      have:=L4_no (mv:=z0) (qdA _ _ hj') (qa1 _ _ hj') hkd (by rw[hkl];exact qdA _ _ hj') (by rw[hkl];exact qa1 _ _ hj') (hget j hj') (by simp) (ndP_w (hlen j hj')) (beq_f (hlt j hj));rw[hstep j hj'] at this
      exact this) (by
      have:=L4_yes (mv:=z0) (qdA _ _ hz) (qa1 _ _ hz) hkd (by rw[hkl];exact qdA _ _ hz) (by rw[hkl];exact qa1 _ _ hz) (hget z hz) (by simp) (ndP_w (hlen z hz)) (beq_t h0);rw[Int.toNat_natCast] at this
      exact this)
section
variable {r : Rules} {att : Int} {xs : List Sn} {ms : List Mv} {ab : Int × Int × Unit} {many j k a b e : Int} {mv : Mv}
theorem law_L2_no (hj:decide (j<((ms.length:Nat):Int))=true) (hin:inb j ms.length=true) (hw:w64 (1+j)=k) (hn:qx (r,(att,(xs,(many,())))) k=some (a,(b,()))) (h0:(a==0)=false) :
    qP ms (ab,(flAx r att xs many,())) (mv,(e,())) ((j,()),())=some (.inl ((w64 (j+1),()),())):=by
  obtain⟨r1,r2,r3,r4,r5,r6,r7,r8,r9,r10,r11,⟨⟩⟩:=r;simp only[flAx];unfold qP;simp only[hj,cond_true,hin,qg,hw,hn,Option.bind_some,h0,cond_false]
theorem qo8 (hj:decide (j<((ms.length:Nat):Int))=true) (hin:inb j ms.length=true) (hw:w64 (1+j)=k) (hn:qx (r,(att,(xs,(many,())))) k=some (a,(b,()))) (h0:(a==0)=true) (hmv:getD' ms j.toNat z0=mv) :
    qP ms (ab,(flAx r att xs many,())) (mv,((0:Int),())) ((j,()),())=some (.inr (.inr true)):=by
  obtain⟨r1,r2,r3,r4,r5,r6,r7,r8,r9,r10,r11,⟨⟩⟩:=r;simp only[flAx];unfold qP;simp only[hj,cond_true,hin,qg,hw,hn,Option.bind_some,h0,hmv,beq_self_eq_true,Bool.and_self]
end
theorem near_end:(nd (endP qm law1Near 10).1 0).a=0∧(nd (endP qm law1Near 10).1 0).b=1099511627776∧(endP qm law1Near 10).2=1∧(nd (endP qm law1Near 10).1 (1+0)).a=0:=by decide +kernel
theorem law1ProofnumProves_true (r:Rules) (p:Place) (budget:Int) (hr:Rng qee r) (hp:Rng tyPlace p) (hb:Rng (.int .i64) budget):qbP r p budget=some true:=by
  have hn:p.1.length≤9223372036854775807:=hp.1.1;obtain⟨n1,n2,n3,n4⟩:=near_end;have e1:=qoo (bd:=10) qmu near_n near_ok (by decide);have e2:=(qn2 (bd:=10) qmu near_n near_ok (by decide)).2 0 n1 (by rw[n3];decide) (by rw[qkj];decide) n4 (fun i hi=>by omega);rw[n1,n2,n3,show stI 0 1099511627776=0 from rfl] at e1
  have hput:qf5 2=((-1:Int),((2:Int),((0:Int),()))):=by decide +kernel
  have hg:getD' (qe qm law1Near) 0 z0=((-1:Int),((2:Int),((0:Int),()))):=by rw[qkj];rfl
  rw[hg] at e2;have e1':qaa qm law1Near 10=_:=e1;have e2':qI qm law1Near 10=_:=e2;unfold qbP;rw[eta_r,eta_p2,e1',Option.bind_some];show(Option.bind (qI qm law1Near 10) _)=some true;rw[e2',Option.bind_some,hput];show Option.bind (qaa r p (if (5001:Int)<budget then(5001:Int) else budget)) _=some true;generalize hbd:(if (5001:Int)<budget then(5001:Int) else budget)=bd;by_cases h1:qa4 r p=0
  · have hv:=qlB h1;by_cases h2:budget<0∨budget>5000
    · have h2':bd<0∨bd>5000:=by
        rw[←hbd]
        split<;>omega
      have he:qce r p bd=1:=by unfold qce;rw[if_neg (by simp[h1]),if_pos h2']
      obtain⟨a1,a2⟩:=qmy hr hn (show qce r p bd≠0 by rw[he];decide);have hs:qu budget 0 5000=false:=by
        unfold qu;simp;omega
      rw[a1,a2,he,qcT r p hr hn];simp only[Option.bind_some,beq_t h1,hs,Bool.not_false,Bool.and_true,cond_true];rfl
    · have hbe:bd=budget:=by
        rw[←hbd]
        split<;>omega
      have hs:qu budget 0 5000=true:=by
        unfold qu;simp;omega
      rw[hbe];obtain⟨n,rfl⟩:=Int.eq_ofNat_of_zero_le (show 0≤budget by omega)
      have hn5:n≤5000:=by omega
      have a1:=qoo hr hn h1 hn5;obtain⟨f1,f2⟩:=qn2 hr hn h1 hn5;have hatt:p.2.2.1=0∨p.2.2.1=1:=hv.turn;obtain⟨ok,okc⟩:=LK.loop n _ 0 (lk_0 p.2.2.1 hv) (by omega);have eE:loopM r p.2.2.1 n [leafN r p.2.2.1 p] 0=endP r p n:=rfl;rw[eE] at ok okc
      have hc5:(endP r p n).2≤5000:=by omega
      have hB:1+100000*(endP r p n).2≤1099511627775:=Nat.le_trans (qht hc5) (by decide);have hbd0:=ok.gd.bd hB 0 ok.pos
      obtain⟨res,hres,hX,hY⟩:∃res,qI r p ((n:Nat):Int)=some res∧((nd (endP r p n).1 0).a≠0∨(endP r p n).2=0→res=(z0,((8:Int),()))) ∧
          ((nd (endP r p n).1 0).a=0→(endP r p n).2≠0→∃z,z<(qe r p).length∧(nd (endP r p n).1 (1+z)).a=0∧(∀i<z,(nd (endP r p n).1 (1+i)).a≠0)∧res=(getD' (qe r p) z z0,((0:Int),()))):=by
        by_cases c:(nd (endP r p n).1 0).a≠0∨(endP r p n).2=0
        · exact⟨_,f1 c,fun _=>rfl,fun x y=>by
            rcases c with c | c
            · exact absurd x c
            · exact absurd c y⟩
        · have c1:(nd (endP r p n).1 0).a=0:=Decidable.byContradiction fun hh=>c (.inl hh);have c2:(endP r p n).2≠0:=fun hh=>c (.inr hh);obtain⟨z,z1,z2,z3⟩:=zero_kid ok hc5 c1 c2;exact⟨_,f2 z c1 c2 z1 z2 z3,fun hh=>absurd hh c,fun _ _=>⟨z,z1,z2,z3,rfl⟩⟩
      rw[a1,hres,qcT r p hr hn];simp only[Option.bind_some,beq_t h1,hs,Bool.not_true,Bool.and_false,cond_false,h1,bne_self_eq_false]
      cases hsm:((decide (((n:Nat):Int)>(25:Int)))||(decide (((p.1.length:Nat):Int)>(16:Int)))) with
      | true=>rfl
      | false =>
        rw[cond_false,qfO hv,Option.bind_some];have hnu0:=qco (r:=r) (att:=p.2.2.1) (0:Int) hatt (lk_0 p.2.2.1 hv).gd (by decide) (j:=0) Nat.one_pos;have hnu:qx (r,(p.2.2.1,([((p,(qn r p,())),([]:List Int),(false,()))],((0:Int),())))) (0:Int)=some ((nd [leafN r p.2.2.1 p] 0).a,((nd [leafN r p.2.2.1 p] 0).b,())):=hnu0;rw[hnu,Option.bind_some];have lp:=law_loop hatt hn5 n [leafN r p.2.2.1 p] 0 (lk_0 p.2.2.1 hv) (by omega);rw[eE] at lp;refine(congrArg (fun z=>Option.bind z _) lp).trans ?_;rw[Option.bind_some];generalize hM:(endP r p n).1=M at *;generalize hC:(endP r p n).2=C at *;generalize hA:(nd M 0).a=A at *;generalize hBv:(nd M 0).b=Bv at *
        have hx22:(bif (A==(0:Int)) then some ((),(((0:Int),(A,(Bv,((C:Int),())))),())) else Option.bind (bif (Bv==(0:Int)) then some ((),(((1:Int),(A,(Bv,((C:Int),())))),())) else some ((),(((2:Int),(A,(Bv,((C:Int),())))),()))) fun x21:Unit×((Int×Int×Int×Int×Unit)×Unit)=>some ((),(x21.2.1,())))=some ((),((stI A Bv,(A,(Bv,((C:Int),())))),())):=by
          unfold stI;by_cases ca:A=0
          · rw[beq_t ca,cond_true,if_pos ca]
          · rw[beq_f ca,cond_false,if_neg ca];by_cases cb:Bv=0
            · rw[beq_t cb,cond_true,if_pos cb];rfl
            · rw[beq_f cb,cond_false,if_neg cb];rfl
        refine(congrArg (fun z=>Option.bind z _) hx22).trans ?_;rw[Option.bind_some];simp only[bne_self_eq_false,beq_self_eq_true,Bool.and_true,Bool.not_true,Bool.or_false,cond_false]
        cases hd:(decide (A>(0:Int)))||((C:Int)==(0:Int)) with
        | true =>
          have:res=(z0,((8:Int),())):=hX (by
            rw[Bool.or_eq_true,decide_eq_true_eq,beq_iff_eq] at hd
            omega)
          rw[this];show(bif ((decide (A>(0:Int)))||((C:Int)==(0:Int))) then _ else _)=_;rw[hd,cond_true];rfl
        | false =>
          rw[Bool.or_eq_false_iff,decide_eq_false_iff_not,beq_eq_false_iff_ne] at hd;obtain⟨z,z1,z2,z3,rfl⟩:=hY (by omega) (by omega);show(bif ((decide (A>(0:Int)))||((C:Int)==(0:Int))) then _ else _)=_;rw[show((decide (A>(0:Int)))||((C:Int)==(0:Int)))=false from by rw[Bool.or_eq_false_iff,decide_eq_false_iff_not,beq_eq_false_iff_ne];exact hd,cond_false,qes hv,Option.bind_some];have hml:=qaS hv;have hks:(nd M 0).ks=qr 1 (qe r p).length:=by
            rcases ok.st with ⟨s1,_⟩ | ⟨_,_,s3⟩
            · omega
            · exact s3
          have hlen:∀j,j<(qe r p).length→1+j<M.length:=fun j hj=>(ok.gd.kid 0 ok.pos (1+j) (by rw[hks];exact mem_kidsFrom.2 ⟨by omega,by omega⟩)).2
          have hw1:∀j,j<(qe r p).length→w64 (1+(j:Int))=((1+j:Nat):Int):=fun j hj=>by rw[qd (by omega) (by omega)];omega
          have hw2:∀j,j<(qe r p).length→w64 ((j:Int)+1)=((j+1:Nat):Int):=fun j hj=>by rw[qd (by omega) (by omega)];omega
          have L:=qaO (f:=qP (qe r p) ((A,(Bv,())),(flAx r p.2.2.1 (M.map (wR r)) (C:Int),())) (getD' (qe r p) z z0,((0:Int),()))) z (fun j=>(((j:Int),()),())) (.inr true) (fun j hj=>by
            have hj':j<(qe r p).length:=by omega
            have:=law_L2_no (ab:=(A,(Bv,()))) (mv:=getD' (qe r p) z z0) (e:=0) (qdA _ _ hj') (qa1 _ _ hj') (hw1 j hj') (qco (C:Int) hatt ok.gd hB (hlen j hj')) (beq_f (z3 j hj));rw[hw2 j hj'] at this
            exact this) (qo8 (qdA _ _ z1) (qa1 _ _ z1) (hw1 z z1) (qco (C:Int) hatt ok.gd hB (hlen z z1)) (beq_t z2) (by rw[Int.toNat_natCast]))
          refine(congrArg (fun z=>Option.bind z _) L).trans ?_;rfl
  · have he:qce r p bd=qa4 r p:=by unfold qce;rw[if_pos h1]
    obtain⟨a1,a2⟩:=qmy hr hn (show qce r p bd≠0 by rw[he];exact h1);rw[a1,a2,he,qcT r p hr hn];simp only[Option.bind_some,beq_f h1,Bool.false_and,cond_false,bne_t h1,cond_true,beq_self_eq_true,Bool.and_self]
end Go.Proofs.Ytcifaoaepbidoaa
