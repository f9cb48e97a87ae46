/- Several texts in one: DenP, DenL, StandingSaysM, StandA, StandB, StandC, StandD, StandE, StandF, StandG, StandH, StandI, StandingSaysL. -/
import Derived.Test.YtcifaoaepbidoaaMAA
import Derived.Test.YtcifaoaepbidoaaMAD
namespace Go.Den
set_option linter.unusedVariables false
set_option linter.unusedSimpArgs false

theorem qeO {T α:Type} {f:T→Option (T ⊕ α)}:∀ {n m:Nat} {x:T} {r:α},iterN f n x=some r→n≤m→iterN f m x=some r
  | 0,_,_,_,h,_=>by simp[iterN] at h
  | n+1,0,_,_,_,h=>by omega
  | n+1,m+1,x,r,h,hm=>by
    simp only[iterN] at h ⊢
    match hf:f x with
    | none=>simp[hf] at h
    | some (.inr q)=>simp only[hf] at h ⊢;exact h
    | some (.inl y)=>simp only[hf] at h ⊢;exact qeO h (by omega)
theorem qfi {T α:Type} {f:T→Option (T ⊕ α)} {n:Nat} {x:T} {r:α} (h:iterN f n x=some r):iterW f x=some r:=by
  have hx:∃n,(iterN f n x).isSome=true:=⟨n,by rw[h];rfl⟩;unfold iterW;rw[dif_pos hx];obtain⟨q,hq⟩:=Option.isSome_iff_exists.1 (Classical.choose_spec hx);rw[hq];rcases Nat.le_total n (Classical.choose hx) with hl | hl
  · rw[←hq,qeO h hl]
  · rw[←h,qeO hq hl]
theorem qfI {T α:Type} {f:T→Option (T ⊕ α)} {x:T} {r:α} (h:iterW f x=some r):∃n,iterN f n x=some r:=by
  unfold iterW at h;split at h
  · exact⟨_,h⟩
  · cases h
theorem qbb {T α:Type} {f:T→Option (T ⊕ α)} {x y:T} (h:f x=some (.inl y)):iterW f x=iterW f y:=by
  cases hy:iterW f y with
  | some r =>
    obtain⟨n,hn⟩:=qfI hy;exact qfi (n:=n+1) (by simp[iterN,h,hn])
  | none =>
    cases hx:iterW f x with
    | none=>rfl
    | some r =>
      obtain⟨n,hn⟩:=qfI hx
      cases n with
      | zero=>simp[iterN] at hn
      | succ n =>
        simp only[iterN,h] at hn;rw[qfi hn] at hy;cases hy
theorem qF {T α:Type} {f:T→Option (T ⊕ α)} {x:T} {r:α} (h:f x=some (.inr r)):iterW f x=some r:=qfi (n:=1) (by simp[iterN,h])
theorem qbw {T α:Type} {f:T→Option (T ⊕ α)} (I:T→Prop) (μ:T→Nat) (Q:α→Prop)
    (h:∀x,I x→(∃y,f x=some (.inl y)∧I y∧μ y<μ x)∨(∃r,f x=some (.inr r)∧Q r)):∀x,I x→∃r,iterW f x=some r∧Q r:=by
  have key:∀(n:Nat) x,μ x<n→I x→∃r,iterW f x=some r∧Q r:=by
    intro n
    induction n with
    | zero=>intro x hx;omega
    | succ n ih =>
      intro x hx hi;rcases h x hi with ⟨y,h1,h2,h3⟩ | ⟨r,h1,h2⟩
      · rw[qbb h1];exact ih y (by omega) h2
      · exact⟨r,qF h1,h2⟩
  exact fun x hi=>key _ x (Nat.lt_succ_self _) hi
theorem qC {T α:Type} {f:T→Option (T ⊕ α)} (n:Nat) (st:Nat→T) (r:α) (hs:∀i,i<n→f (st i)=some (.inl (st (i+1)))) (he:f (st n)=some (.inr r)):iterW f (st 0)=some r:=by
  have key:∀k,k≤n→iterW f (st (n-k))=some r:=by
    intro k
    induction k with
    | zero=>intro _;exact qF he
    | succ k ih =>
      intro hk;have:=hs (n-(k+1)) (by omega);rw[show n-(k+1)+1=n-k by omega] at this;rw[qbb this];exact ih (by omega)
  have:=key n (Nat.le_refl _)
  rwa [Nat.sub_self] at this
theorem qew {α β:Type} (xs:List α) (p:α→Bool) (f:((Int×Unit)×Unit)→Option (((Int×Unit)×Unit) ⊕ β)) (A B:β)
    (h1:∀i (hi:i<xs.length),f (((i:Int),()),())=bif p xs[i] then some (.inr A) else some (.inl ((((i+1:Nat):Int),()),()))) (h2:f (((xs.length:Int),()),())=some (.inr B)) :
    iterW f ((0,()),())=some (bif xs.any p then A else B):=by
  have key:∀k i,i+k=xs.length→iterW f (((i:Int),()),())=some (bif (xs.drop i).any p then A else B):=by
    intro k
    induction k with
    | zero =>
      intro i hi
      have:i=xs.length:=by omega
      subst this;rw[qF h2];simp
    | succ k ih =>
      intro i hi
      have hl:i<xs.length:=by omega
      have hs:=h1 i hl;rw[List.drop_eq_getElem_cons hl]
      cases hp:p xs[i] with
      | true =>
        rw[hp] at hs;rw[qF hs];simp only[List.any_cons,hp,Bool.true_or,cond_true]
      | false =>
        rw[hp] at hs;rw[qbb hs,ih (i+1) (by omega)];simp only[List.any_cons,hp,Bool.false_or]
  have:=key xs.length 0 (by omega);simpa using this
def scan {β:Type} (e:Nat→Option β) (B:β):Nat→Nat→β
  | _,0=>B
  | i,k+1=>match e i with
    | some b=>b
    | none=>scan e B (i+1) k
theorem qgF {β:Type} (n:Nat) (f:((Int×Unit)×Unit)→Option (((Int×Unit)×Unit) ⊕ β)) (e:Nat→Option β) (B:β)
    (h1:∀i,i<n→f (((i:Int),()),())=match e i with
      | some b=>some (.inr b)
      | none=>some (.inl ((((i+1:Nat):Int),()),()))) (h2:f (((n:Int),()),())=some (.inr B)) :
    iterW f ((0,()),())=some (scan e B 0 n):=by
  have key:∀k i,i+k=n→iterW f (((i:Int),()),())=some (scan e B i k):=by
    intro k
    induction k with
    | zero =>
      intro i hi
      have:i=n:=by omega
      subst this;exact qF h2
    | succ k ih =>
      intro i hi;have hs:=h1 i (by omega);unfold scan
      match he:e i with
      | some b=>rw[he] at hs;exact qF hs
      | none=>rw[he] at hs;rw[qbb hs];exact ih (i+1) (by omega)
  exact key n 0 (by omega)
theorem qc {n:Int} (h1 : -9223372036854775808≤n) (h2:n≤9223372036854775807):w64 n=n:=by
  simp[w64,IntKind.wrap,IntKind.signed,IntKind.bits];omega
theorem qg5 {n b:Nat} (h:n*b≤140737488355328):room n b=true:=Nat.ble_eq_true_of_le h
theorem beq_f {α:Type} [BEq α] [LawfulBEq α] {a b:α} (h:¬a=b):(a==b)=false:=by simpa using h
theorem bne_t {α:Type} [BEq α] [LawfulBEq α] {a b:α} (h:¬a=b):(a !=b)=true:=by simpa using h
theorem beq_t {α:Type} [BEq α] [LawfulBEq α] {a b:α} (h:a=b):(a==b)=true:=by simpa using h
theorem bne_f {α:Type} [BEq α] [LawfulBEq α] {a b:α} (h:a=b):(a !=b)=false:=by simpa using h
theorem qo {α:Type} (x:Option α):req true x=x:=rfl
theorem at?_eq {α:Type} (xs:List α) (i:Int) (h0:0≤i) (h1:i<(xs.length:Int)):at? xs i=some (xs[i.toNat]'(by omega)):=by
  simp[at?,h0,List.getElem?_eq_getElem (show i.toNat<xs.length by omega)]
theorem inb_iff {i:Int} {n:Nat}:inb i n=true↔0≤i∧i<(n:Int):=by simp[inb]
def Le {α:Type} (a b:Option α):Prop:=∀r,a=some r→b=some r
theorem Le.refl {α:Type} (a:Option α):Le a a:=fun _ h=>h
theorem Le.bind {α β:Type} {a b:Option α} {f g:α→Option β} (h:Le a b) (hf:∀x,Le (f x) (g x)):Le (Option.bind a f) (Option.bind b g):=fun r hr=>by
  obtain⟨x,h1,h2⟩:=Option.bind_eq_some_iff.1 hr;rw[h x h1];exact hf x r h2
theorem Le.elim {α β γ:Type} {f g:α→Option γ} {f' g':β→Option γ} (h:∀x,Le (f x) (g x)) (h':∀x,Le (f' x) (g' x)):∀x,Le (Sum.elim f f' x) (Sum.elim g g' x)
  | .inl x=>h x
  | .inr x=>h' x
theorem Le.cond {α:Type} {c:Bool} {a b a' b':Option α} (h:Le a a') (h':Le b b'):Le (bif c then a else b) (bif c then a' else b'):=by
  cases c
  · exact h'
  · exact h
theorem Le.req {α:Type} {c:Bool} {a b:Option α} (h:Le a b):Le (req c a) (req c b):=by
  cases c
  · exact Le.refl _
  · exact h
theorem Le.gopt {α:Type} {c:Bool} {d:α} {a b:Option α} (h:Le a b):Le (gopt c d a) (gopt c d b):=by
  cases c
  · exact Le.refl _
  · exact h
theorem Le.map {α β:Type} {f:α→β} {a b:Option α} (h:Le a b):Le (Option.map f a) (Option.map f b):=fun r hr=>by
  obtain⟨x,h1,h2⟩:=Option.map_eq_some_iff.1 hr;rw[h x h1,←h2];rfl
theorem Le.iter {T α:Type} {f g:T→Option (T ⊕ α)} (h:∀x,Le (f x) (g x)) (n:Nat) (x:T):Le (iterN f n x) (iterW g x):=by
  have key:∀n x,Le (iterN f n x) (iterN g n x):=by
    intro n
    induction n with
    | zero=>intro x;exact Le.refl _
    | succ n ih =>
      intro x r hr;simp only[iterN] at hr ⊢
      match hf:f x with
      | none=>rw[hf] at hr;cases hr
      | some (.inl y)=>rw[hf] at hr;rw[h x _ hf];exact ih y r hr
      | some (.inr q)=>rw[hf] at hr;rw[h x _ hf];exact hr
  exact fun r hr=>qfi (key n x r hr)
def Mono {T α:Type} (G:(T→Option α)→T→Option α):Prop:=∀φ ψ,(∀x,Le (φ x) (ψ x))→∀x,Le (G φ x) (G ψ x)
theorem Le.fix {T α:Type} {F G:(T→Option α)→T→Option α} (h:∀φ ψ,(∀x,Le (φ x) (ψ x))→∀x,Le (F φ x) (G ψ x)) (hG:Mono G) (n:Nat) (x:T):Le (fixN F n x) (fixW G x):=by
  have key:∀n x,Le (fixN F n x) (fixN G n x):=by
    intro n
    induction n with
    | zero=>intro x;exact Le.refl _
    | succ n ih=>intro x;exact h _ _ ih x
  have up:∀n x,Le (fixN G n x) (fixN G (n+1) x):=by
    intro n
    induction n with
    | zero=>intro x r hr;cases hr
    | succ n ih=>intro x;exact hG _ _ ih x
  have mono:∀k n x,Le (fixN G n x) (fixN G (n+k) x):=by
    intro k
    induction k with
    | zero=>intro n x;exact Le.refl _
    | succ k ih=>intro n x r hr;exact up _ x r (ih n x r hr)
  intro r hr;have h1:=key n x r hr;have hx:∃n,(fixN G n x).isSome=true:=⟨n,by rw[h1];rfl⟩;unfold fixW;rw[dif_pos hx];obtain⟨q,hq⟩:=Option.isSome_iff_exists.1 (Classical.choose_spec hx);rw[hq];rcases Nat.le_total n (Classical.choose hx) with hl | hl
  · have:=mono (Classical.choose hx-n) n x r h1;rw[show n+(Classical.choose hx-n)=Classical.choose hx by omega,hq] at this;exact this
  · have:=mono (n-Classical.choose hx) (Classical.choose hx) x q hq;rw[show Classical.choose hx+(n-Classical.choose hx)=n by omega,h1] at this;exact this.symm

def scanL {A S R:Type} (g:S→A→S ⊕ R) (fin:S→R):List A→S→R
  | [],s=>fin s
  | x::xs,s=>match g s x with
    | .inl s'=>scanL g fin xs s'
    | .inr r=>r
theorem iter_scan {A S T R:Type} (xs:List A) (f:T→Option (T ⊕ R)) (st:Nat→S→T) (g:S→A→S ⊕ R) (fin:S→R) (I:Nat→S→Prop)
    (hs:∀i (hi:i<xs.length) s,I i s→f (st i s)=match g s xs[i] with
      | .inl s'=>some (.inl (st (i+1) s'))
      | .inr r=>some (.inr r))
    (hI:∀i (hi:i<xs.length) s s',I i s→g s xs[i] = .inl s'→I (i+1) s')
    (he:∀s,I xs.length s→f (st xs.length s)=some (.inr (fin s))) (s0:S) (h0:I 0 s0) :
    iterW f (st 0 s0)=some (scanL g fin xs s0):=by
  have key:∀k i s,i+k=xs.length→I i s→iterW f (st i s)=some (scanL g fin (xs.drop i) s):=by
    intro k
    induction k with
    | zero =>
      intro i s hi hs'
      have:i=xs.length:=by omega
      subst this;rw[qF (he s hs'),List.drop_length];rfl
    | succ k ih =>
      intro i s hi hs'
      have hl:i<xs.length:=by omega
      have h1:=hs i hl s hs';have h2:=hI i hl s;rw[List.drop_eq_getElem_cons hl];unfold scanL
      match hg:g s xs[i] with
      | .inl s' =>
        rw[hg] at h1;rw[qbb h1,ih (i+1) s' (by omega) (h2 s' hs' hg)]
      | .inr r =>
        rw[hg] at h1;rw[qF h1]
  have:=key xs.length 0 s0 (by omega) h0
  rwa [List.drop_zero] at this
theorem Le.iterW {T α:Type} {f g:T→Option (T ⊕ α)} (h:∀x,Le (f x) (g x)) (x:T):Le (Go.Den.iterW f x) (Go.Den.iterW g x):=fun r hr=>by
  obtain⟨n,hn⟩:=qfI hr;exact Le.iter h n x r hn
theorem Le.agreeW {α:Type} {a b a' b':Option α} (h:Le a a') (h':Le b b'):Le (Go.Den.agree a b) (Go.Den.agree a' b'):=fun r hr=>by
  unfold Go.Den.agree at hr ⊢;split at hr
  · rename_i e;rw[h r hr,h' r (e▸hr),if_pos rfl]
  · cases hr
end Go.Den
namespace Go.Proofs.Ytcifaoaepbidoaa
open Go.Den
set_option linter.unusedVariables false
set_option maxRecDepth 100000
theorem qaY:Mono qe:=by
  intro self self' hself x
  unfold qe qt
  repeat (first | exact Le.refl _ | assumption | apply hself | apply Le.cond | apply Le.req | apply Le.gopt | apply Le.map | apply Le.agreeW | refine Le.iterW (fun _=>?_) _ | refine Le.bind ?_ (Le.elim (fun _=>?_) (fun _=>?_)) | refine Le.bind ?_ (fun _=>?_))
set_option linter.unusedSimpArgs false

abbrev Rw:=Int×Int×(Int×Int×Int×Int×Unit)×Int×Int×Unit
def rz:Rw:=((0:Int),((0:Int),(((0:Int),((0:Int),((0:Int),((0:Int),())))),((0:Int),((0:Int),())))))
def gR (l:List Rw) (k:Nat):Rw:=getD' l k rz
theorem gR_lt {l:List Rw} {k:Nat} (h:k<l.length):gR l k=l[k]:=by
  unfold gR getD';rw[List.getD_eq_getElem?_getD,List.getElem?_eq_getElem h];rfl
theorem gR_ext {l m:List Rw} (h:l.length=m.length) (hk:∀k,k<l.length→gR l k=gR m k):l=m:=by
  refine List.ext_getElem h fun k h1 h2=>?_;have:=hk k h1
  rwa [gR_lt h1,gR_lt h2] at this
def sw (l:List Rw) (i j:Nat):List Rw:=(l.set i (gR l j)).set j (gR l i)
theorem qiO (l:List Rw) (i j:Nat):(sw l i j).length=l.length:=by simp[sw]
theorem qgR {l:List Rw} {i j:Nat} (hi:i<l.length) (hj:j<l.length):(sw l i j).Perm l:=by
  unfold sw;rw[gR_lt hi,gR_lt hj];exact List.set_set_perm hi hj
theorem qdm {l:List Rw} {i:Nat} (hi:i<l.length) (x:Rw) (k:Nat):gR (l.set i x) k=if k=i then x else gR l k:=by
  unfold gR getD';rw[List.getD_eq_getElem?_getD,List.getElem?_set,List.getD_eq_getElem?_getD];by_cases h:i=k
  · rw[if_pos h,if_pos hi,if_pos h.symm];rfl
  · rw[if_neg h,if_neg (fun e=>h e.symm)]
theorem sw_g {l:List Rw} {i j:Nat} (hi:i<l.length) (hj:j<l.length) (k:Nat):gR (sw l i j) k=if k=j then gR l i else if k=i then gR l j else gR l k:=by
  unfold sw;rw[qdm (by simpa using hj),qdm hi]

def swR (l:List Rw) (a b:Nat):Nat→List Rw
  | 0=>l
  | i+1=>sw (swR l a b i) (a+i) (b+i)
theorem qc1 (l:List Rw) (a b:Nat):∀i,(swR l a b i).length=l.length
  | 0=>rfl
  | i+1=>by unfold swR;rw[qiO,qc1 l a b i]
theorem qfg (l:List Rw) (a b:Nat):∀i,a+i≤l.length→b+i≤l.length→(swR l a b i).Perm l
  | 0,_,_=>List.Perm.refl _
  | i+1,h1,h2=>by
    unfold swR;exact(qgR (by rw[qc1];omega) (by rw[qc1];omega)).trans (qfg l a b i (by omega) (by omega))
def swI (a b n k:Nat):Nat:=if a≤k∧k<a+n then b+(k-a) else if b≤k∧k<b+n then a+(k-b) else k
theorem swR_g (l:List Rw) (a b:Nat):∀i,a+i≤b→b+i≤l.length→∀k,gR (swR l a b i) k=gR l (swI a b i k)
  | 0,_,_,k=>by
    unfold swR swI;rw[if_neg (by omega),if_neg (by omega)]
  | i+1,h1,h2,k=>by
    unfold swR;rw[sw_g (by rw[qc1];omega) (by rw[qc1];omega)];have ih:=swR_g l a b i (by omega) (by omega);rw[ih,ih,ih]
    have e1:swI a b i (a+i)=a+i:=by unfold swI;rw[if_neg (by omega),if_neg (by omega)]
    have e2:swI a b i (b+i)=b+i:=by unfold swI;rw[if_neg (by omega),if_neg (by omega)]
    rw[e1,e2];by_cases c1:k=b+i
    · rw[if_pos c1]
      exact congrArg (gR l) (by unfold swI; (repeat' split)<;>omega)
    rw[if_neg c1];by_cases c2:k=a+i
    · rw[if_pos c2]
      exact congrArg (gR l) (by unfold swI; (repeat' split)<;>omega)
    rw[if_neg c2]
    exact congrArg (gR l) (by unfold swI; (repeat' split)<;>omega)
theorem qcC (l:List Rw) (a b n:Nat) (hs:l.length≤1000) (h1:a+n≤l.length) (h2:b+n≤l.length):qf l (a:Int) (b:Int) (n:Int)=some (swR l a b n,()):=by
  unfold qf;have:=qC (f:=qp (n:Int) (b:Int) (a:Int)) n (fun i=>(((i:Int),()),(swR l a b i,()))) ((),(swR l a b n,())) (fun i hi=>?_) ?_
  · rw[show((0:Nat):Int)=0 from rfl] at this;have h0:swR l a b 0=l:=rfl;rw[h0] at this;rw[this];rfl
  · unfold qp;have hl:=qc1 l a b i;generalize hd:swR l a b i=d at hl
    have hlt:(i:Int)<(n:Int):=by omega
    simp only[hlt,decide_true,cond_true];rw[qc (n:=(b:Int)+(i:Int)) (by omega) (by omega),qc (n:=(a:Int)+(i:Int)) (by omega) (by omega),qc (n:=(i:Int)+1) (by omega) (by omega)];have i1:inb ((b:Int)+(i:Int)) d.length=true:=inb_iff.2 (by omega);have i2:inb ((a:Int)+(i:Int)) d.length=true:=inb_iff.2 (by omega);simp only[i1,i2,qo,Option.bind_some,List.length_set]
    have e1:((b:Int)+(i:Int)).toNat=b+i:=by omega
    have e2:((a:Int)+(i:Int)).toNat=a+i:=by omega
    rw[e1,e2];show some (Sum.inl (((i:Int)+1,()),(sw d (a+i) (b+i),())))=_;rw[←hd];rfl
  · unfold qp;simp

def rotI (a m b k:Nat):Nat:=if a≤k∧k<a+(b-m) then k-a+m else if a+(b-m)≤k∧k<b then k-(b-m) else k
theorem qie (l:List Rw) (a m b:Nat) (hs:l.length≤1000) (h1:a<m) (h2:m<b) (h3:b≤l.length):∃r,qq l (a:Int) (m:Int) (b:Int)=some (r,())∧r.length=l.length∧r.Perm l∧∀k,gR r k=gR l (rotI a m b k):=by
  unfold qq;rw[qc (n:=(m:Int)-(a:Int)) (by omega) (by omega),qc (n:=(b:Int)-(m:Int)) (by omega) (by omega)];have key:=qbw (f:=qD (m:Int))
    (fun x=>∃(i j:Nat) (d:List Rw),x=(((i:Int),((j:Int),())),(d,()))∧0<i∧0<j∧i≤m∧m+j≤l.length∧d.length=l.length∧d.Perm l∧∀k,gR d (rotI (m-i) m (m+j) k)=gR l (rotI a m b k))
    (fun x=>(x.1.1+x.1.2.1).toNat)
    (fun r=>∃(i:Nat) (d:List Rw),r=(((i:Int),()),(d,()))∧0<i∧i≤m∧m+i≤l.length∧d.length=l.length∧d.Perm l∧∀k,gR d (rotI (m-i) m (m+i) k)=gR l (rotI a m b k))
    ?h (((m:Int)-(a:Int),((b:Int)-(m:Int),())),(l,())) ⟨m-a,b-m,l,by rw[Int.ofNat_sub (by omega),Int.ofNat_sub (by omega)],by omega,by omega,by omega,by omega,rfl,List.Perm.refl _,fun k=>by
      rw[show m-(m-a)=a by omega,show m+(b-m)=b by omega]⟩
  · obtain⟨r,hr,i,d,rfl,hi,hi2,hi3,hd,hp,hg⟩:=key;rw[hr];simp only[Option.bind_some];rw[qc (by omega) (by omega),show(m:Int)-(i:Int)=((m-i:Nat):Int) by omega,qcC d (m-i) m i (by omega) (by omega) (by omega)];refine⟨_,rfl,?_,?_,fun k=>?_⟩
    · rw[qc1];exact hd
    · exact(qfg d (m-i) m i (by omega) (by omega)).trans hp
    · rw[swR_g d (m-i) m i (by omega) (by omega),←hg k]
      exact congrArg (gR d) (by unfold swI rotI; (repeat' split)<;>omega)
  · rintro x ⟨i,j,d,rfl,hi,hj,hi2,hj2,hd,hp,hg⟩
    unfold qD;by_cases c:(i:Int)=(j:Int)
    · have c':i=j:=by omega
      subst c';refine .inr ⟨_,by simp only[bne_f rfl,cond_false],i,d,rfl,hi,hi2,hj2,hd,hp,hg⟩
    · simp only[bne_t c,cond_true];by_cases c2:(i:Int)>(j:Int)
      · simp only[c2,decide_true,cond_true];rw[qc (by omega) (by omega),qc (by omega) (by omega),show(m:Int)-(i:Int)=((m-i:Nat):Int) by omega,qcC d (m-i) m j (by omega) (by omega) (by omega)];refine .inl ⟨_,rfl,⟨i-j,j,swR d (m-i) m j,?_,by omega,hj,by omega,hj2,by rw[qc1];exact hd,(qfg d (m-i) m j (by omega) (by omega)).trans hp,fun k=>?_⟩,?_⟩
        · rw[Int.ofNat_sub (by omega)]
        · rw[swR_g d (m-i) m j (by omega) (by omega),←hg k]
          exact congrArg (gR d) (by unfold swI rotI; (repeat' split)<;>omega)
        · show((i:Int)-(j:Int)+(j:Int)).toNat<((i:Int)+(j:Int)).toNat;omega
      · simp only[c2,decide_false,cond_false];rw[qc (n:=(m:Int)-(i:Int)) (by omega) (by omega),qc (n:=(m:Int)+(j:Int)) (by omega) (by omega),qc (n:=(m:Int)+(j:Int)-(i:Int)) (by omega) (by omega),qc (n:=(j:Int)-(i:Int)) (by omega) (by omega),show(m:Int)-(i:Int)=((m-i:Nat):Int) by omega,show(m:Int)+(j:Int)-(i:Int)=((m+j-i:Nat):Int) by omega,qcC d (m-i) (m+j-i) i (by omega) (by omega) (by omega)];refine .inl ⟨_,rfl,⟨i,j-i,swR d (m-i) (m+j-i) i,?_,hi,by omega,hi2,by omega,by rw[qc1];exact hd,(qfg d (m-i) (m+j-i) i (by omega) (by omega)).trans hp,fun k=>?_⟩,?_⟩
        · rw[Int.ofNat_sub (by omega)]
        · rw[swR_g d (m-i) (m+j-i) i (by omega) (by omega),←hg k]
          exact congrArg (gR d) (by unfold swI rotI; (repeat' split)<;>omega)
        · show((i:Int)+((j:Int)-(i:Int))).toNat<((i:Int)+(j:Int)).toNat;omega

def c3 (x y:Int):Int:=if x<y then -1 else if y<x then 1 else 0
theorem qir (a b:Int):qE a b=c3 a b:=by
  unfold qE qW c3;by_cases h1:a<b
  · simp[h1]
  by_cases h2:b<a
  · simp[h1,h2]
  · simp[h1,h2]
def cmpK:List Int→List Int→Int
  | x::xs,y::ys=>if x<y then -1 else if y<x then 1 else cmpK xs ys
  | _,_=>0
theorem qhy:∀s,cmpK s s=0
  | []=>rfl
  | x::xs=>by unfold cmpK;rw[if_neg (by omega),if_neg (by omega)];exact qhy xs
theorem qiy:∀s t,cmpK s t = -cmpK t s
  | [],[]=>rfl
  | [],_::_=>rfl
  | _::_,[]=>rfl
  | x::xs,y::ys=>by
    unfold cmpK;have:=qiy xs ys
    repeat' split
    all_goals omega
theorem qgG:∀s t u,s.length=t.length→t.length=u.length→cmpK s t≤0→cmpK t u≤0→cmpK s u≤0∧(cmpK s t<0∨cmpK t u<0→cmpK s u<0)
  | [],[],[],_,_,_,_=>⟨by decide,fun h=>by rcases h with h | h<;>exact absurd h (by decide)⟩
  | [],[],_::_,_,h,_,_=>by cases h
  | [],_::_,_,h,_,_,_=>by cases h
  | _::_,[],_,h,_,_,_=>by cases h
  | _::_,_::_,[],_,h,_,_=>by cases h
  | x::xs,y::ys,z::zs,h1,h2,h3,h4=>by
    unfold cmpK at h3 h4 ⊢;by_cases a1:x<y
    · by_cases b1:y<z
      · simp only[if_pos (show x<z by omega),a1,b1,if_true];exact⟨by omega,fun _=>by omega⟩
      · rw[if_neg b1] at h4 ⊢;by_cases b2:z<y
        · rw[if_pos b2] at h4;omega
        · simp only[if_pos (show x<z by omega)];exact⟨by omega,fun _=>by omega⟩
    · rw[if_neg a1] at h3 ⊢;by_cases a2:y<x
      · rw[if_pos a2] at h3;omega
      · rw[if_neg a2] at h3 ⊢;by_cases b1:y<z
        · simp only[if_pos (show x<z by omega)];exact⟨by omega,fun _=>by omega⟩
        · rw[if_neg b1] at h4 ⊢;by_cases b2:z<y
          · rw[if_pos b2] at h4;omega
          · rw[if_neg b2] at h4 ⊢;rw[if_neg (show ¬x<z by omega),if_neg (show ¬z<x by omega)];exact qgG xs ys zs (by simpa using h1) (by simpa using h2) h3 h4
def keyR (r:Rw):List Int:=[r.2.1,r.2.2.1.1,r.2.2.1.2.1,r.2.2.1.2.2.1,r.2.2.1.2.2.2.1]
def ordI (a b:Rw):Int:=cmpK (keyR b) (keyR a)

theorem qhm (s t:List Int) (h:s.length=t.length) (hs:s.length≤1000):qau s t=some (cmpK s t):=by
  unfold qau;rw[qgF (β:=(Unit×Unit) ⊕ Int) s.length (qap s t) (fun i=>if c3 (s.getD i 0) (t.getD i 0)=0 then none else some (.inr (c3 (s.getD i 0) (t.getD i 0)))) (.inl ((),())) (fun i hi=>?a) ?b]
  · have key:∀k i,i+k=s.length→scan (β:=(Unit×Unit) ⊕ Int) (fun i=>if c3 (s.getD i 0) (t.getD i 0)=0 then none else some (.inr (c3 (s.getD i 0) (t.getD i 0)))) (.inl ((),())) i k=if cmpK (s.drop i) (t.drop i)=0 then .inl ((),()) else .inr (cmpK (s.drop i) (t.drop i)):=by
      intro k
      induction k with
      | zero =>
        intro i hi;rw[List.drop_eq_nil_of_le (by omega),List.drop_eq_nil_of_le (by omega)];rfl
      | succ k ih =>
        intro i hi;have:=ih (i+1) (by omega);unfold scan;rw[List.drop_eq_getElem_cons (show i<s.length by omega),List.drop_eq_getElem_cons (show i<t.length by omega),List.getD_eq_getElem?_getD,List.getD_eq_getElem?_getD,List.getElem?_eq_getElem (show i<s.length by omega),List.getElem?_eq_getElem (show i<t.length by omega)];simp only[Option.getD_some];unfold cmpK c3;by_cases a1:s[i]<t[i]
        · simp[a1]
        · by_cases a2:t[i]<s[i]
          · simp[a1,a2]
          · simp only[a1,a2,if_false,if_true];exact this
    rw[key s.length 0 (by omega)];simp only[List.drop_zero,Option.bind_some];by_cases c:cmpK s t=0
    · rw[if_pos c,c,h];simp
    · rw[if_neg c];rfl
  case a =>
    unfold qap
    have h1:(i:Int)<((s.length:Nat):Int):=by omega
    have h2:¬(i:Int)≥((t.length:Nat):Int):=by omega
    simp only[h1,h2,decide_true,decide_false,cond_true,cond_false];rw[at?_eq s _ (by omega) (by omega),at?_eq t _ (by omega) (by omega)];simp only[Int.toNat_natCast,Option.bind_some,qir];rw[List.getD_eq_getElem?_getD,List.getD_eq_getElem?_getD,List.getElem?_eq_getElem (show i<s.length by omega),List.getElem?_eq_getElem (show i<t.length by omega)];simp only[Option.getD_some];by_cases c:c3 s[i] t[i]=0
    · rw[if_pos c,bne_f c];simp only[cond_false];rw[qc (by omega) (by omega)];rfl
    · rw[if_neg c,bne_t c];rfl
  case b =>
    unfold qap;simp
theorem or2 (a b:Int):qdp [a,b]=some (if a=0 then b else a):=by
  unfold qdp;by_cases ha:a=0
  · subst ha;rw[qbb (y:=((1,()),())) (by simp[qbl,at?,qc])];by_cases hb:b=0
    · subst hb;rw[qbb (y:=((2,()),())) (by simp[qbl,at?,qc])];rw[qF (r := .inl ((),())) (by simp[qbl])];rfl
    · rw[qF (r := .inr b) (by simp[qbl,at?,bne_t hb])];simp
  · rw[qF (r := .inr a) (by simp[qbl,at?,bne_t ha])];simp[ha]
theorem qcH (a b:Rw):qA a b=some (ordI a b):=by
  unfold qA ordI keyR;rw[show ∀x:Option Int,agree x x=x from fun x=>if_pos rfl];rw[qhm _ _ (by rfl) (by simp)];simp only[Option.bind_some,qir,or2];refine congrArg some ?_;show(if c3 b.2.1 a.2.1=0 then cmpK _ _ else c3 b.2.1 a.2.1)=(if b.2.1<a.2.1 then -1 else if a.2.1<b.2.1 then 1 else cmpK _ _);unfold c3;by_cases h1:b.2.1<a.2.1
  · simp[h1]
  by_cases h2:a.2.1<b.2.1
  · simp[h1,h2]
  · simp[h1,h2]

def Pr (x y:Rw):Prop:=ordI x y<0∨(ordI x y=0∧x.1<y.1)
theorem qha (x y:Rw):ordI x y = -ordI y x:=qiy _ _
theorem qb7 {x y z:Rw} (h1:ordI x y≤0) (h2:ordI y z≤0):ordI x z≤0∧(ordI x y<0∨ordI y z<0→ordI x z<0):=by
  have:=qgG (keyR z) (keyR y) (keyR x) rfl rfl;exact⟨(this h2 h1).1,fun h=>(this h2 h1).2 (h.symm)⟩
theorem Pr.le {x y:Rw} (h:Pr x y):ordI x y≤0:=by rcases h with h | h<;>omega
theorem Pr.trans {x y z:Rw} (h1:Pr x y) (h2:Pr y z):Pr x z:=by
  obtain⟨a,b⟩:=qb7 h1.le h2.le;rcases h1 with h1 | ⟨h1,h1'⟩
  · exact .inl (b (.inl h1))
  rcases h2 with h2 | ⟨h2,h2'⟩
  · exact .inl (b (.inr h2))
  by_cases c:ordI x z<0
  · exact .inl c
  · exact .inr ⟨by omega,by omega⟩
theorem pr_of {x y:Rw} (hp:x.1<y.1):(ordI y x<0→Pr y x)∧(¬ordI y x<0→Pr x y):=by
  have:=qha x y;refine⟨fun h => .inl h,fun h=>?_⟩;by_cases c:ordI x y<0
  · exact .inl c
  · exact .inr ⟨by omega,hp⟩

def Srt (d:List Rw) (a b:Nat):Prop:=∀x y,a≤x→x<y→y<b→Pr (gR d x) (gR d y)
theorem half (i j:Nat) (h:i+j≤100000):w64 (shK .shr .u64 (wu64 (w64 ((i:Int)+(j:Int)))) 1)=(((i+j) / 2:Nat):Int):=by
  rw[qc (n:=(i:Int)+(j:Int)) (by omega) (by omega)];have e:wu64 ((i:Int)+(j:Int))=((i+j:Nat):Int):=by
    unfold wu64 IntKind.wrap;simp[IntKind.bits,IntKind.signed];omega
  rw[e];have e2:shK .shr .u64 ((i+j:Nat):Int) 1=(((i+j) / 2:Nat):Int):=by
    show Int.fdiv ((i+j:Nat):Int) (2 ^ 1)=_;rw[Int.fdiv_eq_ediv_of_nonneg _ (by omega)];omega
  rw[e2,qc (by omega) (by omega)]
theorem bsearch {f:(Int×Int×Unit)×Unit→Option (((Int×Int×Unit)×Unit) ⊕ ((Int×Unit)×Unit))} (q:Nat→Bool) (i j:Nat) (hij:i≤j)
    (hf:∀a b:Nat,i≤a→a<b→b≤j→f ((((a:Int),((b:Int),()))),())=some (.inl (if q ((a+b) / 2) then((((((a+b) / 2+1:Nat):Int),((b:Int),()))),()) else((((a:Int),((((a+b) / 2:Nat):Int),()))),()))))
    (he:∀a:Nat,f ((((a:Int),((a:Int),()))),())=some (.inr (((a:Int),()),()))) :
    ∃s:Nat,iterW f ((((i:Int),((j:Int),()))),())=some (((s:Int),()),())∧i≤s∧s≤j∧(s=i∨q (s-1)=true)∧(s=j∨q s=false):=by
  have key:=qbw (f:=f)
    (fun x=>∃a b:Nat,x=((((a:Int),((b:Int),()))),())∧i≤a∧a≤b∧b≤j∧(a=i∨q (a-1)=true)∧(b=j∨q b=false))
    (fun x=>(x.1.2.1-x.1.1).toNat)
    (fun r=>∃s:Nat,r=(((s:Int),()),())∧i≤s∧s≤j∧(s=i∨q (s-1)=true)∧(s=j∨q s=false)) ?h _ ⟨i,j,rfl,Nat.le_refl _,hij,Nat.le_refl _,.inl rfl,.inl rfl⟩
  · obtain⟨r,hr,s,rfl,h⟩:=key;exact⟨s,hr,h⟩
  · rintro x ⟨a,b,rfl,h1,h2,h3,h4,h5⟩
    by_cases c:a=b
    · subst c;exact .inr ⟨_,he a,a,rfl,h1,h3,h4,h5⟩
    · have hs:=hf a b h1 (by omega) h3
      cases hq:q ((a+b) / 2) with
      | true =>
        rw[hq,if_pos rfl] at hs;refine .inl ⟨_,hs,⟨_,_,rfl,by omega,by omega,h3,.inr (by rw[Nat.add_sub_cancel];exact hq),h5⟩,?_⟩;show((b:Int)-(((a+b) / 2+1:Nat):Int)).toNat<((b:Int)-(a:Int)).toNat;omega
      | false =>
        rw[hq,if_neg (by simp)] at hs;refine .inl ⟨_,hs,⟨_,_,rfl,by omega,by omega,by omega,h4,.inr hq⟩,?_⟩;show((((a+b) / 2:Nat):Int)-(a:Int)).toNat<((b:Int)-(a:Int)).toNat;omega

theorem qcD (l:List Rw) (a b:Nat) (hs:l.length≤1000) (hab:a≤b) (hb:b≤l.length) (h0:∀k,a≤k→k<b→(gR l k).1=(k:Int)) :
    ∃r,qg l (a:Int) (b:Int)=some (r,())∧r.length=l.length∧r.Perm l∧(∀k,k<a∨b≤k→gR r k=gR l k)∧Srt r a b∧∀k,a≤k→k<b→(a:Int)≤(gR r k).1∧(gR r k).1<(b:Int):=by
  unfold qg;rw[qc (by omega) (by omega)];by_cases hlt:a<b
  rotate_left
  · rw[qF (r:=((),(l,())))]
    · exact⟨l,rfl,rfl,List.Perm.refl _,fun _ _=>rfl,fun x y h1 h2 h3=>by omega,fun k h1 h2=>by omega⟩
    · unfold ql
      have:¬((a:Int)+1<(b:Int)):=by omega
      simp only[this,decide_false,cond_false]
  have inner:∀(i:Nat) (d:List Rw),a+1≤i→i<b→d.length=l.length→d.Perm l→(∀k,k<a∨i≤k→gR d k=gR l k)→Srt d a i→(∀k,a≤k→k<i→(a:Int)≤(gR d k).1∧(gR d k).1<(i:Int)) →
      ∃r,iterW (qm (a:Int)) (((i:Int),()),(d,()))=some ((),(r,()))∧r.length=l.length∧r.Perm l∧(∀k,k<a∨i+1≤k→gR r k=gR l k)∧Srt r a (i+1)∧(∀k,a≤k→k<i+1→(a:Int)≤(gR r k).1∧(gR r k).1<((i+1:Nat):Int)):=by
    intro i d hi1 hi2 hd hp hout hsd hm;have hei:=h0 i (by omega) hi2;have key:=qbw (f:=qm (a:Int))
      (fun x=>∃(j:Nat) (d:List Rw),x=(((j:Int),()),(d,()))∧a≤j∧j≤i∧d.length=l.length∧d.Perm l∧(∀k,k<a∨i+1≤k→gR d k=gR l k)∧gR d j=gR l i∧(∀x y,a≤x→x<y→y<i+1→x≠j→y≠j→Pr (gR d x) (gR d y))∧(∀y,j<y→y<i+1→Pr (gR l i) (gR d y))∧(∀k,a≤k→k<i+1→k≠j→(a:Int)≤(gR d k).1∧(gR d k).1<(i:Int)))
      (fun x=>x.1.1.toNat)
      (fun r=>∃d:List Rw,r=((),(d,()))∧d.length=l.length∧d.Perm l∧(∀k,k<a∨i+1≤k→gR d k=gR l k)∧Srt d a (i+1)∧(∀k,a≤k→k<i+1→(a:Int)≤(gR d k).1∧(gR d k).1<((i+1:Nat):Int))) ?h (((i:Int),()),(d,()))
      ⟨i,d,rfl,by omega,Nat.le_refl _,hd,hp,fun k hk=>hout k (by omega),hout i (by omega),fun x y h1 h2 h3 h4 h5=>hsd x y h1 h2 (by omega),fun y h1 h2=>by omega,fun k h1 h2 h3=>hm k h1 (by omega)⟩
    · obtain⟨r,hr,d',rfl,h⟩:=key;exact⟨d',hr,h⟩
    · rintro x ⟨j,d,rfl,hj1,hj2,hd,hp,hout,he,hso,hgt,hm⟩
      unfold qm;have fin:(j=a∨¬ordI (gR d j) (gR d (j-1))<0)→Srt d a (i+1)∧(∀k,a≤k→k<i+1→(a:Int)≤(gR d k).1∧(gR d k).1<((i+1:Nat):Int)):=by
        intro hc;have hbelow:∀x,a≤x→x<j→Pr (gR d x) (gR d j):=by
          intro x h1 h2;rcases hc with hc | hc
          · omega
          have hlast:Pr (gR d (j-1)) (gR d j):=(pr_of (by
            have:=hm (j-1) (by omega) (by omega) (by omega)
            rw[he,hei];omega)).2 hc
          by_cases e:x=j-1
          · rw[e];exact hlast
          · exact(hso x (j-1) h1 (by omega) (by omega) (by omega) (by omega)).trans hlast
        refine⟨fun x y h1 h2 h3=>?_,fun k h1 h2=>?_⟩
        · by_cases c1:x=j
          · rw[c1,he];exact hgt y (by omega) h3
          by_cases c2:y=j
          · rw[c2];exact hbelow x h1 (by omega)
          · exact hso x y h1 h2 h3 c1 c2
        · by_cases c1:k=j
          · rw[c1,he,hei];omega
          · have:=hm k h1 h2 c1;omega
      by_cases c:(j:Int)>(a:Int)
      · simp only[c,decide_true];have i1:inb (j:Int) d.length=true:=inb_iff.2 (by omega);rw[qc (n:=(j:Int)-1) (by omega) (by omega)];have i2:inb ((j:Int)-1) d.length=true:=inb_iff.2 (by omega)
        have e1:(j:Int).toNat=j:=by omega
        have e2:((j:Int)-1).toNat=j-1:=by omega
        rw[e1,e2];have ho:qA (getD' d j rz) (getD' d (j-1) rz)=some (ordI (gR d j) (gR d (j-1))):=qcH _ _;have hstep:gopt true 0 (qA (getD' d j rz) (getD' d (j-1) rz))=some (ordI (gR d j) (gR d (j-1))):=ho;unfold rz at hstep;simp only[imp,cond_true,i1,i2,qo,List.length_set,Option.bind_some,hstep,Bool.true_and];by_cases c2:ordI (gR d j) (gR d (j-1))<0
        · simp only[c2,decide_true,cond_true];refine .inl ⟨_,rfl,⟨j-1,sw d j (j-1),?_,by omega,by omega,by rw[qiO];exact hd,(qgR (by omega) (by omega)).trans hp,fun k hk=>?_,?_,fun x y h1 h2 h3 h4 h5=>?_,fun y h1 h2=>?_,fun k h1 h2 h3=>?_⟩,?_⟩
          · rw[Int.ofNat_sub (by omega)];rfl
          · rw[sw_g (by omega) (by omega),if_neg (by omega),if_neg (by omega)];exact hout k hk
          · rw[sw_g (by omega) (by omega),if_pos rfl];exact he
          · rw[sw_g (by omega) (by omega),sw_g (by omega) (by omega),if_neg h4,if_neg h5];by_cases d1:x=j
            · rw[if_pos d1,if_neg (by omega)];exact hso (j-1) y (by omega) (by omega) h3 (by omega) (by omega)
            · rw[if_neg d1];by_cases d2:y=j
              · rw[if_pos d2];exact hso x (j-1) h1 (by omega) (by omega) d1 (by omega)
              · rw[if_neg d2];exact hso x y h1 h2 h3 d1 d2
          · rw[sw_g (by omega) (by omega),if_neg (by omega)];by_cases d1:y=j
            · rw[if_pos d1]
              have:=(pr_of (x:=gR d (j-1)) (y:=gR d j) (by
                have:=hm (j-1) (by omega) (by omega) (by omega)
                rw[he,hei];omega)).1 c2
              rwa [he] at this
            · rw[if_neg d1];exact hgt y (by omega) h2
          · rw[sw_g (by omega) (by omega),if_neg h3];by_cases d1:k=j
            · rw[if_pos d1];exact hm (j-1) (by omega) (by omega) (by omega)
            · rw[if_neg d1];exact hm k h1 h2 d1
          · show((j:Int)-1).toNat<((j:Int)).toNat;omega
        · simp only[c2,decide_false,cond_false];obtain⟨f1,f2⟩:=fin (.inr c2);exact .inr ⟨_,rfl,d,rfl,hd,hp,hout,f1,f2⟩
      · simp only[c,decide_false];obtain⟨f1,f2⟩:=fin (.inl (by omega));exact .inr ⟨_,rfl,d,rfl,hd,hp,hout,f1,f2⟩
  have key:=qbw (f:=ql (b:Int) (a:Int))
    (fun x=>∃(i:Nat) (d:List Rw),x=(((i:Int),()),(d,()))∧a+1≤i∧i≤b∧d.length=l.length∧d.Perm l∧(∀k,k<a∨i≤k→gR d k=gR l k)∧Srt d a i∧(∀k,a≤k→k<i→(a:Int)≤(gR d k).1∧(gR d k).1<(i:Int)))
    (fun x=>((b:Int)-x.1.1).toNat)
    (fun r=>∃d:List Rw,r=((),(d,()))∧d.length=l.length∧d.Perm l∧(∀k,k<a∨b≤k→gR d k=gR l k)∧Srt d a b∧(∀k,a≤k→k<b→(a:Int)≤(gR d k).1∧(gR d k).1<(b:Int))) ?h (((a:Int)+1,()),(l,()))
    ⟨a+1,l,by rw[Int.natCast_add];rfl,Nat.le_refl _,hlt,rfl,List.Perm.refl _,fun _ _=>rfl,fun x y h1 h2 h3=>by omega,fun k h1 h2=>by have:=h0 k h1 (by omega);omega⟩
  · obtain⟨r,hr,d,rfl,h⟩:=key;rw[hr];exact⟨d,rfl,h⟩
  · rintro x ⟨i,d,rfl,hi1,hi2,hd,hp,hout,hso,hm⟩
    unfold ql;by_cases c:(i:Int)<(b:Int)
    · simp only[c,decide_true,cond_true];obtain⟨r,hr,g1,g2,g3,g4,g5⟩:=inner i d hi1 (by omega) hd hp hout hso hm;rw[hr];simp only[Option.bind_some];rw[qc (by omega) (by omega)];refine .inl ⟨_,rfl,⟨i+1,r,by rw[Int.natCast_add];rfl,by omega,by omega,g1,g2,g3,g4,g5⟩,?_⟩;show((b:Int)-((i:Int)+1)).toNat<((b:Int)-(i:Int)).toNat;omega
    · simp only[c,decide_false,cond_false]
      have e:i=b:=by omega
      subst e;exact .inr ⟨_,rfl,d,rfl,hd,hp,hout,hso,hm⟩

theorem fixW_rel {T α:Type} {G:(T→Option α)→T→Option α} (hG:Mono G) (I:T→Prop) (μ:T→Nat) (Q:T→α→Prop)
    (h:∀φ x,I x→(∀y,I y→μ y<μ x→∃r,φ y=some r∧Q y r)→∃r,G φ x=some r∧Q x r):∀x,I x→∃r,fixW G x=some r∧Q x r:=by
  have a2:∀n x,I x→μ x<n→∃r,fixN G n x=some r∧Q x r:=by
    intro n
    induction n with
    | zero=>intro x _ hl;omega
    | succ n ih=>intro x hx hl;exact h _ x hx fun y hy hm=>ih y hy (by omega)
  intro x hx;obtain⟨r,h1,h2⟩:=a2 (μ x+1) x hx (Nat.lt_succ_self _);exact⟨r,Le.fix (fun φ ψ hs y=>hG φ ψ hs y) hG (μ x+1) x _ h1,h2⟩

def Mrg (l:List Rw) (a b:Nat) (r:List Rw):Prop:=r.length=l.length∧r.Perm l∧(∀k,k<a∨b≤k→gR r k=gR l k)∧Srt r a b∧∀k,a≤k→k<b→∃k',a≤k'∧k'<b∧gR r k=gR l k'
def MPre (l:List Rw) (a m b:Nat):Prop:=l.length≤1000∧a<m∧m<b∧b≤l.length∧Srt l a m∧Srt l m b∧∀x y,a≤x→x<m→m≤y→y<b→(gR l x).1<(gR l y).1

theorem up_loop (l:List Rw) (a s:Nat) (hs:l.length≤1000) (h1:a+1≤s) (h2:s≤l.length) :
    ∃r,iterW (qi (((s:Int),()),())) (((a:Int),()),(l,()))=some ((),(r,()))∧r.length=l.length∧r.Perm l∧∀k,gR r k=gR l (if a≤k∧k<s-1 then k+1 else if k=s-1 then a else k):=by
  have key:=qbw (f:=qi (((s:Int),()),()))
    (fun x=>∃(j:Nat) (d:List Rw),x=(((j:Int),()),(d,()))∧a≤j∧j≤s-1∧d.length=l.length∧d.Perm l∧∀k,gR d k=gR l (if a≤k∧k<j then k+1 else if k=j then a else k))
    (fun x=>((s:Int)-x.1.1).toNat)
    (fun r=>∃d:List Rw,r=((),(d,()))∧d.length=l.length∧d.Perm l∧∀k,gR d k=gR l (if a≤k∧k<s-1 then k+1 else if k=s-1 then a else k)) ?h (((a:Int),()),(l,()))
    ⟨a,l,rfl,Nat.le_refl _,by omega,rfl,List.Perm.refl _,fun k=>congrArg (gR l) (by(repeat' split)<;>omega)⟩
  · obtain⟨r,hr,d,rfl,h⟩:=key;exact⟨d,hr,h⟩
  · rintro x ⟨j,d,rfl,hj1,hj2,hd,hp,hg⟩
    unfold qi;rw[qc (n:=(s:Int)-1) (by omega) (by omega)];by_cases c:(j:Int)<(s:Int)-1
    · simp only[c,decide_true,cond_true];rw[qc (n:=(j:Int)+1) (by omega) (by omega)];have i1:inb (j:Int) d.length=true:=inb_iff.2 (by omega);have i2:inb ((j:Int)+1) d.length=true:=inb_iff.2 (by omega)
      have e1:(j:Int).toNat=j:=by omega
      have e2:((j:Int)+1).toNat=j+1:=by omega
      rw[e1,e2];simp only[i1,i2,qo,Option.bind_some,List.length_set];refine .inl ⟨_,rfl,⟨j+1,sw d j (j+1),by rw[Int.natCast_add];rfl,by omega,by omega,by rw[qiO];exact hd,(qgR (by omega) (by omega)).trans hp,fun k=>?_⟩,?_⟩
      · rw[sw_g (by omega) (by omega)];by_cases d1:k=j+1
        · rw[if_pos d1,hg]
          exact congrArg (gR l) (by(repeat' split)<;>omega)
        rw[if_neg d1];by_cases d2:k=j
        · rw[if_pos d2,hg]
          exact congrArg (gR l) (by(repeat' split)<;>omega)
        rw[if_neg d2,hg]
        exact congrArg (gR l) (by(repeat' split)<;>omega)
      · show((s:Int)-((j:Int)+1)).toNat<((s:Int)-(j:Int)).toNat;omega
    · simp only[c,decide_false,cond_false]
      have e:j=s-1:=by omega
      subst e;exact .inr ⟨_,rfl,d,rfl,hd,hp,hg⟩
theorem down_loop (l:List Rw) (m s:Nat) (hs:l.length≤1000) (h1:s≤m) (h2:m<l.length) :
    ∃r,iterW (qk (((s:Int),()),())) (((m:Int),()),(l,()))=some ((),(r,()))∧r.length=l.length∧r.Perm l∧∀k,gR r k=gR l (if s<k∧k≤m then k-1 else if k=s then m else k):=by
  have key:=qbw (f:=qk (((s:Int),()),()))
    (fun x=>∃(j:Nat) (d:List Rw),x=(((j:Int),()),(d,()))∧s≤j∧j≤m∧d.length=l.length∧d.Perm l∧∀k,gR d k=gR l (if j<k∧k≤m then k-1 else if k=j then m else k))
    (fun x=>x.1.1.toNat)
    (fun r=>∃d:List Rw,r=((),(d,()))∧d.length=l.length∧d.Perm l∧∀k,gR d k=gR l (if s<k∧k≤m then k-1 else if k=s then m else k)) ?h (((m:Int),()),(l,()))
    ⟨m,l,rfl,h1,Nat.le_refl _,rfl,List.Perm.refl _,fun k=>congrArg (gR l) (by(repeat' split)<;>omega)⟩
  · obtain⟨r,hr,d,rfl,h⟩:=key;exact⟨d,hr,h⟩
  · rintro x ⟨j,d,rfl,hj1,hj2,hd,hp,hg⟩
    unfold qk;by_cases c:(j:Int)>(s:Int)
    · simp only[c,decide_true,cond_true];rw[qc (n:=(j:Int)-1) (by omega) (by omega)];have i1:inb (j:Int) d.length=true:=inb_iff.2 (by omega);have i2:inb ((j:Int)-1) d.length=true:=inb_iff.2 (by omega)
      have e1:(j:Int).toNat=j:=by omega
      have e2:((j:Int)-1).toNat=j-1:=by omega
      rw[e1,e2];simp only[i1,i2,qo,Option.bind_some,List.length_set];refine .inl ⟨_,rfl,⟨j-1,sw d j (j-1),by rw[Int.ofNat_sub (by omega)];rfl,by omega,by omega,by rw[qiO];exact hd,(qgR (by omega) (by omega)).trans hp,fun k=>?_⟩,?_⟩
      · rw[sw_g (by omega) (by omega)];by_cases d1:k=j-1
        · rw[if_pos d1,hg]
          exact congrArg (gR l) (by(repeat' split)<;>omega)
        rw[if_neg d1];by_cases d2:k=j
        · rw[if_pos d2,hg]
          exact congrArg (gR l) (by(repeat' split)<;>omega)
        rw[if_neg d2,hg]
        exact congrArg (gR l) (by(repeat' split)<;>omega)
      · show((j:Int)-1).toNat<((j:Int)).toNat;omega
    · simp only[c,decide_false,cond_false]
      have e:j=s:=by omega
      subst e;exact .inr ⟨_,rfl,d,rfl,hd,hp,hg⟩
theorem Srt.le {l:List Rw} {a b x y:Nat} (h:Srt l a b) (h1:a≤x) (h2:x≤y) (h3:y<b) {z:Rw} (hz:Pr (gR l y) z):Pr (gR l x) z:=by
  by_cases e:x=y
  · rw[e];exact hz
  · exact(h x y h1 (by omega) h3).trans hz
theorem Srt.ge {l:List Rw} {a b x y:Nat} (h:Srt l a b) (h1:a≤x) (h2:x≤y) (h3:y<b) {z:Rw} (hz:Pr z (gR l x)):Pr z (gR l y):=by
  by_cases e:x=y
  · rw[←e];exact hz
  · exact hz.trans (h x y h1 (by omega) h3)

theorem mrg1 (l:List Rw) (a b:Nat) (h:MPre l a (a+1) b):∃r,(Option.bind (iterW (qh l (a:Int)) ((((a+1:Nat):Int),((b:Int),())),())) fun x4=>Option.bind (iterW (qi x4) (((a:Int),()),(l,()))) fun x10=>some (x10.2.1,()))=some (r,())∧Mrg l a b r:=by
  obtain⟨hs,h1,h2,h3,h4,h5,h6⟩:=h
  obtain⟨s,hb,b1,b2,b3,b4⟩:=bsearch (f:=qh l (a:Int)) (fun k=>decide (ordI (gR l k) (gR l a)<0)) (a+1) b (by omega) (fun i j k1 k2 k3=>by
    unfold qh
    have c:(i:Int)<(j:Int):=by omega
    simp only[c,decide_true,cond_true,half i j (by omega)];have i1:inb (((i+j) / 2:Nat):Int) l.length=true:=inb_iff.2 (by omega);have i2:inb (a:Int) l.length=true:=inb_iff.2 (by omega);have ho:qA (getD' l ((i+j) / 2) rz) (getD' l a rz)=some (ordI (gR l ((i+j) / 2)) (gR l a)):=qcH _ _;unfold rz at ho;simp only[i1,i2,qo,Int.toNat_natCast,ho,Option.bind_some];by_cases c2:ordI (gR l ((i+j) / 2)) (gR l a)<0
    · simp only[c2,decide_true,cond_true,if_true,Option.bind_some];rw[qc (by omega) (by omega)];rfl
    · simp only[c2,decide_false,cond_false,Option.bind_some];rfl) (fun i=>by
    unfold qh
    simp)
  rw[hb];simp only[Option.bind_some];obtain⟨r,hr,r1,r2,r3⟩:=up_loop l a s hs b1 (by omega);rw[hr];refine⟨r,rfl,r1,r2,fun k hk=>?_,fun x y x1 x2 x3=>?_,fun k k1 k2=>⟨_,?_,?_,r3 k⟩⟩
  · rw[r3];exact congrArg (gR l) (by(repeat' split)<;>omega)
  · -- below s: less than the first; from s on: greater
    have lo:∀y,a+1≤y→y<s→Pr (gR l y) (gR l a):=fun y y1 y2=>by
      rcases b3 with b3 | b3
      · omega
      have:=(pr_of (h6 a (s-1) (by omega) (by omega) (by omega) (by omega))).1 (by simpa using b3);exact h5.le y1 (by omega) (by omega) this
    have hi:∀y,s≤y→y<b→Pr (gR l a) (gR l y):=fun y y1 y2=>by
      rcases b4 with b4 | b4
      · omega
      have:=(pr_of (h6 a s (by omega) (by omega) (by omega) (by omega))).2 (by simpa using b4);exact h5.ge (by omega) y1 y2 this
    rw[r3,r3];by_cases c1:x<s-1
    · rw[if_pos (by omega)];by_cases c2:y<s-1
      · rw[if_pos (by omega)];exact h5 _ _ (by omega) (by omega) (by omega)
      · rw[if_neg (by omega)];by_cases c3:y=s-1
        · rw[if_pos c3];exact lo _ (by omega) (by omega)
        · rw[if_neg c3];exact h5 _ _ (by omega) (by omega) (by omega)
    · rw[if_neg (by omega)];by_cases c2:x=s-1
      · rw[if_pos c2,if_neg (by omega),if_neg (by omega)];exact hi _ (by omega) (by omega)
      · rw[if_neg c2,if_neg (by omega),if_neg (by omega)];exact h5 _ _ (by omega) (by omega) (by omega)
  · (repeat' split)<;>omega
  · (repeat' split)<;>omega
theorem mrg2 (l:List Rw) (a m:Nat) (h:MPre l a m (m+1)):∃r,(Option.bind (iterW (qj (m:Int) l) (((a:Int),((m:Int),())),())) fun x14=>Option.bind (iterW (qk x14) (((m:Int),()),(l,()))) fun x20=>some (x20.2.1,()))=some (r,())∧Mrg l a (m+1) r:=by
  obtain⟨hs,h1,h2,h3,h4,h5,h6⟩:=h
  obtain⟨s,hb,b1,b2,b3,b4⟩:=bsearch (f:=qj (m:Int) l) (fun k=>!decide (ordI (gR l m) (gR l k)<0)) a m (by omega) (fun i j k1 k2 k3=>by
    unfold qj
    have c:(i:Int)<(j:Int):=by omega
    simp only[c,decide_true,cond_true,half i j (by omega)];have i1:inb (((i+j) / 2:Nat):Int) l.length=true:=inb_iff.2 (by omega);have i2:inb (m:Int) l.length=true:=inb_iff.2 (by omega);have ho:qA (getD' l m rz) (getD' l ((i+j) / 2) rz)=some (ordI (gR l m) (gR l ((i+j) / 2))):=qcH _ _;unfold rz at ho;simp only[i1,i2,qo,Int.toNat_natCast,ho,Option.bind_some];by_cases c2:ordI (gR l m) (gR l ((i+j) / 2))<0
    · simp only[c2,decide_true,Bool.not_true,cond_false,Option.bind_some];rfl
    · simp only[c2,decide_false,Bool.not_false,cond_true,if_true,Option.bind_some];rw[qc (by omega) (by omega)];rfl) (fun i=>by
    unfold qj
    simp)
  rw[hb];simp only[Option.bind_some];obtain⟨r,hr,r1,r2,r3⟩:=down_loop l m s hs (by omega) (by omega);rw[hr];refine⟨r,rfl,r1,r2,fun k hk=>?_,fun x y x1 x2 x3=>?_,fun k k1 k2=>⟨_,?_,?_,r3 k⟩⟩
  · rw[r3];exact congrArg (gR l) (by(repeat' split)<;>omega)
  · have lo:∀x,a≤x→x<s→Pr (gR l x) (gR l m):=fun x y1 y2=>by
      rcases b3 with b3 | b3
      · omega
      have:=(pr_of (h6 (s-1) m (by omega) (by omega) (by omega) (by omega))).2 (by simpa using b3);exact h4.le y1 (by omega) (by omega) this
    have hi:∀x,s≤x→x<m→Pr (gR l m) (gR l x):=fun x y1 y2=>by
      rcases b4 with b4 | b4
      · omega
      have:=(pr_of (h6 s m (by omega) (by omega) (by omega) (by omega))).1 (by simpa using b4);exact h4.ge (by omega) y1 y2 this
    rw[r3,r3];by_cases c1:x<s
    · rw[if_neg (by omega),if_neg (by omega)];by_cases c2:y<s
      · rw[if_neg (by omega),if_neg (by omega)];exact h4 _ _ (by omega) (by omega) (by omega)
      · by_cases c3:y=s
        · rw[if_neg (by omega),if_pos c3];exact lo _ (by omega) (by omega)
        · rw[if_pos (by omega)];exact h4 _ _ (by omega) (by omega) (by omega)
    · by_cases c2:x=s
      · rw[if_neg (by omega),if_pos c2,if_pos (by omega)];exact hi _ (by omega) (by omega)
      · rw[if_pos (by omega),if_pos (by omega)];exact h4 _ _ (by omega) (by omega) (by omega)
  · (repeat' split)<;>omega
  · (repeat' split)<;>omega

theorem qg8 (self:_→Option (List Rw×Unit)) (l:List Rw) (a m b:Nat) (h:MPre l a m b)
    (ih:∀(l':List Rw) (a' m' b':Nat),MPre l' a' m' b'→b'-a'<b-a→∃r,self (l',(),(a':Int),(m':Int),(b':Int),())=some (r,())∧Mrg l' a' b' r) :
    ∃r,qt self l (a:Int) (m:Int) (b:Int)=some (r,())∧Mrg l a b r:=by
  have h':=h;obtain⟨hs,h1,h2,h3,h4,h5,h6⟩:=h';unfold qt;rw[qc (n:=(m:Int)-(a:Int)) (by omega) (by omega),qc (n:=(b:Int)-(m:Int)) (by omega) (by omega)];by_cases c1:m=a+1
  · subst c1;rw[beq_t (show((a+1:Nat):Int)-(a:Int)=1 by omega)];simp only[cond_true];exact mrg1 l a b h
  rw[beq_f (show ¬(m:Int)-(a:Int)=1 by omega)];by_cases c2:b=m+1
  · subst c2;rw[beq_t (show((m+1:Nat):Int)-(m:Int)=1 by omega)];simp only[cond_true,cond_false];exact mrg2 l a m h
  rw[beq_f (show ¬(b:Int)-(m:Int)=1 by omega)];simp only[cond_false];rw[half a b (by omega)];generalize hmid:(a+b) / 2=mid;rw[qc (n:=(mid:Int)+(m:Int)) (by omega) (by omega)];obtain⟨s0,r0,hst,g1,g2,g3,g4⟩:∃s0 r0:Nat,(bif decide ((m:Int)>(mid:Int)) then some (((w64 ((mid:Int)+(m:Int)-(b:Int))),((mid:Int),())),()) else some (((a:Int),((m:Int),())),()))=some (((s0:Int),((r0:Int),())),())∧a≤s0∧s0≤r0∧r0≤m∧((s0=mid+m-b∧b≤mid+m∧r0=mid∧mid<m)∨(s0=a∧r0=m∧m≤mid)):=by
    by_cases c:(m:Int)>(mid:Int)
    · refine⟨mid+m-b,mid,?_,by omega,by omega,by omega,.inl ⟨rfl,by omega,rfl,by omega⟩⟩;simp only[c,decide_true,cond_true];rw[qc (by omega) (by omega),Int.ofNat_sub (by omega),Int.natCast_add]
    · refine⟨a,m,?_,by omega,by omega,by omega,.inr ⟨rfl,rfl,by omega⟩⟩;simp only[c,decide_false,cond_false]
  rw[hst];simp only[Option.bind_some]
  obtain⟨s,hb,b1,b2,b3,b4⟩:=bsearch (f:=qr (a:Int) (b:Int) (m:Int) l) (fun k=>!decide (ordI (gR l (mid+m-1-k)) (gR l k)<0)) s0 r0 g2 (fun i j k1 k2 k3=>by
    unfold qr
    have c:(i:Int)<(j:Int):=by omega
    simp only[c,decide_true,cond_true,half i j (by omega),half a b (by omega),hmid];rw[qc (n:=(mid:Int)+(m:Int)) (by omega) (by omega),qc (n:=(mid:Int)+(m:Int)-1) (by omega) (by omega),qc (n:=(mid:Int)+(m:Int)-1-_) (by omega) (by omega)]
    have e1:(mid:Int)+(m:Int)-1-(((i+j) / 2:Nat):Int)=((mid+m-1-(i+j) / 2:Nat):Int):=by omega
    rw[e1];have i1:inb (((i+j) / 2:Nat):Int) l.length=true:=inb_iff.2 (by omega);have i2:inb ((mid+m-1-(i+j) / 2:Nat):Int) l.length=true:=inb_iff.2 (by omega);have ho:qA (getD' l (mid+m-1-(i+j) / 2) rz) (getD' l ((i+j) / 2) rz)=some (ordI (gR l (mid+m-1-(i+j) / 2)) (gR l ((i+j) / 2))):=qcH _ _;unfold rz at ho;simp only[i1,i2,qo,Int.toNat_natCast,ho,Option.bind_some];by_cases c2:ordI (gR l (mid+m-1-(i+j) / 2)) (gR l ((i+j) / 2))<0
    · simp only[c2,decide_true,Bool.not_true,cond_false,Option.bind_some];rfl
    · simp only[c2,decide_false,Bool.not_false,cond_true,if_true,Option.bind_some];rw[qc (by omega) (by omega)];rfl) (fun i=>by
    unfold qr
    simp)
  rw[hb];simp only[Option.bind_some];rw[qc (n:=(mid:Int)+(m:Int)-(s:Int)) (by omega) (by omega)];obtain⟨e,he,e1,e2⟩:∃e:Nat,(mid:Int)+(m:Int)-(s:Int)=(e:Int)∧e=mid+m-s∧s≤mid+m:=⟨mid+m-s,by omega,rfl,by omega⟩;rw[he]
  have q1:a≤s∧s≤m∧m≤e∧e≤b∧s≤mid∧mid≤e∧s+(e-m)=mid∧a<mid∧mid<b:=by omega
  obtain⟨q1,q2,q3,q4,q5,q6,q7,q8,q9⟩:=q1;have fA:∀x y,a≤x→x<s→e≤y→y<b→Pr (gR l x) (gR l y):=by
    intro x y x1 x2 y1 y2;rcases b3 with b3 | b3
    · omega
    have e3:mid+m-1-(s-1)=e:=by omega
    have hq:=(pr_of (h6 (s-1) e (by omega) (by omega) (by omega) (by omega))).2 (by rw[e3] at b3;simpa using b3);exact h4.le x1 (by omega) (by omega) (h5.ge (by omega) y1 y2 hq)
  have fB:∀u v,m≤u→u<e→s≤v→v<m→Pr (gR l u) (gR l v):=by
    intro u v u1 u2 v1 v2;rcases b4 with b4 | b4
    · omega
    have e3:mid+m-1-s=e-1:=by omega
    have hq:=(pr_of (h6 s (e-1) (by omega) (by omega) (by omega) (by omega))).1 (by rw[e3] at b4;simpa using b4);exact h5.le u1 (by omega) (by omega) (h4.ge (by omega) v1 v2 hq)
  obtain⟨d,hd,d1,d2,d3⟩:∃d:List Rw,(bif decide ((s:Int)<(m:Int))&&decide ((m:Int)<(e:Int)) then Option.bind (qq l (s:Int) (m:Int) (e:Int)) fun r26=>some ((),(r26.1,())) else some ((),(l,())))=some ((),(d,()))∧d.length=l.length∧d.Perm l∧∀k,gR d k=gR l (rotI s m e k):=by
    by_cases c:s<m∧m<e
    · obtain⟨r,hr,r1,r2,r3⟩:=qie l s m e hs c.1 c.2 (by omega);refine⟨r,?_,r1,r2,r3⟩;rw[hr];simp only[show(s:Int)<(m:Int) by omega,show(m:Int)<(e:Int) by omega,decide_true,Bool.and_true,cond_true,Option.bind_some]
    · refine⟨l,?_,rfl,List.Perm.refl _,fun k=>congrArg (gR l) ?_⟩
      · have:(decide ((s:Int)<(m:Int))&&decide ((m:Int)<(e:Int)))=false:=by
          rw[Bool.and_eq_false_iff,decide_eq_false_iff_not,decide_eq_false_iff_not];omega
        rw[this];rfl
      · unfold rotI
        (repeat' split)<;>omega
  rw[hd];simp only[Option.bind_some]
  have v1:∀k,k<s→gR d k=gR l k:=fun k hk=>by rw[d3];exact congrArg (gR l) (by unfold rotI; (repeat' split)<;>omega)
  have v2:∀k,s≤k→k<mid→gR d k=gR l (k-s+m):=fun k k1 k2=>by rw[d3];exact congrArg (gR l) (by unfold rotI; (repeat' split)<;>omega)
  have v3:∀k,mid≤k→k<e→gR d k=gR l (k-(e-m)):=fun k k1 k2=>by rw[d3];exact congrArg (gR l) (by unfold rotI; (repeat' split)<;>omega)
  have v4:∀k,e≤k→gR d k=gR l k:=fun k k1=>by rw[d3];exact congrArg (gR l) (by unfold rotI; (repeat' split)<;>omega)
  have p1:Srt d a s:=fun x y x1 x2 x3=>by rw[v1 x (by omega),v1 y x3];exact h4 x y x1 x2 (by omega)
  have p2:Srt d s mid:=fun x y x1 x2 x3=>by rw[v2 x x1 (by omega),v2 y (by omega) x3];exact h5 _ _ (by omega) (by omega) (by omega)
  have p3:Srt d mid e:=fun x y x1 x2 x3=>by rw[v3 x x1 (by omega),v3 y (by omega) x3];exact h4 _ _ (by omega) (by omega) (by omega)
  have p4:Srt d e b:=fun x y x1 x2 x3=>by rw[v4 x x1,v4 y (by omega)];exact h5 _ _ (by omega) x2 x3
  have p5:∀x y,a≤x→x<mid→mid≤y→y<b→Pr (gR d x) (gR d y):=by
    intro x y x1 x2 y1 y2;by_cases cx:x<s
    · rw[v1 x cx];by_cases cy:y<e
      · rw[v3 y y1 cy];exact h4 _ _ x1 (by omega) (by omega)
      · rw[v4 y (by omega)];exact fA x y x1 cx (by omega) y2
    · rw[v2 x (by omega) x2];by_cases cy:y<e
      · rw[v3 y y1 cy];exact fB _ _ (by omega) (by omega) (by omega) (by omega)
      · rw[v4 y (by omega)];exact h5 _ _ (by omega) (by omega) y2
  have p6:∀k,a≤k→k<b→∃k',a≤k'∧k'<b∧gR d k=gR l k':=fun k k1 k2=>⟨rotI s m e k,by unfold rotI; (repeat' split)<;>omega,by unfold rotI; (repeat' split)<;>omega,d3 k⟩
  have p7:∀k,k<a∨b≤k→gR d k=gR l k:=fun k hk=>by rw[d3];exact congrArg (gR l) (by unfold rotI; (repeat' split)<;>omega)
  obtain⟨u,hu,u1,u2,u3,u4,u5⟩:∃u:List Rw,(bif decide ((a:Int)<(s:Int))&&decide ((s:Int)<(mid:Int)) then Option.bind (self (d,(),(a:Int),(s:Int),(mid:Int),())) fun r28=>some ((),(r28.1,())) else some ((),(d,())))=some ((),(u,()))∧Mrg d a mid u:=by
    by_cases c:a<s∧s<mid
    · obtain⟨r,hr,r1⟩:=ih d a s mid ⟨by omega,c.1,c.2,by omega,p1,p2,fun x y x1 x2 y1 y2=>by
        rw[v1 x x2,v2 y y1 y2];exact h6 _ _ x1 (by omega) (by omega) (by omega)⟩ (by omega)
      refine⟨r,?_,r1⟩;rw[hr];simp only[show(a:Int)<(s:Int) by omega,show(s:Int)<(mid:Int) by omega,decide_true,Bool.and_true,cond_true,Option.bind_some]
    · refine⟨d,?_,rfl,List.Perm.refl _,fun _ _=>rfl,fun x y x1 x2 x3=>?_,fun k k1 k2=>⟨k,k1,k2,rfl⟩⟩
      · have:(decide ((a:Int)<(s:Int))&&decide ((s:Int)<(mid:Int)))=false:=by
          rw[Bool.and_eq_false_iff,decide_eq_false_iff_not,decide_eq_false_iff_not];omega
        rw[this];rfl
      · by_cases c':a<s
        · exact p1 x y x1 x2 (by omega)
        · exact p2 x y (by omega) x2 x3
  rw[hu];simp only[Option.bind_some];obtain⟨w,hw,w1,w2,w3,w4,w5⟩:∃w:List Rw,(bif decide ((mid:Int)<(e:Int))&&decide ((e:Int)<(b:Int)) then Option.bind (self (u,(),(mid:Int),(e:Int),(b:Int),())) fun r30=>some ((),(r30.1,())) else some ((),(u,())))=some ((),(w,()))∧Mrg u mid b w:=by
    by_cases c:mid<e∧e<b
    · obtain⟨r,hr,r1⟩:=ih u mid e b ⟨by omega,c.1,c.2,by omega,fun x y x1 x2 x3=>by
          rw[u3 x (by omega),u3 y (by omega)];exact p3 x y x1 x2 x3,fun x y x1 x2 x3=>by
          rw[u3 x (by omega),u3 y (by omega)];exact p4 x y x1 x2 x3,fun x y x1 x2 y1 y2=>by
        rw[u3 x (by omega),u3 y (by omega),v3 x x1 x2,v4 y y1];exact h6 _ _ (by omega) (by omega) (by omega) (by omega)⟩ (by omega)
      refine⟨r,?_,r1⟩;rw[hr];simp only[show(mid:Int)<(e:Int) by omega,show(e:Int)<(b:Int) by omega,decide_true,Bool.and_true,cond_true,Option.bind_some]
    · refine⟨u,?_,rfl,List.Perm.refl _,fun _ _=>rfl,fun x y x1 x2 x3=>?_,fun k k1 k2=>⟨k,k1,k2,rfl⟩⟩
      · have:(decide ((mid:Int)<(e:Int))&&decide ((e:Int)<(b:Int)))=false:=by
          rw[Bool.and_eq_false_iff,decide_eq_false_iff_not,decide_eq_false_iff_not];omega
        rw[this];rfl
      · rw[u3 x (by omega),u3 y (by omega)];by_cases c':mid<e
        · exact p3 x y x1 x2 (by omega)
        · exact p4 x y (by omega) x2 x3
  rw[hw];refine⟨w,rfl,by omega,(w2.trans u2).trans d2,fun k hk=>?_,fun x y x1 x2 x3=>?_,fun k k1 k2=>?_⟩
  · rw[w3 k (by omega),u3 k (by omega),p7 k hk]
  · by_cases cy:y<mid
    · rw[w3 x (by omega),w3 y (by omega)];exact u4 x y x1 x2 cy
    · by_cases cx:x<mid
      · rw[w3 x (by omega)];obtain⟨x',xa,xb,xe⟩:=u5 x x1 cx;obtain⟨y',ya,yb,ye⟩:=w5 y (by omega) x3;rw[xe,ye,u3 y' (by omega)];exact p5 x' y' xa xb ya yb
      · exact w4 x y (by omega) x2 x3
  · by_cases ck:k<mid
    · rw[w3 k (by omega)];obtain⟨k',ka,kb,ke⟩:=u5 k k1 ck;obtain⟨k2',k2a,k2b,k2e⟩:=p6 k' ka (by omega);exact⟨k2',k2a,k2b,ke.trans k2e⟩
    · obtain⟨k',ka,kb,ke⟩:=w5 k (by omega) k2;obtain⟨k2',k2a,k2b,k2e⟩:=p6 k' (by omega) kb;exact⟨k2',k2a,k2b,by rw[ke,u3 k' (by omega)];exact k2e⟩
theorem qg3 (l:List Rw) (a m b:Nat) (h:MPre l a m b):∃r,qw l (a:Int) (m:Int) (b:Int)=some (r,())∧Mrg l a b r:=by
  have key:=fixW_rel qaY
    (fun x=>∃(l:List Rw) (a m b:Nat),x=(l,(),(a:Int),(m:Int),(b:Int),())∧MPre l a m b)
    (fun x=>x.2.2.2.2.1.toNat-x.2.2.1.toNat)
    (fun x r=>Mrg x.1 x.2.2.1.toNat x.2.2.2.2.1.toNat r.1) ?h (l,(),(a:Int),(m:Int),(b:Int),()) ⟨l,a,m,b,rfl,h⟩
  · obtain⟨⟨r,⟨⟩⟩,hr,hq⟩:=key;exact⟨r,hr,by simpa using hq⟩
  · rintro φ x ⟨l,a,m,b,rfl,hm⟩ ih
    obtain⟨r,hr,hq⟩:=qg8 φ l a m b hm fun l' a' m' b' h1 h2=>by
      obtain⟨⟨r,⟨⟩⟩,hr,hq⟩:=ih (l',(),(a':Int),(m':Int),(b':Int),()) ⟨l',a',m',b',rfl,h1⟩ (by simpa using h2);exact⟨r,hr,by simpa using hq⟩
    exact⟨(r,()),hr,by simpa using hq⟩
theorem qil (l:List Rw) (hn:l.length≤32) (h0:∀k,k<l.length→(gR l k).1=(k:Int)) :
    ∃r,qB l ((l.length:Nat):Int)=some (r,())∧r.length=l.length∧r.Perm l∧Srt r 0 l.length:=by
  unfold qB;by_cases c:l.length<20
  · rw[qF (r:=((((0:Int),()),(l,())))) (by
      unfold qv
      have:¬((20:Int)≤((l.length:Nat):Int)):=by omega
      simp only[this,decide_false,cond_false])]
    simp only[Option.bind_some];obtain⟨r,hr,r1,r2,r3,r4,r5⟩:=qcD l 0 l.length (by omega) (Nat.zero_le _) (Nat.le_refl _) (fun k _ hk=>h0 k hk);rw[show((0:Nat):Int)=0 from rfl] at hr;rw[hr];simp only[Option.bind_some]
    rw[qF (r:=((),(r,()))) (by
      unfold qn
      have:¬((20:Int)<((l.length:Nat):Int)):=by omega
      simp only[this,decide_false,cond_false])]
    exact⟨r,rfl,r1,r2,r4⟩
  obtain⟨r,hr,r1,r2,r3,r4,r5⟩:=qcD l 0 20 (by omega) (Nat.zero_le _) (by omega) (fun k _ hk=>h0 k (by omega));rw[show((0:Nat):Int)=0 from rfl,show((20:Nat):Int)=20 from rfl] at hr
  rw[qbb (y:=((((20:Int),((40:Int),())),(r,())))) (by
      unfold qv
      have:((20:Int)≤((l.length:Nat):Int)):=by omega
      simp only[this,decide_true,cond_true,hr,Option.bind_some];rw[qc (by omega) (by omega)]
      rfl),
    qF (r:=((((20:Int),()),(r,())))) (by
      unfold qv
      have:¬((40:Int)≤((l.length:Nat):Int)):=by omega
      simp only[this,decide_false,cond_false])]
  simp only[Option.bind_some];obtain⟨t,ht,t1,t2,t3,t4,t5⟩:=qcD r 20 l.length (by omega) (by omega) (by omega) (fun k k1 k2=>by rw[r3 k (by omega)];exact h0 k (by omega));rw[show((20:Nat):Int)=20 from rfl] at ht;rw[ht];simp only[Option.bind_some];by_cases c2:l.length=20
  · rw[qF (r:=((),(t,()))) (by
      unfold qn
      have:¬((20:Int)<((l.length:Nat):Int)):=by omega
      simp only[this,decide_false,cond_false])]
    refine⟨t,rfl,by omega,t2.trans r2,fun x y x1 x2 x3=>?_⟩;rw[t3 x (by omega),t3 y (by omega)];exact r4 x y x1 x2 (by omega)
  obtain⟨u,hu,u1,u2,u3,u4,u5⟩:=qg3 t 0 20 l.length ⟨by omega,by omega,by omega,by omega,fun x y x1 x2 x3=>by
      rw[t3 x (by omega),t3 y (by omega)];exact r4 x y x1 x2 x3,t4,fun x y x1 x2 y1 y2=>by
      rw[t3 x (by omega)];have:=r5 x x1 x2;have:=t5 y y1 y2
      omega⟩
  rw[show((0:Nat):Int)=0 from rfl,show((20:Nat):Int)=20 from rfl] at hu
  rw[qbb (y:=((((40:Int),()),(u,())))) (by
      unfold qn
      have:((20:Int)<((l.length:Nat):Int)):=by omega
      simp only[this,decide_true,cond_true];rw[qc (n:=(2:Int)*20) (by omega) (by omega)]
      rw[qF (r:=((((0:Int),()),(t,())))) (by
        unfold qai
        have:¬((2:Int)*20≤((l.length:Nat):Int)):=by omega
        simp only[this,decide_false,cond_false])]
      simp only[Option.bind_some];rw[qc (n:=(0:Int)+20) (by omega) (by omega),qc (n:=(20:Int)*2) (by omega) (by omega)]
      have:((0:Int)+20<((l.length:Nat):Int)):=by omega
      simp only[this,decide_true,cond_true];rw[show(0:Int)+20=20 from rfl,hu]
      rfl),
    qF (r:=((),(u,()))) (by
      unfold qn
      have:¬((40:Int)<((l.length:Nat):Int)):=by omega
      simp only[this,decide_false,cond_false])]
  exact⟨u,rfl,by omega,(u2.trans t2).trans r2,u4⟩

theorem qbB {A S T R:Type} (xs:List A) (f:T→Option (T ⊕ R)) (st:Nat→S→T) (h:S→A→S) (fin:S→R) (I:Nat→S→Prop)
    (hs:∀i (hi:i<xs.length) s,I i s→f (st i s)=some (.inl (st (i+1) (h s xs[i]))))
    (hI:∀i (hi:i<xs.length) s,I i s→I (i+1) (h s xs[i]))
    (he:∀s,I xs.length s→f (st xs.length s)=some (.inr (fin s))) (s0:S) (h0:I 0 s0) :
    iterW f (st 0 s0)=some (fin (xs.foldl h s0))∧I xs.length (xs.foldl h s0):=by
  have key:∀k i s,i+k=xs.length→I i s→iterW f (st i s)=some (fin ((xs.drop i).foldl h s))∧I xs.length ((xs.drop i).foldl h s):=by
    intro k
    induction k with
    | zero =>
      intro i s hi hs'
      have:i=xs.length:=by omega
      subst this;rw[qF (he s hs'),List.drop_length];exact⟨rfl,hs'⟩
    | succ k ih =>
      intro i s hi hs'
      have hlt:i<xs.length:=by omega
      rw[qbb (hs i hlt s hs'),List.drop_eq_getElem_cons hlt];exact ih (i+1) _ (by omega) (hI i hlt s hs')
  have:=key xs.length 0 s0 (by omega) h0
  rwa [List.drop_zero] at this

abbrev Gm:=Int×Int×Int×Unit
def gmOK (n:Nat) (g:Gm):Prop:=0≤g.1∧g.1<(n:Int)∧0≤g.2.1∧g.2.1<(n:Int)∧g.1≠g.2.1∧0≤g.2.2.1∧g.2.2.1≤2
def GOK (n:Nat) (gs:List Gm):Prop:=1≤n∧n≤32∧gs.length≤60∧∀g∈gs,gmOK n g
def ptS (p:Nat) (acc:Int) (g:Gm):Int:=if g.1=(p:Int) then w64 (acc+g.2.2.1) else if g.2.1=(p:Int) then w64 (acc+w64 (2-g.2.2.1)) else acc
def ptOf (gs:List Gm) (p:Nat):Int:=gs.foldl (ptS p) 0
def ptF (s:List Int) (g:Gm):List Int:=(s.set g.1.toNat (w64 (getD' s g.1.toNat 0+g.2.2.1))).set g.2.1.toNat (w64 (getD' (s.set g.1.toNat (w64 (getD' s g.1.toNat 0+g.2.2.1))) g.2.1.toNat 0+w64 (2-g.2.2.1)))
theorem gI_set {l:List Int} {i:Nat} (hi:i<l.length) (x:Int) (k:Nat):getD' (l.set i x) k 0=if k=i then x else getD' l k 0:=by
  unfold getD';rw[List.getD_eq_getElem?_getD,List.getElem?_set,List.getD_eq_getElem?_getD];by_cases h:i=k
  · rw[if_pos h,if_pos hi,if_pos h.symm];rfl
  · rw[if_neg h,if_neg (fun e=>h e.symm)]
theorem ptF_get {n:Nat}:∀(gs:List Gm) (s:List Int),(∀g∈gs,gmOK n g)→s.length=n→(gs.foldl ptF s).length=n∧∀p,p<n→getD' (gs.foldl ptF s) p 0=gs.foldl (ptS p) (getD' s p 0)
  | [],s,_,hl=>⟨hl,fun p _=>rfl⟩
  | g::gs,s,h,hl=>by
    obtain⟨h1,h2,h3,h4,h5,h6,h7⟩:=h g (List.mem_cons_self)
    have hl':(ptF s g).length=n:=by simp[ptF,hl]
    obtain⟨a,b⟩:=ptF_get gs (ptF s g) (fun g' hg=>h g' (List.mem_cons_of_mem _ hg)) hl';refine⟨a,fun p hp=>?_⟩;rw[List.foldl_cons,b p hp,List.foldl_cons];congr 1;unfold ptF ptS;rw[gI_set (by rw[List.length_set];omega),gI_set (by omega),gI_set (by omega)];by_cases c1:g.1=(p:Int)
    · rw[if_pos c1,if_neg (by omega),if_pos (by omega)];rw[show g.1.toNat=p by omega]
    · rw[if_neg c1];by_cases c2:g.2.1=(p:Int)
      · rw[if_pos c2,if_pos (by omega),if_neg (by omega)];rw[show g.2.1.toNat=p by omega]
      · rw[if_neg c2,if_neg (by omega),if_neg (by omega)]
theorem qd9 {n:Nat} {gs:List Gm} (h:GOK n gs):∃l:List Int,qaG (n:Int) gs=some l∧l.length=n∧∀p,p<n→getD' l p 0=ptOf gs p:=by
  obtain⟨h1,h2,h3,h4⟩:=h;unfold qaG;have r1:(decide (0≤(n:Int))&&((n:Int)==(n:Int)&&room (n:Int).toNat 8))=true:=by
    rw[qg5 (by omega)];simp
  rw[r1,qo];have key:=qbB gs (qa2 gs) (fun i s=>((((i:Nat):Int),()),((s:List Int),()))) ptF (fun s=>((),(s,()))) (fun _ s=>s.length=n) (fun i hi s hs=>?_) (fun i hi s hs=>by simp[ptF,hs]) (fun s hs=>?_) (List.replicate (n:Int).toNat 0) (by simp)
  · rw[show(((0:Nat):Int))=0 from rfl] at key;rw[key.1];obtain⟨a,b⟩:=ptF_get gs (List.replicate (n:Int).toNat 0) h4 (by simp);refine⟨_,rfl,a,fun p hp=>?_⟩;rw[b p hp];unfold ptOf;congr 1;unfold getD';rw[List.getD_eq_getElem?_getD,List.getElem?_replicate]
    split<;>rfl
  · unfold qa2;obtain⟨g1,g2,g3,g4,g5,g6,g7⟩:=h4 gs[i] (List.getElem_mem hi)
    have c:(i:Int)<((gs.length:Nat):Int):=by omega
    simp only[c,decide_true,cond_true];rw[at?_eq gs _ (by omega) (by omega)];simp only[Int.toNat_natCast,Option.bind_some];have i1:inb gs[i].1 s.length=true:=inb_iff.2 (by omega);have i2:inb gs[i].2.1 s.length=true:=inb_iff.2 (by omega);simp only[List.length_set,i1,i2,qo];rw[qc (n:=(i:Int)+1) (by omega) (by omega)];rfl
  · unfold qa2;simp

abbrev Bk:=Int×Int×Int×Int×Unit
def bkG (got q:Int) (a:Bk):Bk:=(w64 (a.1+q),w64 (a.2.1+w64 (got*q)),(if got=2 then w64 (a.2.2.1+1) else a.2.2.1),a.2.2.2)
def bkS (pt:Nat→Int) (p:Nat) (a:Bk) (g:Gm):Bk :=
  if g.1=(p:Int) then bkG g.2.2.1 (pt g.2.1.toNat) a
  else if g.2.1=(p:Int) then bkG (2-g.2.2.1) (pt g.1.toNat) (a.1,a.2.1,a.2.2.1,w64 (a.2.2.2.1+1),())
  else a
def bkOf (gs:List Gm) (p:Nat):Bk:=gs.foldl (bkS (ptOf gs) p) (0,0,0,0,())
theorem qfW {n:Nat} {gs:List Gm} (h:GOK n gs) (p:Nat) (hp:p<n):qa9 (n:Int) gs (p:Int)=some (bkOf gs p):=by
  obtain⟨l,hl,l1,l2⟩:=qd9 h;obtain⟨h1,h2,h3,h4⟩:=h;unfold qa9;rw[hl];simp only[Option.bind_some];have key:=qbB gs (qaV gs (p:Int) l) (fun i a=>((((i:Nat):Int),()),((a:Bk),()))) (bkS (ptOf gs) p) (fun a=>((),(a,()))) (fun _ _=>True) (fun i hi a _=>?_) (fun _ _ _ _=>trivial) (fun a _=>?_) (0,0,0,0,()) trivial
  · rw[show(((0:Nat):Int))=0 from rfl] at key;rw[key.1];rfl
  · unfold qaV;obtain⟨g1,g2,g3,g4,g5,g6,g7⟩:=h4 gs[i] (List.getElem_mem hi)
    have c:(i:Int)<((gs.length:Nat):Int):=by omega
    simp only[c,decide_true,cond_true];rw[at?_eq gs _ (by omega) (by omega)];simp only[Int.toNat_natCast,Option.bind_some];rw[qc (n:=(i:Int)+1) (by omega) (by omega)];unfold bkS;by_cases c1:gs[i].1=(p:Int)
    · rw[if_pos c1,beq_t c1.symm];simp only[cond_true,Option.bind_some,Sum.elim_inl];have i2:inb gs[i].2.1 l.length=true:=inb_iff.2 (by omega);simp only[i2,qo];rw[l2 _ (by omega)];unfold bkG;by_cases c2:gs[i].2.2.1=2
      · rw[if_pos c2,beq_t c2];rfl
      · rw[if_neg c2,beq_f c2];rfl
    · rw[if_neg c1,beq_f (fun e=>c1 e.symm)];simp only[cond_false];by_cases c2:gs[i].2.1=(p:Int)
      · rw[if_pos c2,beq_t c2.symm];simp only[cond_true,Option.bind_some,Sum.elim_inl];have i2:inb gs[i].1 l.length=true:=inb_iff.2 (by omega);simp only[i2,qo];rw[l2 _ (by omega),qc (n:=2-gs[i].2.2.1) (by omega) (by omega)];unfold bkG;by_cases c3:2-gs[i].2.2.1=2
        · rw[if_pos c3,beq_t c3];rfl
        · rw[if_neg c3,beq_f c3];rfl
      · rw[if_neg c2,beq_f (fun e=>c2 e.symm)];rfl
  · unfold qaV;simp

def mix (n:Nat) (A B:Nat→Rw) (i:Nat):List Rw:=(List.range n).map fun q=>if q<i then A q else B q
theorem qbi (n:Nat) (A B:Nat→Rw) (i:Nat):(mix n A B i).length=n:=by simp[mix]
theorem mix_g {n:Nat} (A B:Nat→Rw) (i:Nat) {q:Nat} (hq:q<n):gR (mix n A B i) q=if q<i then A q else B q:=by
  rw[gR_lt (by rw[qbi];exact hq)];simp[mix]
theorem qgW {n:Nat} (A B:Nat→Rw) {i:Nat} (hi:i<n):(mix n A B i).set i (A i)=mix n A B (i+1):=by
  refine gR_ext (by rw[List.length_set,qbi,qbi]) fun k hk=>?_;rw[List.length_set,qbi] at hk;rw[qdm (by rw[qbi];exact hi),mix_g A B i hk,mix_g A B (i+1) hk];by_cases c:k=i
  · rw[if_pos c,if_pos (by omega),c]
  · rw[if_neg c];by_cases c2:k<i
    · rw[if_pos c2,if_pos (by omega)]
    · rw[if_neg c2,if_neg (by omega)]
theorem mix_self {n:Nat} (A B:Nat→Rw) {i:Nat} (hi:i<n):(mix n A B i).set i (B i)=mix n A B i:=by
  refine gR_ext (by rw[List.length_set]) fun k hk=>?_;rw[List.length_set,qbi] at hk;rw[qdm (by rw[qbi];exact hi),mix_g A B i hk];by_cases c:k=i
  · rw[if_pos c,if_neg (by omega),c]
  · rw[if_neg c]
theorem qhe (n:Nat) (A B:Nat→Rw):mix n A B n=(List.range n).map A:=by
  unfold mix;exact List.map_congr_left fun q hq=>if_pos (List.mem_range.1 hq)
theorem qfj (n:Nat) (A B:Nat→Rw):mix n A B 0=(List.range n).map B:=by
  unfold mix;exact List.map_congr_left fun q hq=>if_neg (by omega)
theorem mix_next (n:Nat) (A B C:Nat→Rw):mix n A B n=mix n C A 0:=by rw[qhe,qfj]
theorem hz (l:List Rw) (k:Nat):getD' l k ((0:Int),((0:Int),(((0:Int),((0:Int),((0:Int),((0:Int),())))),((0:Int),((0:Int),())))))=gR l k:=rfl
def rowA (gs:List Gm) (p:Nat):Rw:=((p:Int),(ptOf gs p,((0,0,0,0,()),(0,0,()))))
def rowB (gs:List Gm) (p:Nat):Rw:=((p:Int),(ptOf gs p,(bkOf gs p,(0,0,()))))

theorem rows1 {n:Nat} {gs:List Gm} (h:GOK n gs):iterW (qcc (n:Int) gs) (((0:Int),()),((List.replicate (n:Int).toNat rz),()))=some ((),(mix n (rowA gs) (fun _=>rz) n,())):=by
  obtain⟨h1,h2,h3,h4⟩:=h;have e0:List.replicate (n:Int).toNat rz=mix n (rowA gs) (fun _=>rz) 0:=by
    rw[qfj];exact(List.eq_replicate_iff.2 ⟨by simp,by simp⟩).symm
  rw[e0];refine qC (f:=qcc (n:Int) gs) n (fun i=>((((i:Nat):Int),()),(mix n (rowA gs) (fun _=>rz) i,()))) _ (fun i hi=>?_) ?_
  · unfold qcc;have c:(i:Int)<(((List.replicate (n:Int).toNat ((0:Int),((0:Int),(((0:Int),((0:Int),((0:Int),((0:Int),())))),((0:Int),((0:Int),())))))).length:Nat):Int):=by
      rw[List.length_replicate];omega
    simp only[c,decide_true,cond_true,hz];have i1:inb (i:Int) (mix n (rowA gs) (fun _=>rz) i).length=true:=inb_iff.2 (by rw[qbi];omega);simp only[i1,qo,Int.toNat_natCast,Option.bind_some];rw[mix_g _ _ _ hi,if_neg (by omega)];have key:=qbB gs (qb9 gs (((i:Int),()),(mix n (rowA gs) (fun _=>rz) i,()))) (fun j acc=>((((j:Nat):Int),()),((mix n (rowA gs) (fun _=>rz) i).set i (((i:Int),(acc,((0,0,0,0,()),(0,0,()))))),()))) (ptS i) (fun acc=>((),((mix n (rowA gs) (fun _=>rz) i).set i (((i:Int),(acc,((0,0,0,0,()),(0,0,()))))),()))) (fun _ _=>True) (fun j hj acc _=>?_) (fun _ _ _ _=>trivial) (fun acc _=>?_) 0 trivial
    · rw[show(((0:Nat):Int))=0 from rfl] at key;have key1:=key.1;show Option.bind (Option.bind (iterW (qb9 gs (((i:Int),()),(mix n (rowA gs) (fun _=>rz) i,()))) (((0:Int),()),((mix n (rowA gs) (fun _=>rz) i).set i (((i:Int),((0:Int),((0,0,0,0,()),(0,0,()))))),()))) _) _=_;rw[key1];simp only[Option.bind_some];rw[qc (by omega) (by omega)];have:(mix n (rowA gs) (fun _=>rz) i).set i ((i:Int),(gs.foldl (ptS i) 0,((0,0,0,0,()),(0,0,()))))=mix n (rowA gs) (fun _=>rz) (i+1):=qgW (rowA gs) _ hi;rw[this];rfl
    · unfold qb9;obtain⟨g1,g2,g3,g4,g5,g6,g7⟩:=h4 gs[j] (List.getElem_mem hj)
      have c:(j:Int)<((gs.length:Nat):Int):=by omega
      simp only[c,decide_true,cond_true];rw[at?_eq gs _ (by omega) (by omega)];simp only[Int.toNat_natCast,Option.bind_some,hz];rw[qc (n:=(j:Int)+1) (by omega) (by omega)];have hl:(mix n (rowA gs) (fun _=>rz) i).length=n:=qbi _ _ _ _;generalize mix n (rowA gs) (fun _=>rz) i=d at hl;have i1:∀x,inb (i:Int) (d.set i x).length=true:=fun x=>inb_iff.2 (by rw[List.length_set];omega)
      have g0:∀x,gR (d.set i x) i=x:=fun x=>by rw[qdm (by omega),if_pos rfl]
      unfold ptS;by_cases c1:gs[j].1=(i:Int)
      · rw[if_pos c1,beq_t c1,beq_f (show ¬gs[j].2.1=(i:Int) by omega)];simp only[cond_true,i1,qo,g0,Option.bind_some,cond_false,List.set_set];rfl
      · rw[if_neg c1,beq_f c1];simp only[cond_false,Option.bind_some];by_cases c2:gs[j].2.1=(i:Int)
        · rw[if_pos c2,beq_t c2];simp only[cond_true,i1,qo,g0,Option.bind_some,List.set_set];rfl
        · rw[if_neg c2,beq_f c2];rfl
    · unfold qb9;simp
  · unfold qcc;simp

theorem agS {α:Type} (x:Option α):agree x x=x:=if_pos rfl
theorem qh0 (a b:Rw):qcI a b=some (decide (ordI a b<0)):=by
  unfold qcI;have hr:∀x y1 y2 y3 y4:Int,room (([x]).length+([y1,y2,y3,y4]:List Int).length) 8=true:=fun _ _ _ _ _=>rfl;simp only[hr,qo,agS,Option.bind_some];have e1:([a.2.1]++([a.2.2.1.1,a.2.2.1.2.1,a.2.2.1.2.2.1,a.2.2.1.2.2.2.1]:List Int))=keyR a:=rfl;have e2:([b.2.1]++([b.2.2.1.1,b.2.2.1.2.1,b.2.2.1.2.2.1,b.2.2.1.2.2.2.1]:List Int))=keyR b:=rfl;rw[e1,e2];unfold ordI;have h5:(keyR a).length=5:=rfl;have h6:(keyR b).length=5:=rfl;generalize keyR a=s at h5;generalize keyR b=t at h6;rw[qgF (β:=(Unit×Unit) ⊕ Bool) s.length (qb0 ((s,(t,())),())) (fun i=>if s.getD i 0=t.getD i 0 then none else some (.inr (decide (s.getD i 0>t.getD i 0)))) (.inl ((),())) (fun i hi=>?a) ?b]
  · have key:∀k i,i+k=5→scan (β:=(Unit×Unit) ⊕ Bool) (fun i=>if s.getD i 0=t.getD i 0 then none else some (.inr (decide (s.getD i 0>t.getD i 0)))) (.inl ((),())) i k=if cmpK (t.drop i) (s.drop i)=0 then .inl ((),()) else .inr (decide (cmpK (t.drop i) (s.drop i)<0)):=by
      intro k
      induction k with
      | zero =>
        intro i hi;rw[List.drop_eq_nil_of_le (by omega),List.drop_eq_nil_of_le (by omega)];rfl
      | succ k ih =>
        intro i hi;have:=ih (i+1) (by omega);unfold scan;rw[List.drop_eq_getElem_cons (show i<s.length by omega),List.drop_eq_getElem_cons (show i<t.length by omega),List.getD_eq_getElem?_getD,List.getD_eq_getElem?_getD,List.getElem?_eq_getElem (show i<s.length by omega),List.getElem?_eq_getElem (show i<t.length by omega)];simp only[Option.getD_some];unfold cmpK;by_cases a1:s[i]=t[i]
        · have n1:¬t[i]<s[i]:=by omega
          have n2:¬s[i]<t[i]:=by omega
          simp only[if_pos a1,if_neg n1,if_neg n2];exact this
        · rw[if_neg a1];by_cases a2:t[i]<s[i]
          · simp[a2]
          · have:s[i]<t[i]:=by omega
            simp[a2,this]
    rw[h5,key 5 0 rfl];simp only[List.drop_zero,Option.bind_some];by_cases c:cmpK t s=0
    · rw[if_pos c,c];simp
    · rw[if_neg c];rfl
  case a =>
    unfold qb0
    have h1:(i:Int)<((s.length:Nat):Int):=by omega
    simp only[h1,decide_true,cond_true];have i1:inb (i:Int) s.length=true:=inb_iff.2 (by omega);have i2:inb (i:Int) t.length=true:=inb_iff.2 (by omega);simp only[i1,i2,qo,Int.toNat_natCast];by_cases c:s.getD i 0=t.getD i 0
    · rw[if_pos c,bne_f (show getD' s i 0=getD' t i 0 from c)];simp only[cond_false];rw[qc (by omega) (by omega)];rfl
    · rw[if_neg c,bne_t (show ¬getD' s i 0=getD' t i 0 from c)];rfl
  case b =>
    unfold qb0;simp

theorem rows2 {n:Nat} {gs:List Gm} (h:GOK n gs) (x14:Unit×(List Rw×Unit)) (hx:x14.2.1.length=n):iterW (qce x14 gs) (((0:Int),()),(mix n (rowB gs) (rowA gs) 0,()))=some ((),(mix n (rowB gs) (rowA gs) n,())):=by
  obtain⟨h1,h2,h3,h4⟩:=h;refine qC (f:=qce x14 gs) n (fun i=>((((i:Nat):Int),()),(mix n (rowB gs) (rowA gs) i,()))) _ (fun i hi=>?_) ?_
  · unfold qce
    have c:(i:Int)<((x14.2.1.length:Nat):Int):=by omega
    simp only[c,decide_true,cond_true,hz];have i1:inb (i:Int) (mix n (rowB gs) (rowA gs) i).length=true:=inb_iff.2 (by rw[qbi];omega);simp only[i1,qo,Int.toNat_natCast];have hq:∀q,q<n→(gR (mix n (rowB gs) (rowA gs) i) q).2.1=ptOf gs q:=fun q hq=>by
      rw[mix_g _ _ _ hq];split<;>rfl
    have key:=qbB gs (qc6 gs (((i:Int),()),(mix n (rowB gs) (rowA gs) i,()))) (fun j acc=>((((j:Nat):Int),()),((mix n (rowB gs) (rowA gs) i).set i (((i:Int),(ptOf gs i,(acc,(0,0,()))))),()))) (bkS (ptOf gs) i) (fun acc=>((),((mix n (rowB gs) (rowA gs) i).set i (((i:Int),(ptOf gs i,(acc,(0,0,()))))),()))) (fun j acc=>0≤acc.2.2.1∧acc.2.2.1≤(j:Int)) (fun j hj acc hacc=>?_) (fun j hj acc hacc=>?_) (fun acc _=>?_) ((0,0,0,0,()):Bk) ⟨by simp,by simp⟩
    · rw[show(((0:Nat):Int))=0 from rfl] at key;have e0:(mix n (rowB gs) (rowA gs) i).set i ((i:Int),(ptOf gs i,((0,0,0,0,()),(0,0,()))))=mix n (rowB gs) (rowA gs) i:=mix_self _ _ hi;have key1:=key.1;rw[e0] at key1;rw[key1];simp only[Option.bind_some];rw[qc (by omega) (by omega)];have:(mix n (rowB gs) (rowA gs) i).set i ((i:Int),(ptOf gs i,(gs.foldl (bkS (ptOf gs) i) (0,0,0,0,()),(0,0,()))))=mix n (rowB gs) (rowA gs) (i+1):=qgW (rowB gs) _ hi;rw[this];rfl
    · unfold qc6;obtain⟨g1,g2,g3,g4,g5,g6,g7⟩:=h4 gs[j] (List.getElem_mem hj)
      have c:(j:Int)<((gs.length:Nat):Int):=by omega
      simp only[c,decide_true,cond_true];rw[at?_eq gs _ (by omega) (by omega)];simp only[Int.toNat_natCast,Option.bind_some,hz];rw[qc (n:=(j:Int)+1) (by omega) (by omega)];have hl:(mix n (rowB gs) (rowA gs) i).length=n:=qbi _ _ _ _;generalize mix n (rowB gs) (rowA gs) i=d at hl hq;have i1:∀x,inb (i:Int) (d.set i x).length=true:=fun x=>inb_iff.2 (by rw[List.length_set];omega)
      have g0:∀x,gR (d.set i x) i=x:=fun x=>by rw[qdm (by omega),if_pos rfl]
      have gq:∀(x:Rw) (q:Nat),q<n→q≠i→(gR (d.set i x) q).2.1=ptOf gs q:=fun x q q1 q2=>by rw[qdm (by omega),if_neg q2];exact hq q q1
      unfold bkS;by_cases c1:gs[j].1=(i:Int)
      · rw[if_pos c1,beq_t c1.symm];have i2:∀x,inb gs[j].2.1 (d.set i x).length=true:=fun x=>inb_iff.2 (by rw[List.length_set];omega);simp only[cond_true,i1,i2,qo,g0,gq _ gs[j].2.1.toNat (by omega) (by omega),Option.bind_some,cond_false,List.set_set];unfold bkG;rw[Int.mul_comm];by_cases c2:gs[j].2.2.1=2
        · rw[if_pos c2,c2];rfl
        · rw[if_neg c2];have:gs[j].2.2.1.tdiv 2=0:=by
            rw[Int.tdiv_eq_ediv_of_nonneg g6];omega
          rw[this,qc (n:=0) (by omega) (by omega),qc (n:=acc.2.2.1+0) (by omega) (by omega),Int.add_zero];rfl
      · rw[if_neg c1,beq_f (fun e=>c1 e.symm)];simp only[cond_false];by_cases c2:gs[j].2.1=(i:Int)
        · rw[if_pos c2,beq_t c2.symm];have i2:∀x,inb gs[j].1 (d.set i x).length=true:=fun x=>inb_iff.2 (by rw[List.length_set];omega);simp only[cond_true,i1,i2,qo,g0,gq _ gs[j].1.toNat (by omega) (by omega),Option.bind_some,cond_false,List.set_set];rw[qc (n:=2-gs[j].2.2.1) (by omega) (by omega)];unfold bkG;rw[Int.mul_comm];by_cases c3:2-gs[j].2.2.1=2
          · rw[if_pos c3,c3];rfl
          · rw[if_neg c3];have:(2-gs[j].2.2.1).tdiv 2=0:=by
              rw[Int.tdiv_eq_ediv_of_nonneg (by omega)];omega
            rw[this,qc (n:=0) (by omega) (by omega),qc (n:=acc.2.2.1+0) (by omega) (by omega),Int.add_zero];rfl
        · rw[if_neg c2,beq_f (fun e=>c2 e.symm)];rfl
    · obtain⟨g1,g2,g3,g4,g5,g6,g7⟩:=h4 gs[j] (List.getElem_mem hj);have hw:w64 (acc.2.2.1+1)=acc.2.2.1+1:=qc (by omega) (by omega);unfold bkS;split
      · unfold bkG
        dsimp only
        rw[hw]
        split<;>omega
      · split
        · unfold bkG
          dsimp only
          rw[hw]
          split<;>omega
        · omega
    · unfold qc6;simp
  · unfold qce;simp[hx]

def cLt (l:List Rw) (e:Rw):Nat:=l.countP fun x=>decide (ordI x e<0)
def cLe (l:List Rw) (e:Rw):Nat:=l.countP fun x=>decide (ordI x e≤0)
def fin (l:List Rw) (e:Rw):Rw:=(e.1,(e.2.1,(e.2.2.1,((1+(cLt l e:Int)),((cLe l e:Int),())))))
theorem keyE {x y:Rw} (h1:x.2.1=y.2.1) (h2:x.2.2.1=y.2.2.1):keyR x=keyR y:=by unfold keyR;rw[h1,h2]
theorem fin_key (l:List Rw) (e:Rw):keyR (fin l e)=keyR e:=keyE rfl rfl
theorem qg2 {x y x' y':Rw} (h1:keyR x=keyR x') (h2:keyR y=keyR y'):ordI x y=ordI x' y':=by unfold ordI;rw[h1,h2]
theorem qit (l:List Rw) (e:Rw) {j:Nat} (hj:j<l.length):cLt (l.take (j+1)) e=cLt (l.take j) e+(if ordI (gR l j) e<0 then 1 else 0):=by
  unfold cLt;rw[List.take_succ_eq_append_getElem hj,List.countP_append,gR_lt hj];congr 1;rw[List.countP_singleton];simp
theorem qiH (l:List Rw) (e:Rw) {j:Nat} (hj:j<l.length):cLe (l.take (j+1)) e=cLe (l.take j) e+(if ordI (gR l j) e≤0 then 1 else 0):=by
  unfold cLe;rw[List.take_succ_eq_append_getElem hj,List.countP_append,gR_lt hj];congr 1;rw[List.countP_singleton];simp
theorem cLt_le (l:List Rw) (e:Rw) (j:Nat):cLt (l.take j) e≤j:=Nat.le_trans List.countP_le_length (by rw[List.length_take];omega)
theorem cLe_le (l:List Rw) (e:Rw) (j:Nat):cLe (l.take j) e≤j:=Nat.le_trans List.countP_le_length (by rw[List.length_take];omega)

theorem rows3 {n:Nat} (hn:n≤32) (l:List Rw) (hl:l.length=n) (x36:Unit×(List Rw×Unit)) (hx:x36.2.1.length=n):iterW (qcb x36) (((0:Int),()),(mix n (fun q=>fin l (gR l q)) (gR l) 0,()))=some ((),(mix n (fun q=>fin l (gR l q)) (gR l) n,())):=by
  refine qC (f:=qcb x36) n (fun i=>((((i:Nat):Int),()),(mix n (fun q=>fin l (gR l q)) (gR l) i,()))) _ (fun i hi=>?_) ?_
  · unfold qcb
    have c:(i:Int)<((x36.2.1.length:Nat):Int):=by omega
    simp only[c,decide_true,cond_true,hz];have hL:(mix n (fun q=>fin l (gR l q)) (gR l) i).length=n:=qbi _ _ _ _;have hk:∀q,q<n→keyR (gR (mix n (fun q=>fin l (gR l q)) (gR l) i) q)=keyR (gR l q):=fun q hq=>by
      rw[mix_g _ _ _ hq];split
      · exact fin_key _ _
      · rfl
    have hgi:gR (mix n (fun q=>fin l (gR l q)) (gR l) i) i=gR l i:=by rw[mix_g _ _ _ hi,if_neg (by omega)]
    have hset:(mix n (fun q=>fin l (gR l q)) (gR l) i).set i (fin l (gR l i))=mix n (fun q=>fin l (gR l q)) (gR l) (i+1):=qgW (fun q=>fin l (gR l q)) _ hi;generalize mix n (fun q=>fin l (gR l q)) (gR l) i=d at hL hk hgi hset;have i0:inb (i:Int) d.length=true:=inb_iff.2 (by omega);have i1:∀x,inb (i:Int) (d.set i x).length=true:=fun x=>inb_iff.2 (by rw[List.length_set];omega)
    have g0:∀x,gR (d.set i x) i=x:=fun x=>by rw[qdm (by omega),if_pos rfl]
    simp only[i0,i1,qo,Int.toNat_natCast,Option.bind_some,g0,List.set_set,hgi];have key:=qC (f:=qci (d.set i ((gR l i).1,((gR l i).2.1,((gR l i).2.2.1,((1:Int),((0:Int),())))))) (((i:Int),()),(d,()))) n (fun j=>((((j:Nat):Int),()),(d.set i ((gR l i).1,((gR l i).2.1,((gR l i).2.2.1,((1+(cLt (l.take j) (gR l i):Int)),((cLe (l.take j) (gR l i):Int),()))))),()))) ((),(d.set i (fin l (gR l i)),())) (fun j hj=>?_) ?_
    · rw[show(((0:Nat):Int))=0 from rfl] at key;have:iterW (qci (d.set i ((gR l i).1,((gR l i).2.1,((gR l i).2.2.1,((1:Int),((0:Int),())))))) (((i:Int),()),(d,()))) (((0:Int),()),(d.set i ((gR l i).1,((gR l i).2.1,((gR l i).2.2.1,((1:Int),((0:Int),()))))),()))=_:=key;rw[this];simp only[Option.bind_some];rw[qc (by omega) (by omega),hset];rfl
    · unfold qci
      have c:(j:Int)<(((d.set i ((gR l i).1,((gR l i).2.1,((gR l i).2.2.1,((1:Int),((0:Int),())))))).length:Nat):Int):=by rw[List.length_set];omega
      simp only[c,decide_true,cond_true,hz];have i2:∀x,inb (j:Int) (d.set i x).length=true:=fun x=>inb_iff.2 (by rw[List.length_set];omega);have hk2:∀x:Rw,x.2.1=(gR l i).2.1→x.2.2.1=(gR l i).2.2.1→keyR (gR (d.set i x) j)=keyR (gR l j):=fun x x1 x2=>by
        rw[qdm (by omega)];by_cases e:j=i
        · rw[if_pos e,e];exact keyE x1 x2
        · rw[if_neg e];exact hk j hj
      have b1:=cLt_le l (gR l i) j;have b2:=cLe_le l (gR l i) j;simp only[i1,i2,qo,Int.toNat_natCast,qh0,Option.bind_some,g0,List.set_set];have ho1:∀a b a' b':Int,ordI (gR (d.set i ((gR l i).1,((gR l i).2.1,((gR l i).2.2.1,(a,(b,())))))) j) ((gR l i).1,((gR l i).2.1,((gR l i).2.2.1,(a',(b',())))))=ordI (gR l j) (gR l i):=fun a b a' b'=>qg2 (hk2 _ rfl rfl) (keyE rfl rfl);have ho2:∀a b a' b':Int,ordI ((gR l i).1,((gR l i).2.1,((gR l i).2.2.1,(a',(b',()))))) (gR (d.set i ((gR l i).1,((gR l i).2.1,((gR l i).2.2.1,(a,(b,())))))) j)=ordI (gR l i) (gR l j):=fun a b a' b'=>qg2 (keyE rfl rfl) (hk2 _ rfl rfl);rw[ho1];rw[qit l (gR l i) (by omega),qiH l (gR l i) (by omega)]
      rw[qc (n:=1+(cLt (l.take j) (gR l i):Int)+1) (by omega) (by omega),qc (n:=(j:Int)+1) (by omega) (by omega)];have hneg:=qha (gR l j) (gR l i);by_cases c1:ordI (gR l j) (gR l i)<0
      · simp only[c1,decide_true,cond_true,Option.bind_some,i1,i2,qo,g0,List.set_set];rw[ho2]
        have c2:¬ordI (gR l i) (gR l j)<0:=by omega
        simp only[c2,decide_false,Bool.not_false,cond_true,Option.bind_some];rw[qc (by omega) (by omega)];simp only[if_true,show ordI (gR l j) (gR l i)≤0 by omega];rw[Int.natCast_add,Int.natCast_add,←Int.add_assoc];rfl
      · simp only[c1,decide_false,cond_false,Option.bind_some,i1,i2,qo,g0,List.set_set];rw[ho2];by_cases c2:ordI (gR l i) (gR l j)<0
        · simp only[c2,decide_true,Bool.not_true,cond_false,Option.bind_some];simp only[if_false,show ¬ordI (gR l j) (gR l i)≤0 by omega];rfl
        · simp only[c2,decide_false,Bool.not_false,cond_true,Option.bind_some];rw[qc (by omega) (by omega)];simp only[if_false,if_true,show ordI (gR l j) (gR l i)≤0 by omega];rw[Int.natCast_add];rfl
    · unfold qci;simp only[List.length_set,hL,Int.lt_irrefl,decide_false,cond_false];rw[show l.take n=l by rw[←hl,List.take_length]];rfl
  · unfold qcb;simp[hx]
def rowsB (gs:List Gm) (n:Nat):List Rw:=(List.range n).map (rowB gs)
theorem qay (gs:List Gm) (n:Nat):(rowsB gs n).length=n:=by simp[rowsB]
theorem qfA (gs:List Gm) {n q:Nat} (hq:q<n):gR (rowsB gs n) q=rowB gs q:=by
  rw[gR_lt (by rw[qay];exact hq)];simp[rowsB]
theorem rows_spec {n:Nat} {gs:List Gm} (h:GOK n gs):qfk (n:Int) gs=some ((rowsB gs n).map (fin (rowsB gs n))):=by
  have hh:=h;obtain⟨h1,h2,h3,h4⟩:=h;unfold qfk;have r1:(decide (0≤(n:Int))&&((n:Int)==(n:Int)&&room (n:Int).toNat 64))=true:=by
    rw[qg5 (by omega)];simp
  rw[r1,qo];have k1:=rows1 hh;unfold rz at k1;rw[k1];simp only[Option.bind_some];have e1:=mix_next n (rowA gs) (fun _=>rz) (rowB gs);unfold rz at e1;rw[e1,rows2 hh _ (by rw[qbi])];simp only[Option.bind_some];have e2:mix n (rowB gs) (rowA gs) n=mix n (fun q=>fin (rowsB gs n) (gR (rowsB gs n) q)) (gR (rowsB gs n)) 0:=by
    rw[qhe,qfj];exact List.map_congr_left fun q hq=>(qfA gs (List.mem_range.1 hq)).symm
  rw[e2,rows3 h2 (rowsB gs n) (qay gs n) _ (by rw[qbi])];simp only[Option.bind_some];rw[qhe];unfold rowsB;rw[List.map_map];refine congrArg some (List.map_congr_left fun q hq=>?_);show fin _ (gR (rowsB gs n) q)=fin _ (rowB gs q);rw[qfA gs (List.mem_range.1 hq)]

def gf (n:Int) (g:Gm):Int:=if qR n g.1 g.2.1=true then(if g.2.2.1<0∨2<g.2.2.1 then 4 else 0) else 3
def ffs (n:Int):List Gm→Int
  | []=>0
  | g::t=>if gf n g=0 then ffs n t else gf n g
def chk (n:Int) (gs:List Gm):Int:=if n<1∨32<n then 2 else ffs n gs
theorem qfz (n:Int) (gs:List Gm) (h:gs.length≤60):qG n gs=some (chk n gs):=by
  unfold qG chk;by_cases c:n<1∨32<n
  · rw[if_pos c];have:((decide (n<(1:Int))||decide (n>(32:Int)))||decide (((gs.length:Nat):Int)>(600:Int)))=true:=by
      rcases c with c | c
      · simp[c]
      · simp[show n>32 from c]
    rw[this];rfl
  rw[if_neg c];have:((decide (n<(1:Int))||decide (n>(32:Int)))||decide (((gs.length:Nat):Int)>(600:Int)))=false:=by
    simp only[Bool.or_eq_false_iff,decide_eq_false_iff_not];omega
  rw[this];simp only[cond_false];have key:=iter_scan gs (qbf gs n) (fun i (_:Unit)=>((((i:Nat):Int),()),())) (fun _ g=>if gf n g=0 then .inl () else .inr (.inr (gf n g):(Unit×Unit) ⊕ Int)) (fun _ => .inl ((),())) (fun _ _=>True) (fun i hi s _=>?_) (fun _ _ _ _ _ _=>trivial) (fun s _=>?_) () trivial
  · rw[show(((0:Nat):Int))=0 from rfl] at key;rw[key];simp only[Option.bind_some];clear key
    induction gs with
    | nil=>rfl
    | cons g t ih =>
      have ih:=ih (by simp at h;omega) (by simp only[Bool.or_eq_false_iff,decide_eq_false_iff_not];simp at h;omega);unfold scanL ffs;by_cases c2:gf n g=0
      · rw[if_pos c2,if_pos c2];exact ih
      · rw[if_neg c2,if_neg c2];rfl
  · unfold qbf
    have c:(i:Int)<((gs.length:Nat):Int):=by omega
    simp only[c,decide_true,cond_true];rw[at?_eq gs _ (by omega) (by omega)];simp only[Int.toNat_natCast,Option.bind_some];rw[qc (n:=(i:Int)+1) (by omega) (by omega)];unfold gf
    cases c2:qR n gs[i].1 gs[i].2.1 with
    | false=>rfl
    | true =>
      simp only[Bool.not_true,cond_false,if_true];by_cases c3:gs[i].2.2.1<0∨2<gs[i].2.2.1
      · rw[if_pos c3];have:(decide (gs[i].2.2.1<(0:Int))||decide (gs[i].2.2.1>(2:Int)))=true:=by
          simp only[Bool.or_eq_true,decide_eq_true_eq];exact c3
        rw[this];rfl
      · rw[if_neg c3];have:(decide (gs[i].2.2.1<(0:Int))||decide (gs[i].2.2.1>(2:Int)))=false:=by
          simp only[Bool.or_eq_false_iff,decide_eq_false_iff_not];omega
        rw[this];rfl
  · unfold qbf;simp
theorem qfs (n a b:Int):qR n a b=true↔0≤a∧a<n∧0≤b∧b<n∧a≠b:=by
  unfold qR;simp only[Bool.and_eq_true,decide_eq_true_eq,bne_iff_ne];omega
theorem qiv {n:Int}:∀ {gs:List Gm},ffs n gs=0→∀g∈gs,gf n g=0
  | [],_,g,hg=>by cases hg
  | g::t,h,g',hg=>by
    unfold ffs at h;split at h
    · rename_i c;rcases List.mem_cons.1 hg with rfl | hg
      · exact c
      · exact qiv h g' hg
    · rename_i c;exact absurd h c
theorem chk_ok {n:Int} {gs:List Gm} (h:gs.length≤60) (hc:chk n gs=0):GOK n.toNat gs∧n=(n.toNat:Int):=by
  unfold chk at hc;split at hc
  · cases hc
  rename_i c;refine⟨⟨by omega,by omega,h,fun g hg=>?_⟩,by omega⟩;have:=qiv hc g hg;unfold gf at this;split at this
  · rename_i c2;rw[qfs] at c2;split at this
    · cases this
    · unfold gmOK;omega
  · cases this

theorem qgY (q:Nat→Prop) [DecidablePred q]:∀(n:Nat),(∀x y,x<y→y<n→q y→q x)→∃c,c≤n∧∀x,x<n→(q x↔x<c)
  | 0,_=>⟨0,Nat.le_refl _,fun x hx=>by omega⟩
  | n+1,h=>by
    obtain⟨c,hc,hq⟩:=qgY q n fun x y h1 h2=>h x y h1 (by omega);by_cases e:q n
    · refine⟨n+1,Nat.le_refl _,fun x hx=>⟨fun _=>hx,fun _=>?_⟩⟩;by_cases e2:x=n
      · rw[e2];exact e
      · exact h x n (by omega) (by omega) e
    · refine⟨c,by omega,fun x hx=>?_⟩;by_cases e2:x=n
      · rw[e2];exact⟨fun h=>absurd h e,fun h=>by omega⟩
      · exact hq x (by omega)
theorem qdJ {α:Type} (p:α→Bool):∀(l:List α) (c:Nat),c≤l.length→(∀x (hx:x<l.length),p l[x]=decide (x<c))→l.countP p=c
  | [],c,hc,_=>by simp at hc;simp[hc]
  | a::t,c,hc,h=>by
    have h0:=h 0 (by simp);rw[List.getElem_cons_zero] at h0;rw[List.countP_cons,h0]
    cases c with
    | zero =>
      have:=qdJ p t 0 (Nat.zero_le _) fun x hx=>by
        have:=h (x+1) (by simp;omega);rw[List.getElem_cons_succ] at this;rw[this];simp
      simp[this]
    | succ c =>
      have:=qdJ p t c (by simpa using hc) fun x hx=>by
        have:=h (x+1) (by simp;omega);rw[List.getElem_cons_succ] at this;rw[this];simp
      simp[this]
theorem qbK {r:List Rw} {n:Nat} (hl:r.length=n) (hs:Srt r 0 n) (i:Nat) (hi:i<n) :
    ∃c t,c≤i∧i<t∧t≤n∧cLt r (gR r i)=c∧cLe r (gR r i)=t∧(∀x,x<n→(ordI (gR r x) (gR r i)<0↔x<c))∧(∀x,x<n→(ordI (gR r x) (gR r i)≤0↔x<t)):=by
  have h0:ordI (gR r i) (gR r i)=0:=qhy _;obtain⟨c,c1,c2⟩:=qgY (fun x=>ordI (gR r x) (gR r i)<0) n fun x y h1 h2 h3=>(qb7 (hs x y (Nat.zero_le _) h1 h2).le (by omega:ordI (gR r y) (gR r i)≤0)).2 (.inr h3);obtain⟨t,t1,t2⟩:=qgY (fun x=>ordI (gR r x) (gR r i)≤0) n fun x y h1 h2 h3=>(qb7 (hs x y (Nat.zero_le _) h1 h2).le h3).1;refine⟨c,t,?_,?_,t1,?_,?_,c2,t2⟩
  · by_cases e:i<c
    · have:=(c2 i hi).2 e;omega
    · omega
  · exact(t2 i hi).1 (by omega)
  · refine qdJ _ r c (by omega) fun x hx=>?_;rw[←gR_lt hx];exact decide_eq_decide.2 (c2 x (by omega))
  · refine qdJ _ r t (by omega) fun x hx=>?_;rw[←gR_lt hx];exact decide_eq_decide.2 (t2 x (by omega))
theorem fin_perm {l m:List Rw} (h:l.Perm m) (e:Rw):fin l e=fin m e:=by
  unfold fin cLt cLe;rw[h.countP_eq,h.countP_eq]

theorem table3 {n:Nat} (hn:n≤32) (l:List Rw) (hl:l.length=n) (h0:∀e∈l,e.2.2.2=(0,(0,()))) (r9:List Rw×Unit) (hx:r9.1.length=n):iterW (qaA r9) (((0:Int),()),(mix n (fun q=>fin l (gR l q)) (gR l) 0,()))=some ((),(mix n (fun q=>fin l (gR l q)) (gR l) n,())):=by
  refine qC (f:=qaA r9) n (fun i=>((((i:Nat):Int),()),(mix n (fun q=>fin l (gR l q)) (gR l) i,()))) _ (fun i hi=>?_) ?_
  · unfold qaA
    have c:(i:Int)<((r9.1.length:Nat):Int):=by omega
    simp only[c,decide_true,cond_true,hz];have hL:(mix n (fun q=>fin l (gR l q)) (gR l) i).length=n:=qbi _ _ _ _;have hk:∀q,q<n→keyR (gR (mix n (fun q=>fin l (gR l q)) (gR l) i) q)=keyR (gR l q):=fun q hq=>by
      rw[mix_g _ _ _ hq];split
      · exact fin_key _ _
      · rfl
    have hgi:gR (mix n (fun q=>fin l (gR l q)) (gR l) i) i=gR l i:=by rw[mix_g _ _ _ hi,if_neg (by omega)]
    have hset:(mix n (fun q=>fin l (gR l q)) (gR l) i).set i (fin l (gR l i))=mix n (fun q=>fin l (gR l q)) (gR l) (i+1):=qgW (fun q=>fin l (gR l q)) _ hi;generalize mix n (fun q=>fin l (gR l q)) (gR l) i=d at hL hk hgi hset;have i0:inb (i:Int) d.length=true:=inb_iff.2 (by omega);have i1:∀x,inb (i:Int) (d.set i x).length=true:=fun x=>inb_iff.2 (by rw[List.length_set];omega)
    have g0:∀x,gR (d.set i x) i=x:=fun x=>by rw[qdm (by omega),if_pos rfl]
    have hz0:(gR l i).2.2.2=(0,(0,())):=h0 _ (by rw[gR_lt (by omega)];exact List.getElem_mem _);simp only[i0,i1,qo,Int.toNat_natCast,Option.bind_some,g0,List.set_set,hgi,hz0];have key:=qC (f:=qaD (d.set i ((gR l i).1,((gR l i).2.1,((gR l i).2.2.1,((1:Int),((0:Int),())))))) (((i:Int),()),(d,()))) n (fun j=>((((j:Nat):Int),()),(d.set i ((gR l i).1,((gR l i).2.1,((gR l i).2.2.1,((1+(cLt (l.take j) (gR l i):Int)),((cLe (l.take j) (gR l i):Int),()))))),()))) ((),(d.set i (fin l (gR l i)),())) (fun j hj=>?_) ?_
    · rw[show(((0:Nat):Int))=0 from rfl] at key;have:iterW (qaD (d.set i ((gR l i).1,((gR l i).2.1,((gR l i).2.2.1,((1:Int),((0:Int),())))))) (((i:Int),()),(d,()))) (((0:Int),()),(d.set i ((gR l i).1,((gR l i).2.1,((gR l i).2.2.1,((1:Int),((0:Int),()))))),()))=_:=key;rw[this];simp only[Option.bind_some];rw[qc (by omega) (by omega),hset];rfl
    · unfold qaD
      have c:(j:Int)<(((d.set i ((gR l i).1,((gR l i).2.1,((gR l i).2.2.1,((1:Int),((0:Int),())))))).length:Nat):Int):=by rw[List.length_set];omega
      simp only[c,decide_true,cond_true,hz];have i2:∀x,inb (j:Int) (d.set i x).length=true:=fun x=>inb_iff.2 (by rw[List.length_set];omega);have hk2:∀x:Rw,x.2.1=(gR l i).2.1→x.2.2.1=(gR l i).2.2.1→keyR (gR (d.set i x) j)=keyR (gR l j):=fun x x1 x2=>by
        rw[qdm (by omega)];by_cases e:j=i
        · rw[if_pos e,e];exact keyE x1 x2
        · rw[if_neg e];exact hk j hj
      have b1:=cLt_le l (gR l i) j;have b2:=cLe_le l (gR l i) j;simp only[i1,i2,qo,Int.toNat_natCast,qcH,Option.bind_some,g0,List.set_set];have ho1:∀a b a' b':Int,ordI (gR (d.set i ((gR l i).1,((gR l i).2.1,((gR l i).2.2.1,(a,(b,())))))) j) ((gR l i).1,((gR l i).2.1,((gR l i).2.2.1,(a',(b',())))))=ordI (gR l j) (gR l i):=fun a b a' b'=>qg2 (hk2 _ rfl rfl) (keyE rfl rfl);rw[ho1];rw[qit l (gR l i) (by omega),qiH l (gR l i) (by omega)];rw[qc (n:=1+(cLt (l.take j) (gR l i):Int)+1) (by omega) (by omega),qc (n:=(j:Int)+1) (by omega) (by omega),qc (n:=(cLe (l.take j) (gR l i):Int)+1) (by omega) (by omega)];by_cases c1:ordI (gR l j) (gR l i)<0
      · simp only[c1,decide_true,cond_true,Option.bind_some];simp only[if_true,show ordI (gR l j) (gR l i)≤0 by omega];rw[Int.natCast_add,Int.natCast_add,←Int.add_assoc];rfl
      · simp only[c1,decide_false,cond_false,Option.bind_some];by_cases c2:ordI (gR l j) (gR l i)=0
        · rw[beq_t c2];simp only[cond_true,Option.bind_some];simp only[if_false,if_true,show ordI (gR l j) (gR l i)≤0 by omega];rw[Int.natCast_add];rfl
        · rw[beq_f c2];simp only[cond_false,Option.bind_some];simp only[if_false,show ¬ordI (gR l j) (gR l i)≤0 by omega];rfl
    · unfold qaD;simp only[List.length_set,hL,Int.lt_irrefl,decide_false,cond_false];rw[show l.take n=l by rw[←hl,List.take_length]];rfl
  · unfold qaA;simp[hx]
theorem qgw {n:Nat} {gs:List Gm} (h:GOK n gs) (hc:qG (n:Int) gs=some 0):∃r:List Rw,r.length=n∧r.Perm (rowsB gs n)∧Srt r 0 n∧qal (n:Int) gs=some (r.map (fin r),(0,())):=by
  have hh:=h;obtain⟨h1,h2,h3,h4⟩:=h;obtain⟨l,hl,l1,l2⟩:=qd9 hh;unfold qal;rw[hc];simp only[Option.bind_some,bne_f,cond_false,hl];have key:=qC (f:=qbe l (n:Int) gs) n (fun i=>((((rowsB gs i,(((i:Nat):Int),()))),()))) (((rowsB gs n,()),())) (fun i hi=>?_) ?_
  · have e0:rowsB gs 0=[]:=rfl;rw[show(((0:Nat):Int))=0 from rfl,e0] at key;rw[key];simp only[Option.bind_some]
    obtain⟨r,hr,r1,r2,r3⟩:=qil (rowsB gs n) (by rw[qay];exact h2) (fun k hk=>by
      rw[qay] at hk
      rw[qfA gs hk];rfl)
    rw[qay] at r1 r3;rw[hr];simp only[Option.bind_some];have e1:r=mix n (fun q=>fin r (gR r q)) (gR r) 0:=by
      rw[qfj];refine gR_ext (by simp[r1]) fun k hk=>?_;rw[gR_lt (l:=List.map _ _) (by simp;omega)];simp
    refine⟨r,r1,r2,r3,?_⟩
    have k3:=table3 h2 r r1 (fun e he=>by
      have:=r2.mem_iff.1 he;unfold rowsB at this;obtain⟨q,_,rfl⟩:=List.mem_map.1 this
      rfl) (r,()) r1
    rw[←e1] at k3;rw[k3];simp only[Option.bind_some];rw[qhe];refine congrArg (fun z=>some (z,((0:Int),()))) ?_;refine List.ext_getElem (by simp[r1]) fun k k1 k2=>?_;simp only[List.getElem_map,List.getElem_range];rw[gR_lt (by simp at k1;omega)]
  · unfold qbe
    have c:(i:Int)<((l.length:Nat):Int):=by omega
    simp only[c,decide_true,cond_true];have i1:inb (i:Int) l.length=true:=inb_iff.2 (by omega);simp only[i1,qo,qfW hh i hi,Option.bind_some,Int.toNat_natCast,l2 i hi];rw[qg5 (by rw[qay];simp;omega),qo,qc (by omega) (by omega)];have:rowsB gs (i+1)=rowsB gs i++[rowB gs i]:=by
      unfold rowsB;rw[List.range_succ,List.map_append];rfl
    rw[this];rfl
  · unfold qbe;simp[l1]

def dS (a b s:Int) (g:Gm):Int:=if g.1=a∧g.2.1=b then s+(g.2.2.1-1) else if g.1=b∧g.2.1=a then s-(g.2.2.1-1) else s
def dR (a b:Int) (s:Int×Int) (g:Gm):Int×Int:=if g.1=a∧g.2.1=b then(s.1+g.2.2.1,s.2+2-g.2.2.1) else if g.1=b∧g.2.1=a then(s.1+2-g.2.2.1,s.2+g.2.2.1) else s
theorem dSR (a b:Int):∀(gs:List Gm) (s:Int) (r:Int×Int),2*s=r.1-r.2→2*gs.foldl (dS a b) s=(gs.foldl (dR a b) r).1-(gs.foldl (dR a b) r).2
  | [],_,_,h=>h
  | g::t,s,r,h=>by
    rw[List.foldl_cons,List.foldl_cons];refine dSR a b t _ _ ?_;unfold dS dR
    (repeat' split)<;>(try dsimp only)<;>omega
theorem andB (p q:Prop) [Decidable p] [Decidable q]:(decide p&&decide q)=decide (p∧q):=by simp
theorem qij {n:Nat} {gs:List Gm} (h:GOK n gs) (hc:qG (n:Int) gs=some 0) (a b:Int) (h2:qR (n:Int) a b=true):qZ (n:Int) gs a b=some (c3 (gs.foldl (dS a b) 0) 0,(0,())):=by
  obtain⟨h1,h1',h3,h4⟩:=h;unfold qZ;rw[hc];simp only[Option.bind_some,bne_f,cond_false,h2,Bool.not_true];have key:=qbB gs (qaW gs a b) (fun i s=>(((s:Int),(((i:Nat):Int),())),())) (dS a b) (fun s=>((s,()),())) (fun i s => -(i:Int)≤s∧s≤(i:Int)) (fun i hi s hs=>?_) (fun i hi s hs=>?_) (fun s _=>?_) 0 ⟨by simp,by simp⟩
  · rw[show(((0:Nat):Int))=0 from rfl] at key;rw[key.1];simp only[Option.bind_some,qir]
  · unfold qaW;obtain⟨g1,g2,g3,g4,g5,g6,g7⟩:=h4 gs[i] (List.getElem_mem hi)
    have c:(i:Int)<((gs.length:Nat):Int):=by omega
    simp only[c,decide_true,cond_true];rw[at?_eq gs _ (by omega) (by omega)];simp only[Int.toNat_natCast,Option.bind_some];rw[qc (n:=(i:Int)+1) (by omega) (by omega),qc (n:=gs[i].2.2.1-1) (by omega) (by omega),qc (n:=s+(gs[i].2.2.1-1)) (by omega) (by omega),qc (n:=s-(gs[i].2.2.1-1)) (by omega) (by omega)];unfold dS;by_cases c1:gs[i].1=a∧gs[i].2.1=b
    · rw[if_pos c1,beq_t c1.1,beq_t c1.2];rfl
    · rw[if_neg c1];have e1:(gs[i].1==a&&gs[i].2.1==b)=false:=by
        rw[Bool.and_eq_false_iff];by_cases e:gs[i].1=a
        · exact .inr (beq_f fun e'=>c1 ⟨e,e'⟩)
        · exact .inl (beq_f e)
      rw[e1];simp only[cond_false];by_cases c2:gs[i].1=b∧gs[i].2.1=a
      · rw[if_pos c2,beq_t c2.1,beq_t c2.2];rfl
      · rw[if_neg c2];have e2:(gs[i].1==b&&gs[i].2.1==a)=false:=by
          rw[Bool.and_eq_false_iff];by_cases e:gs[i].1=b
          · exact .inr (beq_f fun e'=>c2 ⟨e,e'⟩)
          · exact .inl (beq_f e)
        rw[e2];rfl
  · obtain⟨g1,g2,g3,g4,g5,g6,g7⟩:=h4 gs[i] (List.getElem_mem hi);unfold dS
    (repeat' split)<;>omega
  · unfold qaW;simp
theorem qje {n:Nat} {gs:List Gm} (h:GOK n gs) (hc:qG (n:Int) gs=some 0) (a b:Int):∃d e,qZ (n:Int) gs a b=some (d,(e,()))∧qb8 (n:Int) gs a b d e=some true:=by
  by_cases h2:qR (n:Int) a b=true
  rotate_left
  · refine⟨0,1,?_,?_⟩
    · unfold qZ;rw[hc];rw[Bool.not_eq_true] at h2;simp only[Option.bind_some,bne_f,cond_false,h2,Bool.not_false,cond_true]
    · unfold qb8;rw[qfs] at h2;have:((decide ((if b<a then b else a)<(0:Int))||decide ((if b>a then b else a)≥(n:Int)))||(a==b))=true:=by
        simp only[Bool.or_eq_true,decide_eq_true_eq,beq_iff_eq]
        (repeat' split)<;>omega
      rw[this];rfl
  refine⟨_,_,qij h hc a b h2,?_⟩;obtain⟨h1,h1',h3,h4⟩:=h;rw[qfs] at h2;unfold qb8;have:((decide ((if b<a then b else a)<(0:Int))||decide ((if b>a then b else a)≥(n:Int)))||(a==b))=false:=by
    simp only[Bool.or_eq_false_iff,decide_eq_false_iff_not];refine⟨⟨?_,?_⟩,beq_f h2.2.2.2.2⟩
    · split<;>omega
    · split<;>omega
  rw[this];simp only[cond_false];have key:=qbB gs (qb1 gs a b) (fun i (s:Int×Int)=>((s.1,(s.2,(((i:Nat):Int),()))),())) (dR a b) (fun s=>((s.1,(s.2,())),())) (fun i s=>0≤s.1∧s.1≤2*(i:Int)∧0≤s.2∧s.2≤2*(i:Int)) (fun i hi s hs=>?_) (fun i hi s hs=>?_) (fun s _=>?_) (0,0) ⟨by simp,by simp,by simp,by simp⟩
  · rw[show(((0:Nat):Int))=0 from rfl] at key;rw[key.1];have e:=dSR a b gs 0 (0,0) rfl;simp only[Option.bind_some];generalize gs.foldl (dS a b) 0=s at e;generalize gs.foldl (dR a b) (0,0)=r at e;unfold c3;by_cases c1:s<0
    · rw[if_pos c1]
      have k1:¬(r.1>r.2):=by omega
      have k2:r.1<r.2:=by omega
      simp only[k1,k2,decide_false,decide_true];rfl
    · rw[if_neg c1];by_cases c2:0<s
      · rw[if_pos c2]
        have k1:(r.1>r.2):=by omega
        have k2:¬r.1<r.2:=by omega
        simp only[k1,k2,decide_false,decide_true];rfl
      · rw[if_neg c2]
        have k1:¬(r.1>r.2):=by omega
        have k2:¬r.1<r.2:=by omega
        simp only[k1,k2,decide_false,decide_true];rfl
  · unfold qb1;obtain⟨g1,g2,g3,g4,g5,g6,g7⟩:=h4 gs[i] (List.getElem_mem hi)
    have c:(i:Int)<((gs.length:Nat):Int):=by omega
    simp only[c,decide_true,cond_true];rw[at?_eq gs _ (by omega) (by omega)];simp only[Int.toNat_natCast,Option.bind_some];rw[qc (n:=(i:Int)+1) (by omega) (by omega),qc (n:=s.1+gs[i].2.2.1) (by omega) (by omega),qc (n:=s.2+2) (by omega) (by omega),qc (n:=s.2+2-gs[i].2.2.1) (by omega) (by omega)];unfold dR;by_cases c1:gs[i].1=a∧gs[i].2.1=b
    · have e2:(gs[i].1==b&&gs[i].2.1==a)=false:=by
        rw[Bool.and_eq_false_iff];exact .inl (beq_f (by omega))
      rw[if_pos c1,beq_t c1.1,beq_t c1.2,e2];rfl
    · rw[if_neg c1];have e1:(gs[i].1==a&&gs[i].2.1==b)=false:=by
        rw[Bool.and_eq_false_iff];by_cases e:gs[i].1=a
        · exact .inr (beq_f fun e'=>c1 ⟨e,e'⟩)
        · exact .inl (beq_f e)
      rw[e1];simp only[cond_false,Option.bind_some];rw[qc (n:=s.1+2) (by omega) (by omega),qc (n:=s.1+2-gs[i].2.2.1) (by omega) (by omega),qc (n:=s.2+gs[i].2.2.1) (by omega) (by omega)];by_cases c2:gs[i].1=b∧gs[i].2.1=a
      · rw[if_pos c2,beq_t c2.1,beq_t c2.2];rfl
      · rw[if_neg c2];have e2:(gs[i].1==b&&gs[i].2.1==a)=false:=by
          rw[Bool.and_eq_false_iff];by_cases e:gs[i].1=b
          · exact .inr (beq_f fun e'=>c2 ⟨e,e'⟩)
          · exact .inl (beq_f e)
        rw[e2];rfl
  · obtain⟨g1,g2,g3,g4,g5,g6,g7⟩:=h4 gs[i] (List.getElem_mem hi);unfold dR
    (repeat' split)<;>(try dsimp only)<;>omega
  · unfold qb1;simp

def DivOK (T:List Rw):Prop:=T.length≤32∧∀i,i<T.length→1≤(gR T i).2.2.2.1∧(gR T i).2.2.2.1≤(i:Int)+1∧(i:Int)+1≤(gR T i).2.2.2.2.1∧(gR T i).2.2.2.2.1≤(T.length:Int)∧(gR T ((gR T i).2.2.2.1-1).toNat).2.2.2.1=(gR T i).2.2.2.1∧(gR T ((gR T i).2.2.2.1-1).toNat).2.2.2.2.1=(gR T i).2.2.2.2.1
def sU (pr:List Int) (f t:Int):Nat→Int
  | 0=>0
  | k+1=>sU pr f t k+(if f≤(k:Int)+1∧(k:Int)+1≤t then pr.getD k 0 else 0)
def prOK (pr:List Int):Prop:=pr.length≤12∧∀x∈pr,0≤x∧x≤100000000
theorem pr_get {pr:List Int} (h:prOK pr) (k:Nat):0≤pr.getD k 0∧pr.getD k 0≤100000000∧(12≤k→pr.getD k 0=0):=by
  rw[List.getD_eq_getElem?_getD];by_cases c:k<pr.length
  · rw[List.getElem?_eq_getElem c];have:=h.2 _ (List.getElem_mem c);exact⟨this.1,this.2,fun hk=>by have:=h.1;omega⟩
  · rw[List.getElem?_eq_none (by omega)];exact⟨by decide,by decide,fun _=>rfl⟩
theorem qiE {pr:List Int} (h:prOK pr) (f t:Int):∀m,0≤sU pr f t m∧sU pr f t m≤100000000*((min m 12:Nat):Int)
  | 0=>⟨by unfold sU;omega,by unfold sU;omega⟩
  | m+1=>by
    have:=qiE h f t m;have hk:=pr_get h m;unfold sU;by_cases c:m<12
    · split<;>omega
    · rw[hk.2.2 (by omega)]
      split<;>omega
theorem qgQ {pr:List Int} (f t:Int) (c:Nat) (hc:∀k,c≤k→k<pr.length→¬(f≤(k:Int)+1∧(k:Int)+1≤t)):∀m,c≤m→sU pr f t m=sU pr f t c
  | 0,h=>by rw[show c=0 by omega]
  | m+1,h=>by
    by_cases e:c=m+1
    · rw[e]
    · rw[←qgQ f t c hc m (by omega)]
      conv=>lhs;unfold sU
      by_cases k:m<pr.length
      · rw[if_neg (hc m (by omega) k),Int.add_zero]
      · rw[List.getD_eq_getElem?_getD,List.getElem?_eq_none (by omega)]
        split<;>simp
theorem share_eq (s m at':Int) (hs:0≤s) (hm:0<m) (h0:0≤at') (h1:at'<m):(s+m-1-at').tdiv m=s.tdiv m+(if at'<s.tmod m then 1 else 0):=by
  rw[Int.tdiv_eq_ediv_of_nonneg (by omega),Int.tdiv_eq_ediv_of_nonneg hs,Int.tmod_eq_emod_of_nonneg hs];have e:=Int.emod_add_mul_ediv s m;have r0:=Int.emod_nonneg s (show m≠0 by omega);have r1:=Int.emod_lt_of_pos s hm;generalize s % m=r at *;generalize s / m=q at *;rw[show s+m-1-at'=(r+m-1-at')+m*q by omega,Int.add_mul_ediv_left _ _ (by omega),Int.add_comm];congr 1;split
  · rw[show r+m-1-at'=(r-1-at')+m*1 by omega,Int.add_mul_ediv_left _ _ (by omega),Int.ediv_eq_zero_of_lt (by omega) (by omega)];rfl
  · exact Int.ediv_eq_zero_of_lt (by omega) (by omega)
def badP (x:Int):Bool:=decide (x<0)||decide (x>100000000)
def qcm (T:List Rw) (pr:List Int) (k:Nat):Int :=
  let s:=sU pr (gR T k).2.2.2.1 (gR T k).2.2.2.2.1 pr.length
  let m:=(gR T k).2.2.2.2.1-(gR T k).2.2.2.1+1
  s.tdiv m+(if (k:Int)+1-(gR T k).2.2.2.1<s.tmod m then 1 else 0)
theorem qi1 (T:List Rw) (pr:List Int) (hT:T.length≤32) (hp:pr.length≤12) (hb:pr.any badP=true):qaH T pr=some ([],(4,())):=by
  unfold qaH;have c:(decide (((T.length:Nat):Int)>(32:Int))||decide (((pr.length:Nat):Int)>(32:Int)))=false:=by
    simp only[Bool.or_eq_false_iff,decide_eq_false_iff_not];omega
  rw[c];simp only[cond_false];rw[qew pr badP (qK pr T) (.inr (([]:List Int),((4:Int),()))) (.inl ((),())) (fun k hk=>?a) ?b,hb]
  · rfl
  case a =>
    unfold qK
    have c:(k:Int)<((pr.length:Nat):Int):=by omega
    simp only[c,decide_true,cond_true];rw[at?_eq pr _ (by omega) (by omega)];simp only[Int.toNat_natCast,Option.bind_some];rw[qc (n:=(k:Int)+1) (by omega) (by omega)];show(bif badP pr[k] then _ else _)=_
    have:(k:Int)≥0:=by omega
    simp only[this,decide_true,cond_true,Option.map_some];rfl
  case b =>
    unfold qK;simp
theorem sum_loop (pr:List Int) (hp:prOK pr) (e:Rw) (n:Nat) (hn:n≤32) (h1:1≤e.2.2.2.1) (h2:e.2.2.2.1≤(n:Int)) (h3:e.2.2.2.2.1≤(n:Int)):iterW (qa0 pr e) (((0:Int),(e.2.2.2.1,())),())=some ((sU pr e.2.2.2.1 e.2.2.2.2.1 pr.length,()),()):=by
  have key:=qbw (f:=qa0 pr e)
    (fun x=>∃p:Nat,x=(((sU pr e.2.2.2.1 e.2.2.2.2.1 (p-1):Int),((p:Int),())),())∧e.2.2.2.1≤(p:Int)∧p≤50)
    (fun x=>(100-x.1.2.1).toNat)
    (fun r=>r=((sU pr e.2.2.2.1 e.2.2.2.2.1 pr.length,()),())) ?h (((0:Int),(e.2.2.2.1,())),()) ⟨e.2.2.2.1.toNat,?i,by omega,by omega⟩
  · obtain⟨r,hr,rfl⟩:=key;exact hr
  case i =>
    have e0:(e.2.2.2.1.toNat:Int)=e.2.2.2.1:=by omega
    rw[e0];have:sU pr e.2.2.2.1 e.2.2.2.2.1 (e.2.2.2.1.toNat-1)=0:=by
      have key:∀m:Nat,(m:Int)<e.2.2.2.1→sU pr e.2.2.2.1 e.2.2.2.2.1 m=0:=by
        intro m
        induction m with
        | zero=>intro _;rfl
        | succ m ih =>
          intro hm;unfold sU;rw[ih (by omega),if_neg (by omega)];rfl
      exact key _ (by omega)
    rw[this]
  case h =>
    rintro x ⟨p,rfl,p1,p2⟩
    unfold qa0;have hr:=qiE hp e.2.2.2.1 e.2.2.2.2.1 (p-1);by_cases c:(p:Int)≤(if ((pr.length:Nat):Int)<e.2.2.2.2.1 then((pr.length:Nat):Int) else e.2.2.2.2.1)
    · have c':(p:Int)≤(pr.length:Int)∧(p:Int)≤e.2.2.2.2.1:=by
        split at c<;>omega
      simp only[c,decide_true,cond_true];rw[qc (n:=(p:Int)-1) (by omega) (by omega),at?_eq pr _ (by omega) (by omega)];simp only[Option.bind_some];have hk:=pr_get hp (p-1);have e1:pr[((p:Int)-1).toNat]'(by omega)=pr.getD (p-1) 0:=by
        rw[List.getD_eq_getElem?_getD,List.getElem?_eq_getElem (show p-1<pr.length by omega)];simp only[Option.getD_some];congr 1;omega
      rw[e1,qc (by omega) (by omega),qc (by omega) (by omega)];have e2:sU pr e.2.2.2.1 e.2.2.2.2.1 (p-1)+pr.getD (p-1) 0=sU pr e.2.2.2.1 e.2.2.2.2.1 (p+1-1):=by
        have:p+1-1=(p-1)+1:=by omega
        rw[this]
        conv=>rhs;unfold sU
        rw[if_pos (by omega)]
      rw[e2];refine .inl ⟨_,rfl,⟨p+1,by rw[Int.natCast_add];rfl,by omega,by have:=hp.1;omega⟩,?_⟩;show(100-((p:Int)+1)).toNat<(100-(p:Int)).toNat;omega
    · simp only[c,decide_false,cond_false];have c':((pr.length:Nat):Int)<(p:Int)∨e.2.2.2.2.1<(p:Int):=by
        split at c<;>omega
      refine .inr ⟨_,rfl,?_⟩;have h5:sU pr e.2.2.2.1 e.2.2.2.2.1 (p-1)=sU pr e.2.2.2.1 e.2.2.2.2.1 pr.length:=by
        have k1:=qgQ (pr:=pr) e.2.2.2.1 e.2.2.2.2.1 (min pr.length (p-1)) (fun k k1 k2=>by omega) (p-1) (by omega);have k2:=qgQ (pr:=pr) e.2.2.2.1 e.2.2.2.2.1 (min pr.length (p-1)) (fun k k1 k2=>by omega) pr.length (by omega);rw[k1,k2]
      rw[h5]
theorem prizes_ok (T:List Rw) (pr:List Int) (hT:DivOK T) (hp:prOK pr):qaH T pr=some ((List.range T.length).map (qcm T pr),(0,())):=by
  obtain⟨t1,t2⟩:=hT;have hp1:=hp.1;unfold qaH;have c:(decide (((T.length:Nat):Int)>(32:Int))||decide (((pr.length:Nat):Int)>(32:Int)))=false:=by
    simp only[Bool.or_eq_false_iff,decide_eq_false_iff_not];omega
  rw[c];simp only[cond_false];have hany:pr.any badP=false:=by
    rw[List.any_eq_false];intro x hx;have:=hp.2 x hx;unfold badP;simp only[Bool.or_eq_true,decide_eq_true_eq];omega
  rw[qew pr badP (qK pr T) (.inr (([]:List Int),((4:Int),()))) (.inl ((),())) (fun k hk=>?a) ?b,hany]
  case a =>
    unfold qK
    have c:(k:Int)<((pr.length:Nat):Int):=by omega
    simp only[c,decide_true,cond_true];rw[at?_eq pr _ (by omega) (by omega)];simp only[Int.toNat_natCast,Option.bind_some];rw[qc (n:=(k:Int)+1) (by omega) (by omega)];show(bif badP pr[k] then _ else _)=_
    have:(k:Int)≥0:=by omega
    simp only[this,decide_true,cond_true,Option.map_some];rfl
  case b =>
    unfold qK;simp
  simp only[cond_false,Option.bind_some,Sum.elim_inl];have k2:=qC (f:=qas T) T.length (fun i=>((((i:Nat):Int),()),())) (.inl ((),())) (fun i hi=>?_) ?_
  rotate_left
  · unfold qas;obtain⟨a1,a2,a3,a4,a5,a6⟩:=t2 i hi
    have c:(i:Int)<((T.length:Nat):Int):=by omega
    simp only[c,decide_true,cond_true];rw[at?_eq T _ (by omega) (by omega)];simp only[Int.toNat_natCast,Option.bind_some];rw[←gR_lt hi];generalize he:gR T i=e at a1 a2 a3 a4 a5 a6;rw[qc (n:=(i:Int)+1) (by omega) (by omega),qc (n:=e.2.2.2.1-1) (by omega) (by omega)]
    have d1:¬e.2.2.2.1<1:=by omega
    have d2:¬e.2.2.2.1>(i:Int)+1:=by omega
    have d3:¬e.2.2.2.2.1<(i:Int)+1:=by omega
    have d4:¬e.2.2.2.2.1>((T.length:Nat):Int):=by omega
    have hat:at? T (e.2.2.2.1-1)=some (gR T (e.2.2.2.1-1).toNat):=by
      rw[at?_eq T _ (by omega) (by omega),gR_lt (by omega)]
    simp only[d1,d2,d3,d4,decide_false,Bool.or_false,Bool.not_false,gat,cond_true,hat,Option.bind_some];rw[bne_f a5];simp only[Bool.or_false,cond_false,Bool.not_false,cond_true,Option.bind_some];rw[bne_f a6];simp only[Bool.or_false,cond_false,Bool.not_false,cond_true,Option.bind_some];rfl
  · unfold qas;simp
  rw[show(((0:Nat):Int))=0 from rfl] at k2;rw[k2];simp only[Option.bind_some,Sum.elim_inl];have k3:=qC (f:=qar T pr) T.length (fun i=>((((List.range i).map (qcm T pr),(((i:Nat):Int),()))),())) ((((List.range T.length).map (qcm T pr),())),()) (fun i hi=>?_) ?_
  · rw[show(((0:Nat):Int))=0 from rfl,show(List.range 0).map (qcm T pr)=[] from rfl] at k3;rw[k3];rfl
  · unfold qar;obtain⟨a1,a2,a3,a4,a5,a6⟩:=t2 i hi
    have c:(i:Int)<((T.length:Nat):Int):=by omega
    simp only[c,decide_true,cond_true];rw[at?_eq T _ (by omega) (by omega)];simp only[Int.toNat_natCast,Option.bind_some];rw[←gR_lt hi];have hsh:qcm T pr i=(sU pr (gR T i).2.2.2.1 (gR T i).2.2.2.2.1 pr.length).tdiv ((gR T i).2.2.2.2.1-(gR T i).2.2.2.1+1)+(if (i:Int)+1-(gR T i).2.2.2.1<(sU pr (gR T i).2.2.2.1 (gR T i).2.2.2.2.1 pr.length).tmod ((gR T i).2.2.2.2.1-(gR T i).2.2.2.1+1) then 1 else 0):=rfl;have hr:=qiE hp (gR T i).2.2.2.1 (gR T i).2.2.2.2.1 pr.length;generalize he:gR T i=e at a1 a2 a3 a4 a5 a6 hsh hr;rw[sum_loop pr hp e T.length t1 a1 (by omega) (by omega)];generalize sU pr e.2.2.2.1 e.2.2.2.2.1 pr.length=s at hsh hr;simp only[Option.bind_some]
    have hm:0<e.2.2.2.2.1-e.2.2.2.1+1:=by omega
    have hd0:0≤s.tdiv (e.2.2.2.2.1-e.2.2.2.1+1):=Int.tdiv_nonneg (by omega) (by omega);have hd1:s.tdiv (e.2.2.2.2.1-e.2.2.2.1+1)≤s:=by
      rw[Int.tdiv_eq_ediv_of_nonneg (by omega)];exact Int.ediv_le_self _ (by omega)
    rw[qc (n:=e.2.2.2.2.1-e.2.2.2.1) (by omega) (by omega),qc (n:=e.2.2.2.2.1-e.2.2.2.1+1) (by omega) (by omega),qc (n:=(i:Int)+1) (by omega) (by omega),qc (n:=(i:Int)+1-e.2.2.2.1) (by omega) (by omega),qc (n:=s.tdiv (e.2.2.2.2.1-e.2.2.2.1+1)) (by omega) (by omega),qc (n:=s.tdiv (e.2.2.2.2.1-e.2.2.2.1+1)+1) (by omega) (by omega),bne_t (show ¬e.2.2.2.2.1-e.2.2.2.1+1=0 by omega)];simp only[qo];have hx:(bif decide ((i:Int)+1-e.2.2.2.1<s.tmod (e.2.2.2.2.1-e.2.2.2.1+1)) then some ((s.tdiv (e.2.2.2.2.1-e.2.2.2.1+1)+1,()),()) else some ((s.tdiv (e.2.2.2.2.1-e.2.2.2.1+1),()),()))=some ((qcm T pr i,()),()):=by
      rw[hsh];by_cases c2:(i:Int)+1-e.2.2.2.1<s.tmod (e.2.2.2.2.1-e.2.2.2.1+1)
      · simp only[c2,decide_true,cond_true,if_true]
      · simp only[c2,decide_false,cond_false,if_false,Int.add_zero]
    rw[hx];simp only[Option.bind_some];rw[qg5 (by simp;omega),qo];simp only[Option.bind_some];rw[List.range_succ,List.map_append];rfl
  · unfold qar;simp
theorem qhK (T:List Rw) (pr:List Int) (hT:DivOK T) (hp:pr.length≤12):qcd T pr=some true:=by
  unfold qcd
  cases hb:pr.any badP with
  | true =>
    rw[qi1 T pr hT.1 hp hb];simp only[Option.bind_some];rw[qew pr badP (qan pr (([]:List Int),((4:Int),()))) (.inr true) (.inl ((),())) (fun k hk=>?a) ?b,hb]
    · rfl
    case a =>
      unfold qan
      have c:(k:Int)<((pr.length:Nat):Int):=by omega
      simp only[c,decide_true,cond_true];rw[at?_eq pr _ (by omega) (by omega)];simp only[Int.toNat_natCast,Option.bind_some];rw[qc (n:=(k:Int)+1) (by omega) (by omega)];rfl
    case b =>
      unfold qan;simp
  | false =>
    have hpr:prOK pr:=⟨hp,fun x hx=>by
      have:=List.any_eq_false.1 hb x hx;unfold badP at this
      simp only[Bool.or_eq_true,decide_eq_true_eq] at this;omega⟩
    rw[prizes_ok T pr hT hpr];obtain⟨t1,t2⟩:=hT;simp only[Option.bind_some];rw[qew pr badP (qan pr ((List.range T.length).map (qcm T pr),((0:Int),()))) (.inr (((0:Int)==4)&&((((List.range T.length).map (qcm T pr)).length:Nat):Int)==0)) (.inl ((),())) (fun k hk=>?a) ?b,hb]
    case a =>
      unfold qan
      have c:(k:Int)<((pr.length:Nat):Int):=by omega
      simp only[c,decide_true,cond_true];rw[at?_eq pr _ (by omega) (by omega)];simp only[Int.toNat_natCast,Option.bind_some];rw[qc (n:=(k:Int)+1) (by omega) (by omega)];rfl
    case b =>
      unfold qan;simp
    simp only[cond_false,Option.bind_some,Sum.elim_inl]
    have e1:((((List.range T.length).map (qcm T pr)).length:Nat):Int)=((T.length:Nat):Int):=by simp
    rw[bne_f e1,bne_f rfl];simp only[Bool.or_false,cond_false];have k2:=qC (f:=qbF T pr ((List.range T.length).map (qcm T pr),((0:Int),()))) T.length (fun i=>((((i:Nat):Int),()),())) (.inl ((),())) (fun i hi=>?_) ?_
    · rw[show(((0:Nat):Int))=0 from rfl] at k2;rw[k2];rfl
    · unfold qbF;obtain⟨a1,a2,a3,a4,a5,a6⟩:=t2 i hi
      have c:(i:Int)<((T.length:Nat):Int):=by omega
      simp only[c,decide_true,cond_true];rw[at?_eq T _ (by omega) (by omega)];simp only[Int.toNat_natCast,Option.bind_some];rw[←gR_lt hi];have hget:getD' ((List.range T.length).map (qcm T pr)) i 0=qcm T pr i:=by
        unfold getD';rw[List.getD_eq_getElem?_getD,List.getElem?_eq_getElem (by simp;exact hi)];simp
      have hsh:qcm T pr i=(sU pr (gR T i).2.2.2.1 (gR T i).2.2.2.2.1 pr.length).tdiv ((gR T i).2.2.2.2.1-(gR T i).2.2.2.1+1)+(if (i:Int)+1-(gR T i).2.2.2.1<(sU pr (gR T i).2.2.2.1 (gR T i).2.2.2.2.1 pr.length).tmod ((gR T i).2.2.2.2.1-(gR T i).2.2.2.1+1) then 1 else 0):=rfl;have hrr:=qiE hpr (gR T i).2.2.2.1 (gR T i).2.2.2.2.1;generalize he:gR T i=e at a1 a2 a3 a4 a5 a6 hsh hrr;have hr:=hrr pr.length;have k3:=qC (f:=qbE pr e) pr.length (fun k=>(((sU pr e.2.2.2.1 e.2.2.2.2.1 k,(((k:Nat):Int),()))),())) ((sU pr e.2.2.2.1 e.2.2.2.2.1 pr.length,()),()) (fun k hk=>?_) ?_
      · rw[show(((0:Nat):Int))=0 from rfl,show sU pr e.2.2.2.1 e.2.2.2.2.1 0=0 from rfl] at k3;rw[k3];clear k3;generalize sU pr e.2.2.2.1 e.2.2.2.2.1 pr.length=s at hsh hr;simp only[Option.bind_some];have i1:inb (i:Int) ((List.range T.length).map (qcm T pr)).length=true:=inb_iff.2 (by simp;omega);have hq:=share_eq s (e.2.2.2.2.1-e.2.2.2.1+1) ((i:Int)+1-e.2.2.2.1) (by omega) (by omega) (by omega) (by omega);have hd0:0≤(s+(e.2.2.2.2.1-e.2.2.2.1+1)-1-((i:Int)+1-e.2.2.2.1)).tdiv (e.2.2.2.2.1-e.2.2.2.1+1):=Int.tdiv_nonneg (by omega) (by omega);have hd1:(s+(e.2.2.2.2.1-e.2.2.2.1+1)-1-((i:Int)+1-e.2.2.2.1)).tdiv (e.2.2.2.2.1-e.2.2.2.1+1)≤s+(e.2.2.2.2.1-e.2.2.2.1+1)-1-((i:Int)+1-e.2.2.2.1):=by
          rw[Int.tdiv_eq_ediv_of_nonneg (by omega)];exact Int.ediv_le_self _ (by omega)
        rw[qc (n:=e.2.2.2.2.1-e.2.2.2.1) (by omega) (by omega),qc (n:=e.2.2.2.2.1-e.2.2.2.1+1) (by omega) (by omega),qc (n:=(i:Int)+1) (by omega) (by omega),qc (n:=(i:Int)+1-e.2.2.2.1) (by omega) (by omega),qc (n:=s+(e.2.2.2.2.1-e.2.2.2.1+1)) (by omega) (by omega),qc (n:=s+(e.2.2.2.2.1-e.2.2.2.1+1)-1) (by omega) (by omega),qc (n:=s+(e.2.2.2.2.1-e.2.2.2.1+1)-1-((i:Int)+1-e.2.2.2.1)) (by omega) (by omega),qc (n:=(s+(e.2.2.2.2.1-e.2.2.2.1+1)-1-((i:Int)+1-e.2.2.2.1)).tdiv (e.2.2.2.2.1-e.2.2.2.1+1)) (by omega) (by omega),bne_t (show ¬e.2.2.2.2.1-e.2.2.2.1+1=0 by omega),i1,hget,hq,←hsh];simp only[qo,bne_f,cond_false,Option.bind_some,Sum.elim_inl];rfl
      · unfold qbE
        have c:(k:Int)<((pr.length:Nat):Int):=by omega
        simp only[c,decide_true,cond_true];rw[at?_eq pr _ (by omega) (by omega)];simp only[Int.toNat_natCast,Option.bind_some];have hk2:=hrr k;have hg:=pr_get hpr k;have e1:pr[k]=pr.getD k 0:=by
          rw[List.getD_eq_getElem?_getD,List.getElem?_eq_getElem hk];rfl
        rw[qc (n:=(k:Int)+1) (by omega) (by omega),e1,qc (n:=sU pr e.2.2.2.1 e.2.2.2.2.1 k+pr.getD k 0) (by omega) (by omega)];have e2:sU pr e.2.2.2.1 e.2.2.2.2.1 (k+1)=sU pr e.2.2.2.1 e.2.2.2.2.1 k+(if e.2.2.2.1≤(k:Int)+1∧(k:Int)+1≤e.2.2.2.2.1 then pr.getD k 0 else 0):=rfl;rw[e2];by_cases c2:e.2.2.2.1≤(k:Int)+1∧(k:Int)+1≤e.2.2.2.2.1
        · rw[if_pos c2];have q1:(k:Int)+1≥e.2.2.2.1:=c2.1;simp only[q1,c2.2,decide_true,Bool.and_true,cond_true,Option.bind_some];rfl
        · rw[if_neg c2,Int.add_zero];have:(decide ((k:Int)+1≥e.2.2.2.1)&&decide ((k:Int)+1≤e.2.2.2.2.1))=false:=by
            rw[andB,decide_eq_false_iff_not];omega
          rw[this];rfl
      · unfold qbE;simp
    · unfold qbF;simp

theorem tables_ok:qdK=some true:=by
  obtain⟨r,r1,r2,r3,ht⟩:=qgw (n:=1) (gs:=[]) ⟨by omega,by omega,by simp,fun g hg=>by cases hg⟩ (by rw[qfz _ _ (by simp)];rfl);have ht':qal (1:Int) ([]:List (Int×Int×Int×Unit))=some (r.map (fin r),((0:Int),())):=ht;unfold qdK;rw[ht'];simp only[Option.bind_some,hz,List.length_map,r1];have i0:inb (0:Int) 1=true:=inb_iff.2 (by omega);obtain⟨c,t,c1,t1,t2,f1,f2,f3,f4⟩:=qbK r1 r3 0 (by omega);have e:(gR (r.map (fin r)) 0).2.2.2.1=1:=by
    rw[gR_lt (by simp[r1]),List.getElem_map];unfold fin;rw[←gR_lt (by omega),f1];show 1+(c:Int)=1;omega
  rw[i0,e];rfl
theorem qfm {A:Type} (xs:List A) (k:Nat):((xs.take ((if (k:Int)<((xs.length:Nat):Int) then(k:Int) else((xs.length:Nat):Int))).toNat).drop 0)=xs.take k:=by
  rw[List.drop_zero];split
  · rw[Int.toNat_natCast]
  · rw[Int.toNat_natCast,List.take_length,List.take_of_length_le (by omega)]
theorem qgu {A:Type} (xs:List A) (k:Nat):qa4 0 (if (k:Int)<((xs.length:Nat):Int) then(k:Int) else((xs.length:Nat):Int)) xs.length=true:=by
  unfold qa4;simp only[Bool.and_eq_true,decide_eq_true_eq]
  refine⟨by omega,?_,?_⟩<;>split<;>omega
def gf' (n acc:Int) (g:Gm):Int:=if acc≠0 then acc else gf n g
theorem gf_fold (n:Int):∀(gs:List Gm) (acc:Int),gs.foldl (gf' n) acc=if acc≠0 then acc else ffs n gs
  | [],acc=>by
    show acc=_;unfold ffs
    split<;>simp_all
  | g::t,acc=>by
    rw[List.foldl_cons,gf_fold n t,show ffs n (g::t)=if gf n g=0 then ffs n t else gf n g from rfl];unfold gf';by_cases c:acc=0
    · simp only[c,ne_eq,not_true_eq_false,if_false];by_cases c2:gf n g=0
      · simp only[c2,not_true_eq_false,if_false,if_true]
      · simp only[c2,not_false_eq_true,if_true,if_false]
    · simp only[ne_eq,c,not_false_eq_true,if_true]
theorem qiZ (games:List Gm) (n acc:Int):iterW (qab games n) ((acc,((0:Int),())),())=some (((games.take 60).foldl (gf' n) acc,()),()):=by
  have hl:(games.take 60).length≤60:=by rw[List.length_take];omega
  have key:=qbB (games.take 60) (qab games n) (fun i s=>(((s:Int),(((i:Nat):Int),())),())) (gf' n) (fun s=>((s,()),())) (fun _ _=>True) (fun i hi s _=>?_) (fun _ _ _ _=>trivial) (fun s _=>?_) acc trivial
  · exact key.1
  · unfold qab;rw[show(60:Int)=((60:Nat):Int) from rfl,qfm games 60];generalize games.take 60=gs at hi hl
    have c:(i:Int)<((gs.length:Nat):Int):=by omega
    simp only[c,decide_true,cond_true];rw[at?_eq gs _ (by omega) (by omega)];simp only[Int.toNat_natCast,Option.bind_some];rw[qc (n:=(i:Int)+1) (by omega) (by omega)];unfold gf';by_cases c1:s=0
    · rw[bne_f c1,if_neg (show ¬s≠0 by omega)];simp only[cond_false];unfold gf;by_cases c2:qR n gs[i].1 gs[i].2.1=true
      · rw[if_pos c2];rw[qfs] at c2;have e1:((decide ((if gs[i].2.1<gs[i].1 then gs[i].2.1 else gs[i].1)<(0:Int))||decide ((if gs[i].2.1>gs[i].1 then gs[i].2.1 else gs[i].1)≥n))||(gs[i].1==gs[i].2.1))=false:=by
          simp only[Bool.or_eq_false_iff,decide_eq_false_iff_not];refine⟨⟨?_,?_⟩,beq_f (by omega)⟩
          · split<;>omega
          · split<;>omega
        rw[e1];simp only[cond_false];by_cases c3:gs[i].2.2.1<0∨2<gs[i].2.2.1
        · rw[if_pos c3];have:(decide (gs[i].2.2.1<(0:Int))||decide (gs[i].2.2.1>(2:Int)))=true:=by
            simp only[Bool.or_eq_true,decide_eq_true_eq];exact c3
          rw[this];rfl
        · rw[if_neg c3];have:(decide (gs[i].2.2.1<(0:Int))||decide (gs[i].2.2.1>(2:Int)))=false:=by
            simp only[Bool.or_eq_false_iff,decide_eq_false_iff_not];omega
          rw[this,c1];rfl
      · rw[if_neg c2];rw[qfs] at c2;have e1:((decide ((if gs[i].2.1<gs[i].1 then gs[i].2.1 else gs[i].1)<(0:Int))||decide ((if gs[i].2.1>gs[i].1 then gs[i].2.1 else gs[i].1)≥n))||(gs[i].1==gs[i].2.1))=true:=by
          simp only[Bool.or_eq_true,decide_eq_true_eq,beq_iff_eq]
          (repeat' split)<;>omega
        rw[e1];rfl
    · rw[bne_t c1,if_pos c1];rfl
  · unfold qab;rw[show(60:Int)=((60:Nat):Int) from rfl,qfm games 60];simp
theorem rowB_g1 (gs:List Gm) (n:Nat) {e:Rw} (h:e∈rowsB gs n):∃p,p<n∧e=rowB gs p:=by
  unfold rowsB at h;obtain⟨q,hq,rfl⟩:=List.mem_map.1 h;exact⟨q,List.mem_range.1 hq,rfl⟩
theorem divOK_of {n:Nat} {gs:List Gm} (hn:n≤32) {r:List Rw} (r1:r.length=n) (r3:Srt r 0 n):DivOK (r.map (fin r)):=by
  have hg:∀k,k<n→gR (r.map (fin r)) k=fin r (gR r k):=fun k hk=>by
    rw[gR_lt (by simp[r1];exact hk),List.getElem_map,←gR_lt]
  refine⟨by simp[r1];exact hn,fun i hi=>?_⟩;rw[List.length_map,r1] at hi ⊢;obtain⟨c,t,c1,t1,t2,f1,f2,f3,f4⟩:=qbK r1 r3 i hi
  have e1:(fin r (gR r i)).2.2.2.1=1+(c:Int):=by unfold fin;rw[f1]
  have e2:(fin r (gR r i)).2.2.2.2.1=(t:Int):=by unfold fin;rw[f2]
  rw[hg i hi,e1,e2]
  have e3:(1+(c:Int)-1).toNat=c:=by omega
  rw[e3,hg c (by omega)];obtain⟨c',t',c1',t1',t2',f1',f2',f3',f4'⟩:=qbK r1 r3 c (by omega)
  have e1':(fin r (gR r c)).2.2.2.1=1+(c':Int):=by unfold fin;rw[f1']
  have e2':(fin r (gR r c)).2.2.2.2.1=(t':Int):=by unfold fin;rw[f2']
  rw[e1',e2']
  have q1:¬ordI (gR r c) (gR r i)<0:=fun h=>by have:=(f3 c (by omega)).1 h;omega
  have q2:ordI (gR r c) (gR r i)≤0:=(f4 c (by omega)).2 (by omega);have q3:=qha (gR r c) (gR r i);have hc:c'=c:=by
    by_cases k:c'<c
    · have k1:¬ordI (gR r c') (gR r c)<0:=fun h=>by have:=(f3' c' (by omega)).1 h;omega
      have k2:=(f3 c' (by omega)).2 k;have k3:=(qb7 (x:=gR r c') (y:=gR r i) (z:=gR r c) (by omega) (by omega)).2 (.inl k2);omega
    · omega
  have ht:t'=t:=by
    by_cases k:t'<t
    · have k1:¬ordI (gR r t') (gR r c)≤0:=fun h=>by have:=(f4' t' (by omega)).1 h;omega
      have k2:=(f4 t' (by omega)).2 k;have k3:=(qb7 (x:=gR r t') (y:=gR r i) (z:=gR r c) k2 (by omega)).1;omega
    · by_cases k':t<t'
      · have k1:¬ordI (gR r t) (gR r i)≤0:=fun h=>by have:=(f4 t (by omega)).1 h;omega
        have k2:=(f4' t (by omega)).2 k';have k3:=(qb7 (x:=gR r t) (y:=gR r c) (z:=gR r i) k2 (by omega)).1;omega
      · omega
  omega
theorem rows_loop {n:Nat} {gs:List Gm} (h:GOK n gs) {r:List Rw} (r1:r.length=n) (r2:r.Perm (rowsB gs n)) (r3:Srt r 0 n) (pts:List Int) (p1:pts.length=n) (p2:∀p,p<n→getD' pts p 0=ptOf gs p) :
    iterW (qag (r.map (fin r),((0:Int),())) (n:Int) ((rowsB gs n).map (fin (rowsB gs n))) (pts,((0:Int),()))) (((0:Int),()),())=some (.inl ((),())):=by
  obtain⟨h1,h2,h3,h4⟩:=h;refine qC (f:=qag (r.map (fin r),((0:Int),())) (n:Int) ((rowsB gs n).map (fin (rowsB gs n))) (pts,((0:Int),()))) n (fun i=>((((i:Nat):Int),()),())) _ (fun i hi=>?_) ?_
  · unfold qag;have hg:∀k,k<n→gR (r.map (fin r)) k=fin r (gR r k):=fun k hk=>by
      rw[gR_lt (by simp[r1];exact hk),List.getElem_map,←gR_lt]
    have hmem:∀k,k<n→∃p,p<n∧gR r k=rowB gs p:=fun k hk=>rowB_g1 gs n (r2.mem_iff.1 (by rw[gR_lt (by omega)];exact List.getElem_mem _));obtain⟨p,hp,he⟩:=hmem i hi;obtain⟨c,t,c1,t1,t2,f1,f2,f3,f4⟩:=qbK r1 r3 i hi
    have e1:(fin r (gR r i)).2.2.2.1=1+(c:Int):=by unfold fin;rw[f1]
    have e2:(fin r (gR r i)).2.2.2.2.1=(t:Int):=by unfold fin;rw[f2]
    have e3:(fin r (gR r i)).1=(p:Int):=by rw[he];rfl
    have e4:(fin r (gR r i)).2.1=ptOf gs p:=by rw[he];rfl
    have erow:gR ((rowsB gs n).map (fin (rowsB gs n))) p=fin r (gR r i):=by
      rw[gR_lt (by simp[qay];exact hp),List.getElem_map,←gR_lt (by rw[qay];exact hp),qfA gs hp,he,fin_perm r2]
    have hci:(i:Int)<(((r.map (fin r)).length:Nat):Int):=by simp[r1];exact hi
    have i1:inb (i:Int) (r.map (fin r)).length=true:=inb_iff.2 ⟨by omega,by simpa using hci⟩;have i2:inb (p:Int) ((rowsB gs n).map (fin (rowsB gs n))).length=true:=inb_iff.2 (by simp[qay];omega);have i3:inb (p:Int) pts.length=true:=inb_iff.2 (by omega);simp only[hci,decide_true,cond_true,hz,Int.toNat_natCast,hg i hi,e3,e4,e1,e2,erow,i1,i2,i3,p2 p hp,beq_self_eq_true,Bool.and_self,Bool.not_true,Bool.or_false,bne_self_eq_false]
    have d1:¬(p:Int)<0:=by omega
    have d2:¬(p:Int)≥(n:Int):=by omega
    rw[qc (n:=(i:Int)+1) (by omega) (by omega),qc (n:=(i:Int)-1) (by omega) (by omega)]
    have d3:¬(1+(c:Int))>(i:Int)+1:=by omega
    have d4:¬(t:Int)<(i:Int)+1:=by omega
    have him:∀b,imp b true=true:=fun b=>by cases b<;>rfl
    simp only[d1,d2,d3,d4,decide_false,Bool.or_false,Bool.or_self,cond_false,him,qo];by_cases c0:(i:Int)>0
    · have hlast:inb ((i:Int)-1) (r.map (fin r)).length=true:=inb_iff.2 ⟨by omega,by rw[List.length_map];omega⟩;rw[hlast];simp only[him,qo]
      have e5:((i:Int)-1).toNat=i-1:=by omega
      rw[e5,hg (i-1) (by omega)];obtain⟨c',t',c1',t1',t2',f1',f2',f3',f4'⟩:=qbK r1 r3 (i-1) (by omega)
      have e1':(fin r (gR r (i-1))).2.2.2.1=1+(c':Int):=by unfold fin;rw[f1']
      rw[e1'];have hfalse:((decide ((i:Int)>0)&&((1+(c':Int))==(1+(c:Int))))&&decide ((fin r (gR r (i-1))).1≥(p:Int)))=false:=by
        rw[Bool.and_eq_false_iff];by_cases k:c'=c
        · refine .inr (decide_eq_false ?_);have hP:=r3 (i-1) i (Nat.zero_le _) (by omega) hi;have:¬ordI (gR r (i-1)) (gR r i)<0:=fun h=>by
            have:=(f3 (i-1) (by omega)).1 h;omega
          rcases hP with hP | ⟨_,hP⟩
          · exact absurd hP this
          · have e6:(fin r (gR r (i-1))).1=(gR r (i-1)).1:=rfl;have e7:(gR r i).1=(p:Int):=e3;omega
        · refine .inl ?_;rw[Bool.and_eq_false_iff];exact .inr (beq_f (by omega))
      rw[hfalse];rfl
    · have:decide ((i:Int)>0)=false:=decide_eq_false c0;rw[this];rfl
  · unfold qag;simp[r1]
theorem law3StandingSays_true (n:Int) (games:List Gm) (prizes:List Int) (a b:Int) (h1:Rng (.int .i64) n) (h2:Rng (.sl (.st (.int .i64) (.st (.int .i64) (.st (.int .i64) .nil)))) games) (h3:Rng (.sl (.int .i64)) prizes) (h4:Rng (.int .i64) a) (h5:Rng (.int .i64) b):qbT n games prizes a b=some true:=by
  unfold qbT;rw[tables_ok];simp only[Option.bind_some,Bool.not_true,cond_false];rw[show(60:Int)=((60:Nat):Int) from rfl,show(12:Int)=((12:Nat):Int) from rfl,qgu,qgu,qfm,qfm];simp only[qo]
  have hl:(games.take 60).length≤60:=by rw[List.length_take];omega
  have hpl:(prizes.take 12).length≤12:=by rw[List.length_take];omega
  have hfl:=fun acc=>qiZ games n acc;generalize games.take 60=gs at hl hfl;generalize prizes.take 12=pr at hpl;have hchk:=qfz n gs hl;have hf0:(bif decide (n<1)||decide (n>32) then some (((2:Int),()),()) else some (((0:Int),()),()))=some (((if n<1∨32<n then 2 else 0:Int),()),()):=by
    by_cases c:n<1∨32<n
    · have:(decide (n<1)||decide (n>32))=true:=by simp only[Bool.or_eq_true,decide_eq_true_eq];exact c
      rw[this,if_pos c];rfl
    · have:(decide (n<1)||decide (n>32))=false:=by simp only[Bool.or_eq_false_iff,decide_eq_false_iff_not];omega
      rw[this,if_neg c];rfl
  have hfold:gs.foldl (gf' n) (if n<1∨32<n then 2 else 0)=chk n gs:=by
    rw[gf_fold];unfold chk;by_cases c:n<1∨32<n
    · simp only[if_pos c];simp
    · simp only[if_neg c];simp
  by_cases hc:chk n gs=0
  rotate_left
  · have t1:qal n gs=some ([],(chk n gs,())):=by
      unfold qal;rw[hchk];simp only[Option.bind_some,bne_t hc,cond_true]
    have t2:qaj n gs=some ([],(chk n gs,())):=by
      unfold qaj;rw[hchk];simp only[Option.bind_some,bne_t hc,cond_true]
    have t3:qH n gs a=some ((0,(0,(0,(0,())))),(chk n gs,())):=by
      unfold qH;rw[hchk];simp only[Option.bind_some,bne_t hc,cond_true]
    have t4:qZ n gs a b=some (0,(chk n gs,())):=by
      unfold qZ;rw[hchk];simp only[Option.bind_some,bne_t hc,cond_true]
    rw[t1,t2,t3,t4];simp only[Option.bind_some];rw[hf0];simp only[Option.bind_some];rw[hfl,hfold,hchk];simp only[Option.bind_some,bne_self_eq_false,cond_false,bne_t hc,cond_true,beq_self_eq_true,Bool.and_self,List.length_nil];rfl
  obtain⟨hG,hn⟩:=chk_ok hl hc;generalize n.toNat=m at hG hn;subst hn;rw[hc] at hchk hfold;obtain⟨r,r1,r2,r3,t1⟩:=qgw hG hchk;obtain⟨pts,hp,p1,p2⟩:=qd9 hG;obtain⟨d,e,t4,hd⟩:=qje hG hchk a b;have t2:qaj (m:Int) gs=some (pts,(0,())):=by
    unfold qaj;rw[hchk,hp];simp only[Option.bind_some,bne_self_eq_false,cond_false]
  have t5:=rows_spec hG;have hloop:=rows_loop hG r1 r2 r3 pts p1 p2;have hdiv:=qhK _ pr (divOK_of (gs:=gs) hG.2.1 r1 r3) hpl;have tail:∀z:Int×Int×Int×Int×Unit,∀w:Int,(Option.bind (qb8 (m:Int) gs a b d e) fun r27=>Option.bind (gopt r27 false (qcd (r.map (fin r)) pr)) fun r28=>some (r27&&r28))=some true:=by
    intro _ _;rw[hd];simp only[Option.bind_some,gopt,cond_true,hdiv];rfl
  rw[t1,t2,t4];simp only[Option.bind_some]
  have hlen:(((r.map (fin r)).length:Nat):Int)=(m:Int):=by simp[r1]
  have hlen2:((pts.length:Nat):Int)=(m:Int):=by omega
  by_cases ca:a<0∨(m:Int)≤a
  · have t3:qH (m:Int) gs a=some ((0,(0,(0,(0,())))),(1,())):=by
      unfold qH
      have:(decide (a<(0:Int))||decide (a≥(m:Int)))=true:=by simp only[Bool.or_eq_true,decide_eq_true_eq];exact ca
      rw[hchk];simp only[Option.bind_some,bne_self_eq_false,cond_false,this,cond_true]
    have ca':(decide (a<(0:Int))||decide (a≥(m:Int)))=true:=by simp only[Bool.or_eq_true,decide_eq_true_eq];exact ca
    rw[t3];simp only[Option.bind_some];rw[hf0];simp only[Option.bind_some];rw[hfl,hfold,hchk,t5];simp only[Option.bind_some,bne_self_eq_false,cond_false,ca',cond_true,beq_self_eq_true,Bool.and_self,Bool.not_true,Bool.or_false,Sum.elim_inl,hlen,hlen2,hloop];exact tail (0,0,0,0,()) 0
  · have ca':(decide (a<(0:Int))||decide (a≥(m:Int)))=false:=by simp only[Bool.or_eq_false_iff,decide_eq_false_iff_not];omega
    obtain⟨k,rfl⟩:∃k:Nat,a=(k:Int):=⟨a.toNat,by omega⟩;have t3:qH (m:Int) gs (k:Int)=some (bkOf gs k,(0,())):=by
      unfold qH;rw[hchk,qfW hG k (by omega)];simp only[Option.bind_some,bne_self_eq_false,cond_false,ca']
    rw[t3];simp only[Option.bind_some];rw[hf0];simp only[Option.bind_some];rw[hfl,hfold,hchk,t5];have i2:inb (k:Int) ((rowsB gs m).map (fin (rowsB gs m))).length=true:=inb_iff.2 (by simp[qay];omega);have hk:gR ((rowsB gs m).map (fin (rowsB gs m))) k=fin (rowsB gs m) (rowB gs k):=by
      rw[gR_lt (by simp[qay];omega),List.getElem_map,←gR_lt (by rw[qay];omega),qfA gs (by omega)]
    have hk2:(fin (rowsB gs m) (rowB gs k)).2.2.1=bkOf gs k:=rfl
    have him:∀b,imp b true=true:=fun b=>by cases b<;>rfl
    simp only[Option.bind_some,bne_self_eq_false,cond_false,ca',hz,Int.toNat_natCast,hk,hk2,i2,him,qo,beq_self_eq_true,Bool.and_self,Bool.not_true,Bool.or_false,Sum.elim_inl,hlen,hlen2,hloop];exact tail (0,0,0,0,()) 0
end Go.Proofs.Ytcifaoaepbidoaa
