/- Several texts in one: Den2, Den3, Den4, Den5, Den6. -/
import Derived.Test.YteahiolockghkaaGreatDoorMAA
import Derived.Laws.Cover3
import Derived.Laws.Pointers
import Derived.WideLaws
namespace Go.Den
open Go.Eng
set_option linter.unusedVariables false
set_option linter.unusedSectionVars false
set_option linter.unusedSimpArgs false
variable [CT : Ctx]

theorem qsX (a:Addr) (j k:Nat):(a.add j).add k=a.add (j+k):=by
 unfold Addr.add;by_cases h:j=0
 ·subst h;simp
 ·by_cases g:k=0
  ·subst g;simp[h]
  ·simp[h,g,Nat.add_assoc]
theorem CellsAt.part {w:World} {a:Addr} {us:List Value} (h:CellsAt w a us) (k m:Nat):CellsAt w (a.add k) ((us.drop k).take m):=by
 intro j v hv;rw[qsX];refine h (k+j) v ?_;rw[List.getElem?_take] at hv;split at hv
 ·simpa using hv
 ·cases hv
theorem CellsAt.drop {w:World} {a:Addr} {us:List Value} (h:CellsAt w a us) (k:Nat):CellsAt w (a.add k) (us.drop k):=by
 intro j v hv;rw[qsX];exact h (k+j) v (by simpa using hv)
theorem qcP {w:World} {b:Nat} {cur:Array Value} {i:TypeId} {fz:Nat×Nat} (h:w.heap[b]?=some (.cells cur i fz)) (off:Nat):CellsAt w ⟨b,off,none⟩ (cur.toList.drop off):=by
 intro j v hv;rw[adr_add]
 have:cur[off+j]?=some v:=by simpa using hv
 simp[World.cell?,h,this]
theorem CellsAt.take {w:World} {a:Addr} {us:List Value} (h:CellsAt w a us) (m:Nat):CellsAt w a (us.take m):=by
 intro j v hv;rw[List.getElem?_take] at hv;split at hv
 ·exact h j v hv
 ·cases hv
theorem Row.blk {w:World} {b:Nat} {cur:Array Value} {i:TypeId} (h:Row w b cur i) (off:Nat):CellsAt w ⟨b,off,none⟩ (cur.toList.drop off):=by
 obtain⟨fz,h,_⟩:=h;exact qcP h off
theorem OwnR.cells {w:World} {i:TypeId} {size:Nat} {v:Value} {M:List Nat} {n:Nat} {us:List Value} (h:OwnR w i size v M n us) (hn:n≠0):∃b cap,M=[b]∧v = .slice (some ⟨b,0,none⟩) n cap∧n≤cap∧CellsAt w ⟨b,0,none⟩ us:=by
 rcases h with ⟨_,_,h,_⟩ | ⟨b,cap,cur,h1,h2,h3,h4,h5,h6,h7⟩
 ·exact absurd h hn
 ·refine⟨b,cap,h1,h2,h4,?_⟩;have:=CellsAt.take (h3.blk 0) (n*size);rw[List.drop_zero,h7] at this;exact this
theorem OwnR.lt {w:World} {i:TypeId} {size:Nat} {v:Value} {M:List Nat} {n:Nat} {us:List Value} (h:OwnR w i size v M n us):∀b∈M,b<w.heap.size:=by
 intro b hb;rcases h with ⟨h,_⟩ | ⟨b',cap,cur,h1,h2,h3,_⟩
 ·rw[h] at hb;cases hb
 ·rw[h1] at hb;simp at hb;subst hb;exact h3.lt
theorem OwnR.sl {w:World} {S:Sp} {i:TypeId} {e:Ty} {v:Value} {M:List Nat} {xs:List (D e)} {us:List Value} (h:OwnR w i e.size v M xs.length us) (hr:RepL (fun x c=>Rep w S e x [] c) xs us) (hM:∀b∈M,S b):Rep w S (.sl e) xs [] [v]:=by
 refine⟨rfl,?_⟩;by_cases hx:xs=[]
 ·subst hx;simp only[RepL] at hr;subst hr;rcases h with ⟨_,⟨ao,rfl⟩,_⟩ | ⟨b,cap,cur,h1,rfl,h3,h4,_⟩
  ·exact⟨ao,0,[],rfl,Nat.le_refl _,rfl,fun h=>absurd rfl h⟩
  ·exact⟨_,cap,[],rfl,h4,rfl,fun h=>absurd rfl h⟩
 ·obtain⟨b,cap,h1,h2,h3,h4⟩:=h.cells (fun hn=>hx (List.eq_nil_of_length_eq_zero hn));exact⟨_,cap,us,by rw[h2],h3,hr,fun _=>⟨_,rfl,hM b (by simp[h1]),h4⟩⟩

theorem qak {e e':Ty} {xs:List (D e')} {ys:List (D e)} (h:castL e e' xs=some ys):∃he:e'=e,he▸xs=ys:=by
 unfold castL at h;split at h
 ·rename_i he;exact⟨he,Option.some.inj h⟩
 ·cases h

theorem ofSl_v {e:Ty} {objs:List OB} {x:Value} {xs:List (D e)} (h:ofSl e objs (.v x)=some xs):x = .slice none 0 0∧xs=[]:=by
 cases x with
 | slice a l c =>
  cases a with
  | some a=>simp[ofSl] at h
  | none =>
   cases l with
   | succ l=>simp[ofSl] at h
   | zero =>
    cases c with
    | succ c=>simp[ofSl] at h
    | zero=>simp only[ofSl,Option.some.injEq] at h;exact⟨rfl,h.symm⟩
 | _=>simp[ofSl] at h
theorem ofOsl_v {i:TypeId} {e:Ty} {objs:List OB} {x:Value} {xs:List (D e)} (h:ofOsl i e objs (.v x)=some xs):x = .slice none 0 0∧xs=[]:=by
 cases x with
 | slice a l c =>
  cases a with
  | some a=>simp[ofOsl] at h
  | none =>
   cases l with
   | succ l=>simp[ofOsl] at h
   | zero =>
    cases c with
    | succ c=>simp[ofOsl] at h
    | zero=>simp only[ofOsl,Option.some.injEq] at h;exact⟨rfl,h.symm⟩
 | _=>simp[ofOsl] at h
theorem qvn {p q p' q':Ty} {xs:List (El p' q')} {ys:List (El p q)} (h:castX p q p' q' xs=some ys):∃(hp:p'=p) (hq:q'=q),hp▸hq▸xs=ys:=by
 unfold castX at h;split at h
 ·rename_i hh;exact⟨hh.1,hh.2,Option.some.inj h⟩
 ·cases h
theorem qqa {w:World} {S:Sp}:∀ks:List Int,RepL (fun (x:D (.int .i64)) c=>Rep w S (.int .i64) x [] c) ks (ks.map (Value.int .i64))
 | []=>rfl
 | k::ks=>⟨[.int .i64 k],_,rfl,⟨rfl,rfl⟩,qqa ks⟩
theorem qtd {w:World} {S:Sp}:∀ {ks:List Int} {us:List Value},RepL (fun (x:D (.int .i64)) c=>Rep w S (.int .i64) x [] c) ks us→us=ks.map (Value.int .i64)
 | [],_,h=>h
 | k::ks,_,⟨c,r,e,h1,h2⟩=>by
  rw[e,h1.2,qtd h2];rfl
theorem KidI.rep {w:World} {S:Sp} {ks:List Int} {v:Value} (h:KidI w S ks v):Rep w S (.sl (.int .i64)) ks [] [v]:=by
 rcases h with ⟨rfl,rfl⟩ | ⟨a,cap,h1,h2,h3,h4,h5⟩
 ·exact⟨rfl,none,0,[],rfl,Nat.le_refl _,rfl,fun hn=>absurd rfl hn⟩
 ·exact⟨rfl,some a,cap,_,congrArg (fun z=>[z]) h2,h3,qqa ks,fun _=>⟨a,rfl,h4,h5⟩⟩
theorem ElR.rep {w:World} {S:Sp} {p q:Ty} {x:El p q} {c:List Value} (h:ElR (fun x c=>Rep w S p x [] c) (fun x c=>Rep w S q x [] c) (KidI w S) (x,none) c):Rep w S (eT p q) x [] c:=by
 obtain⟨c1,v,c2,h1,h2,h3,_,h5⟩:=h;exact⟨c1,v::c2,[],[],h1,rfl,h2,⟨[v],c2,[],[],rfl,rfl,KidI.rep h5,h3⟩⟩
theorem ElR.len {w:World} {S:Sp} {p q:Ty} {y:El p q×Option Value} {c:List Value} (h:ElR (fun x c=>Rep w S p x [] c) (fun x c=>Rep w S q x [] c) (KidI w S) y c):c.length=p.size+(1+q.size):=by
 obtain⟨c1,v,c2,h1,h2,h3,_⟩:=h;rw[h1,List.length_append,List.length_cons,Rep.length p h2,Rep.length q h3];omega
theorem hz_none {A:Type} (xs:List A):hz none xs=xs.map fun x=>(x,none):=by
 refine List.ext_getElem? fun t=>?_;simp[hz,hvAt]
theorem qss {A:Type} (h:Option (Nat×Value)) (xs:List A):(hz h xs).length=xs.length:=by simp[hz]
theorem qiM {A:Type} (h:Option (Nat×Value)) (xs:List A) (t:Nat):(hz h xs)[t]?=(xs[t]?).map fun x=>(x,hvAt h t):=by simp[hz]
theorem RepL.of_map {A B:Type} {R:B→List Value→Prop} (f:A→B):∀ {xs:List A} {us:List Value},RepL R (xs.map f) us→RepL (fun x c=>R (f x) c) xs us
 | [],_,h=>h
 | x::xs,_,⟨c,r,e,h1,h2⟩=>⟨c,r,e,h1,RepL.of_map f h2⟩
theorem hr_rep {w:World} {S:Sp} {p q:Ty} {xs:List (El p q)} {us:List Value} (h:RepL (ElR (fun x c=>Rep w S p x [] c) (fun x c=>Rep w S q x [] c) (KidI w S)) (hz none xs) us):RepL (fun (x:D (eT p q)) c=>Rep w S (eT p q) x [] c) xs us:=by
 rw[hz_none] at h;exact(RepL.of_map _ h).mono fun x c hx=>ElR.rep hx
theorem onl_kid {w:World} {S:Sp} {j:TypeId} {y:Option (List Int)} {M:List Nat} {v:Value} (h:Rep w S (.onl j (.int .i64)) y M [v]):KidO w j y M v:=by
 rcases h with ⟨h1,h2,h3⟩ | ⟨xs,v',us,h1,h2,h3,h4⟩
 ·exact .inl ⟨h1,h2,(List.cons.inj h3).1⟩
 ·obtain rfl:v=v':=(List.cons.inj h2).1;rw[qtd h4] at h3;exact .inr ⟨xs,h1,h3⟩
theorem KidO.slice {w:World} {j:TypeId} {y:Option (List Int)} {M:List Nat} {v:Value} (h:KidO w j y M v):(∃o:Option Nat,M=o.toList)∧∃ao n c,v = .slice ao n c:=by
 rcases h with ⟨_,rfl,rfl⟩ | ⟨ks,_,⟨rfl,⟨ao,rfl⟩,_⟩ | ⟨b,cap,cur,rfl,rfl,_⟩⟩
 ·exact⟨⟨none,rfl⟩,_,_,_,rfl⟩
 ·exact⟨⟨none,rfl⟩,_,_,_,rfl⟩
 ·exact⟨⟨some b,rfl⟩,_,_,_,rfl⟩
theorem OwnR.slice {w:World} {i:TypeId} {sz n:Nat} {us:List Value} {M:List Nat} {v:Value} (h:OwnR w i sz v M n us):(∃o:Option Nat,M=o.toList)∧∃ao n c,v = .slice ao n c:=by
 rcases h with ⟨rfl,⟨ao,rfl⟩,_⟩ | ⟨b,cap,cur,rfl,rfl,_⟩
 ·exact⟨⟨none,rfl⟩,_,_,_,rfl⟩
 ·exact⟨⟨some b,rfl⟩,_,_,_,rfl⟩
section
variable {F : Fr} {objs : List OB} {γ : Gh} {w : World} {S : Sp}

theorem qqG (r:ORel F objs γ w) (hS:Sp.le (Imm objs γ w) S) {e:Ty} {c:Cv} {xs:List (D e)} {v:Value} (h:ofSl e objs c=some xs) (hv:VR objs γ w c v) (hids:∀o,c = .os o→∀b,(γ o).2=some b→S b):Rep w S (.sl e) xs [] [v]:=by
 cases c with
 | v x =>
  simp only[VR] at hv;obtain⟨rfl,rfl⟩:=ofSl_v h;subst hv;exact⟨rfl,none,0,[],rfl,Nat.le_refl _,rfl,fun hn=>absurd rfl hn⟩
 | sl e' ys =>
  simp only[ofSl] at h;obtain⟨rfl,h⟩:=qak h;subst h;exact Rep.mono hS (fun _ _=>rfl) _ hv (by simp)
 | os o =>
  simp only[ofSl,Option.bind_eq_some_iff] at h;obtain⟨ob,ho,h⟩:=h
  cases ob with
  | arr i e' ys fz =>
   simp only at h;obtain⟨rfl,h⟩:=qak h;subst h;obtain⟨us,h1,h2⟩:=r.rep o _ ho;have hv':=hv.2.1;subst hv';exact OwnR.sl h1 (h2.mono fun x c hx=>Rep.mono hS (fun _ _=>rfl) _ hx (by simp)) (fun b hb=>hids o rfl b (by simpa using hb))
  | hr i p q j ys hole =>
   cases hole with
   | some _=>simp at h
   | none =>
    simp only at h;obtain⟨rfl,h⟩:=qak h;subst h;obtain⟨us,h1,h2,_⟩:=r.rep o _ ho;have hv':=hv.2.1;subst hv';exact OwnR.sl (e:=eT p q) h1 ((hr_rep h2).mono fun x c hx=>Rep.mono hS (fun _ _=>rfl) _ hx (by simp)) (fun b hb=>hids o rfl b (by simpa using hb))
  | _=>simp at h
 | ptr o off=>simp[ofSl] at h
 | ifc t e' x=>simp[ofSl] at h
 | mp o=>simp[ofSl] at h
 | fn f caps=>simp[ofSl] at h
 | er b=>simp[ofSl] at h
 | rf x=>simp[ofSl] at h
 | e0 =>
  simp only[ofSl,Option.some.injEq] at h;subst h;obtain⟨ao,rfl⟩:=hv;exact⟨rfl,ao,0,[],rfl,Nat.le_refl _,rfl,fun hn=>absurd rfl hn⟩

theorem qfY {objs:List OB} {cs l:List Cv} (h:ownB objs cs=some l):∃o off,cs=[.ptr o off]∧off=0∧objs[o]?=some (.box l):=by
 unfold ownB at h;split at h
 ·rename_i o off;split at h
  ·rename_i l' ho
   cases hb:Nat.beq off 0 with
   | false=>rw[hb] at h;cases h
   | true =>
    rw[hb] at h;simp only[cond_true,Option.some.injEq] at h;subst h;exact⟨o,off,rfl,Nat.eq_of_beq_eq_true hb,ho⟩
  ·cases h
 ·cases h
theorem qrW {objs:List OB} {t:TypeId} {cs:List Cv} {c:Cv} (h:bldC objs t cs=some c):∃o off,cs=[.ptr o off]∧off=0∧objs[o]?=some (.bld t c):=by
 unfold bldC at h;split at h
 ·rename_i o off;split at h
  ·rename_i t' c' ho
   cases hb:(Nat.beq off 0&&Nat.beq t' t) with
   | false=>rw[hb] at h;cases h
   | true =>
    rw[hb] at h;simp only[cond_true,Option.some.injEq] at h;subst h;simp only[Bool.and_eq_true] at hb;obtain rfl:=Nat.eq_of_beq_eq_true hb.2;exact⟨o,off,rfl,Nat.eq_of_beq_eq_true hb.1,ho⟩
  ·cases h
 ·cases h
theorem qo1 {objs:List OB} {γ:Gh} {w:World} {c:Cv} {x:Bool} {v:Value} (h:cvErr c=some x) (hv:VR objs γ w c v):(x=false∧v = .nilIface)∨(x=true∧∃t p,v = .iface t p):=by
 cases c with
 | v y =>
  cases y with
  | nilIface=>simp only[cvErr,Option.some.injEq] at h;subst h;exact .inl ⟨rfl,hv⟩
  | _=>simp[cvErr] at h
 | er b=>simp only[cvErr,Option.some.injEq] at h;subst h;exact hv
 | _=>simp[cvErr] at h
theorem u8_rep {w:World} {S:Sp}:∀ {xs:List (D (.int .u8))} {us:List Value},RepL (fun x c=>Rep w S (.int .u8) x [] c) xs us→us=List.map (α:=Int) (Value.int .u8) xs
 | [],us,h=>h
 | x::xs,us,⟨c,r,e,h1,h2⟩=>by
  rw[e,h1.2,u8_rep h2];rfl
theorem rep_u8 {w:World} {S:Sp}:∀xs:List (D (.int .u8)),RepL (fun x c=>Rep w S (.int .u8) x [] c) xs (List.map (α:=Int) (Value.int .u8) xs)
 | []=>rfl
 | x::xs=>⟨[.int .u8 x],_,rfl,⟨rfl,rfl⟩,rep_u8 xs⟩
def blocks (γ:Gh) (l:List Nat):List Nat:=l.flatMap fun o=>(γ o).2.toList
theorem qot (r:ORel F objs γ w) (hS:Sp.le (Imm objs γ w) S) {i:TypeId} {e:Ty} {c:Cv} {xs:List (D e)} {v:Value} (h:ofOsl i e objs c=some xs) (hv:VR objs γ w c v) :
  Rep w S (.osl i e) xs (blocks γ (osId c)) [v]∧∀o,c = .os o→Mut objs o:=by
 cases c with
 | v x =>
  simp only[VR] at hv;obtain⟨rfl,rfl⟩:=ofOsl_v h;subst hv;exact⟨⟨_,[],rfl,.inl ⟨rfl,⟨_,rfl⟩,rfl,rfl⟩,rfl⟩,fun o ho=>by cases ho⟩
 | sl e' ys=>simp[ofOsl] at h
 | os o =>
  simp only[ofOsl,Option.bind_eq_some_iff] at h;obtain⟨ob,ho,h⟩:=h
  cases ob with
  | arr i' e' ys fz =>
   cases fz
   ·simp only[chk_some] at h;obtain⟨hi,h⟩:=h;have hi':=Nat.eq_of_beq_eq_true hi;subst hi';obtain⟨rfl,h⟩:=qak h;subst h;obtain⟨us,h1,h2⟩:=r.rep o _ ho;have hv':=hv.2.1;subst hv';refine⟨⟨_,us,rfl,?_,h2.mono fun x c hx=>Rep.mono hS (fun _ _=>rfl) _ hx (by simp)⟩,fun o' ho'=>by cases ho';exact⟨_,ho,rfl⟩⟩;simpa[blocks,osId] using h1
   ·simp at h
  | nilr =>
   simp only[Option.some.injEq] at h;subst h;have h1:γ o=(.slice none 0 0,none):=r.rep o _ ho;have hv':=hv.2.1;rw[h1] at hv';subst hv';exact⟨⟨_,[],rfl,.inl ⟨by simp[blocks,osId,h1],⟨_,rfl⟩,rfl,rfl⟩,rfl⟩,fun o' ho'=>by cases ho';exact⟨_,ho,rfl⟩⟩
  | _=>simp at h
 | ptr o off=>simp[ofOsl] at h
 | fn f caps=>simp[ofOsl] at h
 | ifc t e' x=>simp[ofOsl] at h
 | mp o=>simp[ofOsl] at h
 | er b=>simp[ofOsl] at h
 | rf x=>simp[ofOsl] at h
 | e0 =>
  simp only[ofOsl,Option.some.injEq] at h;subst h;obtain⟨ao,rfl⟩:=hv;exact⟨⟨_,[],rfl,.inl ⟨rfl,⟨_,rfl⟩,rfl,rfl⟩,rfl⟩,fun o ho=>by cases ho⟩

theorem qbX {l:List Cv} {c:Cv} (h:cv1 l=some c):l=[c]:=by
 cases l with
 | nil=>cases h
 | cons a r=>cases r with
  | nil=>simp only[cv1,Option.some.injEq] at h;rw[h]
  | cons _ _=>cases h
theorem qpg {k:IntKind} {c:Cv} {x:Int} (h:cvInt k c=some x):c = .v (.int k x):=by
 cases c with
 | v y =>
  cases y with
  | int k' n =>
   simp only[cvInt,chk_some,Option.some.injEq] at h;obtain⟨h1,rfl⟩:=h;obtain rfl:=qbp h1;rfl
  | _=>simp[cvInt] at h
 | _=>simp[cvInt] at h
theorem qmb {c:Cv} {x:Bool} (h:qsk c=some x):c = .v (.bool x):=by
 cases c with
 | v y =>
  cases y with
  | bool b=>simp only[qsk,Option.some.injEq] at h;subst h;rfl
  | _=>simp[qsk] at h
 | _=>simp[qsk] at h
theorem qoE {c:Cv} {x:ByteArray} (h:cvStr c=some x):c = .v (.string x):=by
 cases c with
 | v y =>
  cases y with
  | string b=>simp only[cvStr,Option.some.injEq] at h;subst h;rfl
  | _=>simp[cvStr] at h
 | _=>simp[cvStr] at h
theorem VRL.one' {c:Cv} {cs:List Value} (h:VRL objs γ w [c] cs):∃v,cs=[v]∧VR objs γ w c v:=by
 obtain⟨v,q,rfl,h2,h3⟩:=h;simp only[VRL] at h3;subst h3;exact⟨v,rfl,h2⟩
theorem qoH {e e':Ty} {x:Option (List (D e'))} {y:Option (List (D e))} (h:castO e e' x=some y):∃he:e'=e,he▸x=y:=by
 unfold castO at h;split at h
 ·rename_i he;exact⟨he,Option.some.inj h⟩
 ·cases h
theorem ofOnl_v {i:TypeId} {e:Ty} {objs:List OB} {v:Value} {x:Option (List (D e))} (h:ofOnl i e objs (.v v)=some x):v = .slice none 0 0∧x=none:=by
 unfold ofOnl at h;split at h
 ·rename_i hc;cases hc
 ·rename_i hc;cases hc;exact⟨rfl,(Option.some.inj h).symm⟩
 ·cases h
theorem qoY (r:ORel F objs γ w) (hS:Sp.le (Imm objs γ w) S) {i:TypeId} {e:Ty} {c:Cv} {x:Option (List (D e))} {v:Value} (h:ofOnl i e objs c=some x) (hv:VR objs γ w c v) :
  Rep w S (.onl i e) x (blocks γ (osId c)) [v]∧∀o,c = .os o→Mut objs o:=by
 cases c with
 | v x' =>
  simp only[VR] at hv;obtain⟨rfl,rfl⟩:=ofOnl_v h;subst hv;exact⟨.inl ⟨rfl,rfl,rfl⟩,fun o ho=>by cases ho⟩
 | os o =>
  simp only[ofOnl,Option.bind_eq_some_iff] at h;obtain⟨ob,ho,h⟩:=h
  have hm:mutOb ob=true→∀o',Cv.os o=Cv.os o'→Mut objs o':=fun hm o' ho'=>by cases ho';exact⟨_,ho,hm⟩
  cases ob with
  | arr i' e' ys fz =>
   cases fz
   ·simp only[chk_some,Option.bind_eq_some_iff,Option.some.injEq] at h;obtain⟨hi,zs,h,rfl⟩:=h;have hi':=Nat.eq_of_beq_eq_true hi;subst hi';obtain⟨rfl,h⟩:=qak h;subst h;obtain⟨us,h1,h2⟩:=r.rep o _ ho;have hv':=hv.2.1;subst hv';refine⟨.inr ⟨ys,_,us,rfl,rfl,?_,h2.mono fun x c hx=>Rep.mono hS (fun _ _=>rfl) _ hx (by simp)⟩,hm rfl⟩;simpa[blocks,osId] using h1
   ·simp at h
  | mbr i' e' y =>
   simp only[chk_some] at h;obtain⟨hi,h⟩:=h;have hi':=Nat.eq_of_beq_eq_true hi;subst hi';obtain⟨rfl,h⟩:=qoH h;subst h;have hv':=hv.2.1;refine⟨?_,hm rfl⟩;rcases r.rep o _ ho with ⟨rfl,h1⟩ | ⟨ys,us,rfl,h1,h2⟩
   ·rw[h1] at hv';subst hv';exact .inl ⟨rfl,by simp[blocks,osId,h1],rfl⟩
   ·subst hv';refine .inr ⟨ys,_,us,rfl,rfl,?_,h2.mono fun x c hx=>Rep.mono hS (fun _ _=>rfl) _ hx (by simp)⟩;simpa[blocks,osId] using h1
  | nilr =>
   simp only[Option.some.injEq] at h;subst h;have h1:γ o=(.slice none 0 0,none):=r.rep o _ ho;have hv':=hv.2.1;rw[h1] at hv';subst hv';exact⟨.inl ⟨rfl,by simp[blocks,osId,h1],rfl⟩,hm rfl⟩
  | _=>simp at h
 | _=>simp[ofOnl] at h
theorem qoX {m:Nat→Option Value} (hm:∀x b,γ.m x=some b→m x=some b) {c:Cv} {x:Nat} {v:Value} (h:cvRef c=some x) (hv:VR objs γ w c v):RefR m x [v]:=by
 cases c with
 | rf y =>
  simp only[cvRef,Option.some.injEq] at h;subst h;exact RefR.mono hm hv
 | v y =>
  simp only[VR] at hv;subst hv
  cases v with
  | slice a n c =>
   unfold cvRef at h;split at h
   ·rename_i heq;cases heq
   ·rename_i heq;cases heq;cases h;exact .inl ⟨rfl,rfl⟩
   ·cases h
  | _=>simp[cvRef] at h
 | _=>simp[cvRef] at h
theorem qu8 {e e':Ty} {x:D e'} {y:D e} (h:castD e e' x=some y):∃he:e'=e,y=he▸x:=by
 unfold castD at h;split at h
 ·rename_i he;cases h;exact⟨he,rfl⟩
 ·cases h
theorem qvp {k v k' v':Ty} {xs:List (D k'×D v')} {ys:List (D k×D v)} (h:castM k v k' v' xs=some ys):∃(h1:k'=k) (h2:v'=v),ys=h1▸h2▸xs:=by
 unfold castM at h;split at h
 ·rename_i he;cases h;exact⟨he.1,he.2,rfl⟩
 ·cases h
theorem qvC {t:TypeId} {e:Ty} {c:Cv} {x:D e} (h:cvIfc t e c=some x):c = .ifc t e x:=by
 cases c with
 | ifc t' e' y =>
  simp only[cvIfc,chk_some] at h;obtain⟨h4,h5⟩:=h;obtain rfl:=Nat.eq_of_beq_eq_true h4;obtain⟨rfl,h6⟩:=qu8 h5;subst h6;rfl
 | _=>simp[cvIfc] at h
theorem ofMp_spec {k v:Ty} {objs:List OB} {c:Cv} {xs:List (D k×D v)} (h:ofMp k v objs c=some xs):∃o,c = .mp o∧objs[o]?=some (.mp k v xs):=by
 cases c with
 | mp o =>
  simp only[ofMp,Option.bind_eq_some_iff] at h;obtain⟨ob,hob,h4⟩:=h
  cases ob with
  | mp k' v2 ys =>
   simp only at h4;obtain⟨rfl,rfl,h5⟩:=qvp h4;subst h5;exact⟨o,rfl,hob⟩
  | _=>simp at h4
 | _=>simp[ofMp] at h
theorem ofHr_spec (r:ORel F objs γ w) (hS:Sp.le (Imm objs γ w) S) {i:TypeId} {p q:Ty} {j:TypeId} {b:Bool} {c:Cv} {x:List (El p q)×HoleT b} {v:Value} (h:ofHr i p q j b objs c=some x) (hv:VR objs γ w c v) :
  Rep w S (.hrl i p q j b) x (blocks γ (hrId objs c)) [v]∧∀o∈hrId objs c,Mut objs o:=by
 cases c with
 | os o =>
  simp only[ofHr,Option.bind_eq_some_iff] at h;obtain⟨ob,ho,h⟩:=h
  cases ob with
  | hr i' p' q' j' xs hole =>
   simp only[chk_some,Bool.and_eq_true,Option.bind_eq_some_iff] at h;obtain⟨⟨hi,hj⟩,ys,hc,h⟩:=h;obtain rfl:=Nat.eq_of_beq_eq_true hi;obtain rfl:=Nat.eq_of_beq_eq_true hj;obtain⟨rfl,rfl,hc⟩:=qvn hc;subst hc;obtain⟨us,h1,h2,h3⟩:=r.rep o _ ho;have hv':=hv.2.1;subst hv';have hm:Mut objs o:=⟨_,ho,rfl⟩;have h2':=h2.mono (ElR.mono (fun x c hx=>Rep.mono hS (fun _ _=>rfl) p' hx (by simp)) (fun x c hx=>Rep.mono hS (fun _ _=>rfl) q' hx (by simp)) fun ks v hk=>hk.mono hS fun _ _=>rfl)
   cases hole with
   | none =>
    cases b with
    | true=>cases h
    | false =>
    simp only[Option.some.injEq] at h;subst h
    have e:hrId objs (.os o)=[o]:=by simp[hrId,ho]
    rw[e];refine⟨⟨_,us,(γ o).2.toList,[],none,rfl,by simp[blocks],h1,h2',.inl ⟨rfl,rfl,rfl⟩⟩,fun o' ho'=>?_⟩;rw[List.mem_singleton.1 ho'];exact hm
   | some hh =>
    obtain⟨k,r'⟩:=hh
    cases b with
    | false=>cases h
    | true =>
    simp only[Option.bind_eq_some_iff,Option.some.injEq] at h;obtain⟨y,hy,h⟩:=h;subst h
    have e:hrId objs (.os o)=[o,r']:=by simp[hrId,ho]
    rw[e];obtain⟨k1,k2⟩:=h3 k r' rfl;obtain⟨q1,q2⟩:=qoY (S:=S) r hS hy k2;refine⟨⟨_,us,(γ o).2.toList,blocks γ (osId (.os r')),some (k,(γ r').1),rfl,by simp[blocks,osId],h1,h2',.inr ⟨k,y,_,rfl,rfl,k1,onl_kid q1⟩⟩,fun o' ho'=>?_⟩;rcases List.mem_cons.1 ho' with rfl | ho'
    ·exact hm
    ·rw[List.mem_singleton.1 ho'];exact q2 r' rfl
  | _=>simp at h
 | _=>simp[ofHr] at h
theorem qaS (r:ORel F objs γ w) (hS:Sp.le (Imm objs γ w) S) (τ:Ty):∀ {l:List Cv} {x:D τ} {cs:List Value},toD objs τ l=some x→VRL objs γ w l cs →
  (∀o∈idsD objs τ l,∀b,(γ o).2=some b→S b)→Rep w S τ x (blocks γ (idsO objs τ l)) cs∧∀o∈idsO objs τ l,Mut objs o:=by
 induction τ with
 | int k =>
  intro l x cs h hv _;obtain⟨c,h1,h2⟩:=Option.bind_eq_some_iff.1 h;obtain rfl:=qbX h1;obtain⟨v,rfl,h3⟩:=hv.one';rw[qpg h2] at h3;exact⟨⟨rfl,by rw[h3]⟩,fun o ho=>by simp[idsO] at ho⟩
 | bool =>
  intro l x cs h hv _;obtain⟨c,h1,h2⟩:=Option.bind_eq_some_iff.1 h;obtain rfl:=qbX h1;obtain⟨v,rfl,h3⟩:=hv.one';rw[qmb h2] at h3;exact⟨⟨rfl,by rw[h3]⟩,fun o ho=>by simp[idsO] at ho⟩
 | str =>
  intro l x cs h hv _;obtain⟨c,h1,h2⟩:=Option.bind_eq_some_iff.1 h;obtain rfl:=qbX h1;obtain⟨v,rfl,h3⟩:=hv.one';rw[qoE h2] at h3;exact⟨⟨rfl,by rw[h3]⟩,fun o ho=>by simp[idsO] at ho⟩
 | err =>
  intro l x cs h hv _;obtain⟨c,h1,h2⟩:=Option.bind_eq_some_iff.1 h;obtain rfl:=qbX h1;obtain⟨v,rfl,h3⟩:=hv.one';exact⟨⟨rfl,v,rfl,qo1 h2 h3⟩,fun o ho=>by simp[idsO] at ho⟩
 | ifc t e _ =>
  intro l x cs h hv _;obtain⟨c,h1,h2⟩:=Option.bind_eq_some_iff.1 h;obtain rfl:=qbX h1;obtain⟨v,rfl,h3⟩:=hv.one';have h4:=qvC h2;subst h4;exact⟨⟨rfl,by rw[show v=_ from h3]⟩,fun o ho=>by simp[idsO] at ho⟩
 | hrl i p q j b _ _ =>
  intro l x cs h hv _;obtain⟨c,h1,h2⟩:=Option.bind_eq_some_iff.1 h;obtain rfl:=qbX h1;obtain⟨v',rfl,h3⟩:=hv.one';exact ofHr_spec r hS h2 h3
 | omp k v _ _ =>
  intro l x cs h hv _;obtain⟨c,h1,h2⟩:=Option.bind_eq_some_iff.1 h;obtain rfl:=qbX h1;obtain⟨v',rfl,h3⟩:=hv.one';obtain⟨o,rfl,hob⟩:=ofMp_spec h2;obtain⟨b,hg,hm⟩:=r.rep o _ hob;obtain⟨_,b',hgb,rfl⟩:=h3;rw[hg] at hgb;cases hgb;refine⟨⟨b,by simp[idsO,cv1,mpId,blocks,hg],rfl,hm⟩,fun o' ho'=>?_⟩;simp[idsO,cv1,mpId] at ho';subst ho';exact⟨_,hob,rfl⟩
 | bld t i =>
  intro l x cs h hv hids;obtain⟨c,h1,h2⟩:=Option.bind_eq_some_iff.1 h;obtain⟨o,off,rfl,rfl,hob⟩:=qrW h1;obtain⟨v,rfl,h3⟩:=hv.one';obtain⟨b,p,v',hg,hheap,hp,hvc⟩:=r.rep o _ hob;obtain⟨_,b',hgb,rfl⟩:=h3;rw[hg] at hgb;cases hgb;obtain⟨⟨v2,us,e2,h6,h7⟩,h5⟩:=qot (S:=S) r hS h2 hvc;cases e2
  have e1:idsO objs (.bld t i) [Cv.ptr o 0]=o::osId c:=by simp[idsO,ptrId,h1]
  rw[e1];refine⟨⟨b,blocks γ (osId c),p,v',us,by simp[blocks,hg],rfl,hheap,hp,h6,u8_rep h7⟩,fun o' ho'=>?_⟩;rcases List.mem_cons.1 ho' with rfl | ho'
  ·exact⟨_,hob,rfl⟩
  ·refine h5 o' ?_
   cases c<;>simp[osId] at ho'
   rw[ho']
 | nil =>
  intro l x cs h hv _
  cases l with
  | nil =>
   simp only[VRL] at hv;subst hv;exact⟨⟨rfl,rfl⟩,fun o ho=>by simp[idsO] at ho⟩
  | cons _ _=>cases h
 | sl e _ =>
  intro l x cs h hv hids;obtain⟨c,h1,h2⟩:=Option.bind_eq_some_iff.1 h;obtain rfl:=qbX h1;obtain⟨v,rfl,h3⟩:=hv.one';exact⟨qqG r hS h2 h3 fun o ho b hb=>hids o (by subst ho;simp[idsD,cv1,osId]) b hb,fun o ho=>by simp[idsO] at ho⟩
 | osl i e _ =>
  intro l x cs h hv hids;obtain⟨c,h1,h2⟩:=Option.bind_eq_some_iff.1 h;obtain rfl:=qbX h1;obtain⟨v,rfl,h3⟩:=hv.one';obtain⟨h4,h5⟩:=qot (S:=S) r hS h2 h3;have e1:idsO objs (.osl i e) [c]=osId c:=rfl;rw[e1];refine⟨h4,fun o ho=>h5 o ?_⟩
  cases c<;>simp[osId] at ho
  rw[ho]
 | onl i e _ =>
  intro l x cs h hv hids;obtain⟨c,h1,h2⟩:=Option.bind_eq_some_iff.1 h;obtain rfl:=qbX h1;obtain⟨v,rfl,h3⟩:=hv.one';obtain⟨h4,h5⟩:=qoY (S:=S) r hS h2 h3;have e1:idsO objs (.onl i e) [c]=osId c:=rfl;rw[e1];refine⟨h4,fun o ho=>h5 o ?_⟩
  cases c<;>simp[osId] at ho
  rw[ho]
 | obx e ih =>
  intro l x cs h hv hids;obtain⟨bl,h1,h2⟩:=Option.bind_eq_some_iff.1 h;obtain⟨o,off,rfl,rfl,hob⟩:=qfY h1;obtain⟨v,rfl,h3⟩:=hv.one';obtain⟨b,T,cells,hg,hheap,hvl⟩:=r.rep o _ hob;obtain⟨_,b',hgb,rfl⟩:=h3;rw[hg] at hgb;cases hgb
  have e1:idsO objs (.obx e) [Cv.ptr o 0]=o::idsO objs e bl:=by simp[idsO,ptrId,h1]
  have e2:idsD objs (.obx e) [Cv.ptr o 0]=idsD objs e bl:=by simp[idsD,h1]
  rw[e2] at hids;obtain⟨h4,h5⟩:=ih h2 hvl hids;rw[e1];refine⟨⟨b,_,T,cells,?_,rfl,hheap,h4⟩,fun o' ho'=>?_⟩
  ·simp[blocks,hg]
  ·rcases List.mem_cons.1 ho' with rfl | ho'
   ·exact⟨_,hob,rfl⟩
   ·exact h5 o' ho'
 | ref =>
  intro l x cs h hv _;obtain⟨c,h1,h2⟩:=Option.bind_eq_some_iff.1 h;obtain rfl:=qbX h1;obtain⟨v,rfl,h3⟩:=hv.one';exact⟨⟨rfl,qoX hS.m h2 h3⟩,fun o ho=>by simp[idsO] at ho⟩
 | st f q ihf ihq =>
  intro l x cs h hv hids;simp only[toD,Option.bind_eq_some_iff] at h;obtain⟨x1,h1,x2,h2,hx⟩:=h;have hx:(x1,x2)=x:=Option.some.inj hx;subst hx;obtain⟨r1,m1⟩:=ihf h1 (hv.take f.size) (fun o ho=>hids o (by simp[idsD,ho]));obtain⟨r2,m2⟩:=ihq h2 (hv.drop f.size) (fun o ho=>hids o (by simp[idsD,ho]));refine⟨⟨_,_,_,_,(List.take_append_drop f.size cs).symm,?_,r1,r2⟩,fun o ho=>?_⟩
  ·simp[blocks,idsO]
  ·simp only[idsO,List.mem_append] at ho;exact ho.elim (m1 o) (m2 o)

theorem qJ {objs:List OB} {γ:Gh} {w:World}:∀(τ:Ty) {x:D τ} {cs:List Value},Rep w (Imm objs γ w) τ x [] cs→VRL objs γ w (cellsOf τ x) cs
 | .int k,_,_,h=>⟨_,_,h.2,rfl,rfl⟩
 | .bool,_,_,h=>⟨_,_,h.2,rfl,rfl⟩
 | .str,_,_,h=>⟨_,_,h.2,rfl,rfl⟩
 | .nil,_,_,h=>h.2
 | .sl e,xs,cs,h=>by
  obtain⟨_,ao,cap,us,h1,h2⟩:=h;exact⟨_,_,h1,⟨rfl,ao,cap,us,rfl,h2⟩,rfl⟩
 | .osl i e,xs,cs,h=>by
  obtain⟨v,us,h1,h2,h3⟩:=h;exact⟨_,_,h1,OwnR.sl h2 h3 (by simp),rfl⟩
 | .obx _,_,_,⟨_,_,_,_,h,_⟩=>by cases h
 | .onl i e,x,cs,h=>by
  rcases h with ⟨_,_,h⟩ | ⟨xs,v,us,_,h1,h2,_⟩
  ·exact⟨_,_,h,⟨_,rfl⟩,rfl⟩
  ·refine⟨_,_,h1,?_,rfl⟩;rcases h2 with ⟨_,h2,_⟩ | ⟨_,_,_,h2,_⟩
   ·exact h2
   ·cases h2
 | .err,b,_,⟨_,v,h,h2⟩=>⟨v,[],h,h2,rfl⟩
 | .bld _ _,_,_,⟨_,_,_,_,_,h,_⟩=>by cases h
 | .ifc t e,x,cs,h=>⟨_,_,h.2,rfl,rfl⟩
 | .omp _ _,_,_,⟨_,h,_⟩=>by cases h
 | .hrl _ _ _ _ _,x,cs,h=>by
  obtain⟨v,us,b1,b2,hv,h1,h2,h3,_⟩:=h
  obtain⟨rfl,rfl⟩:b1=[]∧b2=[]:=by simpa using h2.symm
  refine⟨_,_,h1,?_,rfl⟩;rcases h3 with ⟨_,h3,_⟩ | ⟨_,_,_,h3,_⟩
  ·exact h3
  ·cases h3
 | .ref,x,cs,h=>by
  obtain⟨v,rfl,h2⟩:=h.2.single;exact⟨v,[],rfl,h2,rfl⟩
 | .st f r,x,cs,h=>by
  obtain⟨c1,c2,M1,M2,h1,h2,h3,h4⟩:=h
  obtain⟨rfl,rfl⟩:M1=[]∧M2=[]:=by simpa using h2.symm
  subst h1;exact(qJ f h3).append (qJ r h4)
theorem qcV:∀(τ:Ty) (x:D τ),(cellsOf τ x).length=τ.size
 | .int k,_=>rfl
 | .bool,_=>rfl
 | .str,_=>rfl
 | .nil,_=>rfl
 | .sl e,_=>rfl
 | .osl _ _,_=>rfl
 | .obx _,_=>rfl
 | .onl _ _,_=>rfl
 | .err,_=>rfl
 | .bld _ _,_=>rfl
 | .ifc _ _,_=>rfl
 | .omp _ _,_=>rfl
 | .hrl _ _ _ _ _,_=>rfl
 | .ref,_=>rfl
 | .st f r,x=>by simp[cellsOf,qcV f,qcV r,Ty.size]
theorem qgm:∀(τ:Ty) (x:D τ) (n:Nat),(cc τ x n).1.length=τ.size
 | .int k,_,_=>rfl
 | .bool,_,_=>rfl
 | .str,_,_=>rfl
 | .nil,_,_=>rfl
 | .sl e,_,_=>rfl
 | .osl _ _,_,_=>rfl
 | .obx _,_,_=>rfl
 | .onl _ _,_,_=>rfl
 | .err,_,_=>rfl
 | .bld _ _,_,_=>rfl
 | .ifc _ _,_,_=>rfl
 | .omp _ _,_,_=>rfl
 | .hrl _ _ _ _ _,_,_=>rfl
 | .ref,_,_=>rfl
 | .st f r,x,n=>by simp[cc,qgm f,qgm r,Ty.size]

theorem qfq {w:World} {S:Sp}:∀(τ:Ty) {x:D τ} {M:List Nat} {cs:List Value},Rep w S τ x M cs→∀n:Nat,∃gs:List (Value×Option Nat),gs.length=(cc τ x n).2.length∧M=gs.flatMap (fun g=>g.2.toList) ∧
  ∀(objs:List OB) (γ:Gh),(Sp.le S (Imm objs γ w))→(∀j g,gs[j]?=some g→γ (n+j)=g)→n+gs.length≤objs.length →
   VRL objs γ w (cc τ x n).1 cs∧(∀(j:Nat) ob g,(cc τ x n).2[j]?=some ob→gs[j]?=some g→ObR objs γ w ob g∧mutOb ob=true)
 | .int k,x,M,cs,h,n=>⟨[],rfl,by simp[h.1],fun objs γ hS _ _=>⟨⟨_,_,h.2,rfl,rfl⟩,fun j ob g ho=>by simp[cc] at ho⟩⟩
 | .bool,x,M,cs,h,n=>⟨[],rfl,by simp[h.1],fun objs γ hS _ _=>⟨⟨_,_,h.2,rfl,rfl⟩,fun j ob g ho=>by simp[cc] at ho⟩⟩
 | .str,x,M,cs,h,n=>⟨[],rfl,by simp[h.1],fun objs γ hS _ _=>⟨⟨_,_,h.2,rfl,rfl⟩,fun j ob g ho=>by simp[cc] at ho⟩⟩
 | .nil,x,M,cs,h,n=>⟨[],rfl,by simp[h.1],fun objs γ hS _ _=>⟨h.2,fun j ob g ho=>by simp[cc] at ho⟩⟩
 | .ref,x,M,cs,h,n=>⟨[],rfl,by simp[h.1],fun objs γ hS _ _=>by
   obtain⟨v,rfl,h2⟩:=h.2.single
   exact⟨⟨v,[],rfl,RefR.mono hS.m h2,rfl⟩,fun j ob g ho=>by simp[cc] at ho⟩⟩
 | .sl e,x,M,cs,h,n=>⟨[],rfl,by simp[h.1],fun objs γ hS _ _=>by
   have h':=Rep.mono hS (fun _ _=>rfl) (.sl e) h (by simp[h.1]);obtain⟨_,ao,cap,us,h1,h2⟩:=h'
   exact⟨⟨_,_,h1,⟨rfl,ao,cap,us,rfl,h2⟩,rfl⟩,fun j ob g ho=>by simp[cc] at ho⟩⟩
 | .osl i e,xs,M,cs,h,n=>by
  obtain⟨v,us,h1,h2,h3⟩:=h;have hM:∃o:Option Nat,M=o.toList:=by
   rcases h2 with ⟨h,_⟩ | ⟨b,_,_,h,_⟩
   ·exact⟨none,h⟩
   ·exact⟨some b,h⟩
  obtain⟨o,rfl⟩:=hM;refine⟨[(v,o)],rfl,by simp,fun objs γ hS hg hn=>⟨⟨v,[],h1,⟨by simp at hn;omega,?_,?_⟩,rfl⟩,fun j ob g ho hj=>?_⟩⟩
  ·have:=hg 0 _ rfl;rw[Nat.add_zero] at this;rw[this]
  ·rcases h2 with ⟨_,⟨ao,rfl⟩,_⟩ | ⟨b,cap,cur,_,rfl,_⟩
   ·exact⟨_,_,_,rfl⟩
   ·exact⟨_,_,_,rfl⟩
  ·have hj0:j=0:=by
    cases j with
    | zero=>rfl
    | succ j=>simp at hj
   subst hj0;simp only[List.getElem?_cons_zero,Option.some.injEq] at hj;subst hj;simp only[cc,List.getElem?_cons_zero,Option.some.injEq] at ho;subst ho;exact⟨⟨us,h2,h3.mono fun x c hx=>Rep.mono hS (fun _ _=>rfl) _ hx (by simp)⟩,rfl⟩
 | .onl i e,x,M,cs,h,n=>by
  have key:∃(o:Option Nat) (v:Value),M=o.toList∧cs=[v]∧(∃ao n c,v = .slice ao n c)∧((x=none∧(v,o)=(.slice none 0 0,none))∨∃xs us,x=some xs∧OwnR w i e.size v o.toList xs.length us∧RepL (fun x c=>Rep w S e x [] c) xs us):=by
   rcases h with ⟨h1,h2,h3⟩ | ⟨xs,v,us,h0,h1,h2,h3⟩
   ·exact⟨none,_,h2,h3,⟨_,_,_,rfl⟩,.inl ⟨h1,rfl⟩⟩
   ·rcases h2 with ⟨rfl,⟨ao,rfl⟩,h5,h6⟩ | ⟨b,cap,cur,rfl,rfl,h5⟩
    ·exact⟨none,_,rfl,h1,⟨_,_,_,rfl⟩,.inr ⟨xs,us,h0,.inl ⟨rfl,⟨_,rfl⟩,h5,h6⟩,h3⟩⟩
    ·exact⟨some b,_,rfl,h1,⟨_,_,_,rfl⟩,.inr ⟨xs,us,h0,.inr ⟨b,cap,cur,rfl,rfl,h5⟩,h3⟩⟩
  obtain⟨o,v,rfl,h1,hsl,h2⟩:=key;refine⟨[(v,o)],rfl,by simp,fun objs γ hS hg hn=>⟨⟨v,[],h1,⟨by simp at hn;omega,?_,hsl⟩,rfl⟩,fun j ob g ho hj=>?_⟩⟩
  ·have:=hg 0 _ rfl;rw[Nat.add_zero] at this;rw[this]
  ·have hj0:j=0:=by
    cases j with
    | zero=>rfl
    | succ j=>simp at hj
   subst hj0;simp only[List.getElem?_cons_zero,Option.some.injEq] at hj;subst hj;simp only[cc,List.getElem?_cons_zero,Option.some.injEq] at ho;subst ho;refine⟨?_,rfl⟩;rcases h2 with h2 | ⟨xs,us,h3,h4,h5⟩
   ·exact .inl h2
   ·exact .inr ⟨xs,us,h3,h4,h5.mono fun x c hx=>Rep.mono hS (fun _ _=>rfl) _ hx (by simp)⟩
 | .obx e,x,M,cs,h,n=>by
  obtain⟨b,M',T,cells,h1,h2,h3,h4⟩:=h;obtain⟨gs,l1,m1,p1⟩:=qfq e h4 (n+1);refine⟨(.pointer (some ⟨b,0,none⟩),some b)::gs,by simp[cc,l1],by rw[h1,m1];simp,fun objs γ hS hg hn=>?_⟩;simp only[List.length_cons] at hn
  obtain⟨p2,p3⟩:=p1 objs γ hS (fun j g hj=>by
   have:=hg (j+1) g (by simpa using hj)
   rwa [show n+(j+1)=n+1+j by omega] at this) (by omega)
  have e0:=hg 0 _ rfl;rw[Nat.add_zero] at e0;refine⟨⟨_,_,h2,⟨by omega,b,by rw[e0],rfl⟩,rfl⟩,fun j ob g ho hj=>?_⟩
  cases j with
  | zero =>
   simp only[List.getElem?_cons_zero,Option.some.injEq] at hj;subst hj;simp only[cc,List.getElem?_cons_zero,Option.some.injEq] at ho;subst ho;exact⟨⟨b,T,cells,rfl,h3,p2⟩,rfl⟩
  | succ j=>exact p3 j ob g (by simpa[cc] using ho) (by simpa using hj)
 | .err,b,M,cs,h,n=>⟨[],rfl,by simp[h.1],fun objs γ hS _ _=>by
   obtain⟨_,v,h1,h2⟩:=h
   exact⟨⟨v,[],h1,h2,rfl⟩,fun j ob g ho=>by simp[cc] at ho⟩⟩
 | .ifc t e,x,M,cs,h,n=>⟨[],rfl,by simp[h.1],fun objs γ hS _ _=>⟨⟨_,_,h.2,rfl,rfl⟩,fun j ob g ho=>by simp[cc] at ho⟩⟩
 | .hrl i p q j b,x,M,cs,h,n=>by
  obtain⟨v,us,b1,b2,hv,h1,h2,h3,h4,h5⟩:=h;obtain⟨⟨o1,rfl⟩,hsl⟩:=h3.slice;rcases h5 with ⟨hx,rfl,rfl⟩ | ⟨k,y,v2,hx,rfl,hk,h6⟩
  ·have ec:(cc (.hrl i p q j b) x n).2=[.hr i p q j x.1 none]:=by
    simp only[cc,hx];rfl
   refine⟨[(v,o1)],by rw[ec];rfl,by simp[h2],fun objs γ hS hg hn=>⟨⟨v,[],h1,⟨by simp at hn;omega,?_,hsl⟩,rfl⟩,fun j' ob g ho hj=>?_⟩⟩
   ·have:=hg 0 _ rfl;rw[Nat.add_zero] at this;rw[this]
   ·have hj0:j'=0:=by
     cases j' with
     | zero=>rfl
     | succ j'=>simp at hj
    subst hj0;simp only[List.getElem?_cons_zero,Option.some.injEq] at hj;subst hj;rw[ec] at ho;simp only[List.getElem?_cons_zero,Option.some.injEq] at ho;subst ho;exact⟨⟨us,h3,h4.mono (ElR.mono (fun x c hx=>Rep.mono hS (fun _ _=>rfl) p hx (by simp)) (fun x c hx=>Rep.mono hS (fun _ _=>rfl) q hx (by simp)) fun ks v hk=>hk.mono hS fun _ _=>rfl),fun _ _ e=>by cases e⟩,rfl⟩
  ·obtain⟨⟨o2,rfl⟩,hsl2⟩:=h6.slice;have ec:(cc (.hrl i p q j b) x n).2=[.hr i p q j x.1 (some (k,n+1)),.mbr j (.int .i64) y]:=by
    simp only[cc,hx];rfl
   refine⟨[(v,o1),(v2,o2)],by rw[ec];rfl,by simp[h2],fun objs γ hS hg hn=>?_⟩;simp only[List.length_cons,List.length_nil] at hn;have e0:=hg 0 _ rfl;have e1:=hg 1 _ rfl;rw[Nat.add_zero] at e0;refine⟨⟨v,[],h1,⟨by omega,by rw[e0],hsl⟩,rfl⟩,fun j' ob g ho hj=>?_⟩;rw[ec] at ho
   cases j' with
   | zero =>
    simp only[List.getElem?_cons_zero,Option.some.injEq] at hj ho;subst hj;subst ho;refine⟨⟨us,h3,?_,fun k' r' e=>?_⟩,rfl⟩
    ·rw[Option.map_some,e1];exact h4.mono (ElR.mono (fun x c hx=>Rep.mono hS (fun _ _=>rfl) p hx (by simp)) (fun x c hx=>Rep.mono hS (fun _ _=>rfl) q hx (by simp)) fun ks v hk=>hk.mono hS fun _ _=>rfl)
    ·cases e;exact⟨hk,by omega,rfl,by rw[e1];exact hsl2⟩
   | succ j' =>
    cases j' with
    | zero =>
     simp only[Nat.zero_add,List.getElem?_cons_succ,List.getElem?_cons_zero,Option.some.injEq] at hj ho;subst hj;subst ho;refine⟨?_,rfl⟩;rcases h6 with ⟨r1,r2,r3⟩ | ⟨ks,r1,r2⟩
     ·have:o2=none:=by cases o2 with | none=>rfl | some _=>cases r2
      subst this;exact .inl ⟨r1,by rw[r3]⟩
     ·exact .inr ⟨ks,_,r1,r2,qqa ks⟩
    | succ j'=>simp at hj
 | .omp k v,xs,M,cs,h,n=>by
  obtain⟨b,h1,h2,h3⟩:=h;refine⟨[(.map (some b),some b)],rfl,by simp[h1],fun objs γ hS hg hn=>?_⟩;simp only[List.length_cons,List.length_nil] at hn;have e0:=hg 0 _ rfl;rw[Nat.add_zero] at e0;refine⟨⟨_,_,h2,⟨by omega,b,by rw[e0],rfl⟩,rfl⟩,fun j ob g ho hj=>?_⟩
  cases j with
  | zero =>
   simp only[List.getElem?_cons_zero,Option.some.injEq] at hj;subst hj;simp only[cc,List.getElem?_cons_zero,Option.some.injEq] at ho;subst ho;exact⟨⟨b,rfl,h3⟩,rfl⟩
  | succ j=>simp at hj
 | .bld t i,xs,M,cs,h,n=>by
  obtain⟨b,M',p,v,us,h1,h2,h3,h4,h5,h6⟩:=h;have hM:∃o:Option Nat,M'=o.toList:=by
   rcases h5 with ⟨h,_⟩ | ⟨b,_,_,h,_⟩
   ·exact⟨none,h⟩
   ·exact⟨some b,h⟩
  obtain⟨o,rfl⟩:=hM;refine⟨[(.pointer (some ⟨b,0,none⟩),some b),(v,o)],rfl,by simp[h1],fun objs γ hS hg hn=>?_⟩;simp only[List.length_cons,List.length_nil] at hn;have e0:=hg 0 _ rfl;have e1:=hg 1 _ rfl;rw[Nat.add_zero] at e0;refine⟨⟨_,_,h2,⟨by omega,b,by rw[e0],rfl⟩,rfl⟩,fun j ob g ho hj=>?_⟩
  cases j with
  | zero =>
   simp only[List.getElem?_cons_zero,Option.some.injEq] at hj;subst hj;simp only[cc,List.getElem?_cons_zero,Option.some.injEq] at ho;subst ho;refine⟨⟨b,p,v,rfl,h3,h4,by omega,by rw[e1],?_⟩,rfl⟩;rcases h5 with ⟨_,⟨ao,rfl⟩,_⟩ | ⟨b,cap,cur,_,rfl,_⟩
   ·exact⟨_,_,_,rfl⟩
   ·exact⟨_,_,_,rfl⟩
  | succ j =>
   cases j with
   | zero =>
    simp only[Nat.zero_add,List.getElem?_cons_succ,List.getElem?_cons_zero,Option.some.injEq] at hj;subst hj;simp only[cc,Nat.zero_add,List.getElem?_cons_succ,List.getElem?_cons_zero,Option.some.injEq] at ho;subst ho;refine⟨⟨us,h5,?_⟩,rfl⟩;rw[h6];exact rep_u8 xs
   | succ j=>simp at hj
 | .st f r,x,M,cs,h,n=>by
  obtain⟨c1,c2,M1,M2,h1,h2,h3,h4⟩:=h;obtain⟨g1,l1,m1,p1⟩:=qfq f h3 n;obtain⟨g2,l2,m2,p2⟩:=qfq r h4 (n+(cc f x.1 n).2.length);refine⟨g1++g2,by simp[cc,l1,l2],by simp[h2,m1,m2],fun objs γ hS hg hn=>?_⟩;rw[List.length_append] at hn
  obtain⟨a1,b1⟩:=p1 objs γ hS (fun j g hj=>hg j g (by
   rw[List.getElem?_append_left (List.getElem?_eq_some_iff.1 hj).1];exact hj)) (by omega)
  obtain⟨a2,b2⟩:=p2 objs γ hS (fun j g hj=>by
   have:=hg (g1.length+j) g (by rw[List.getElem?_append_right (by omega)];simpa using hj);rw[←l1,Nat.add_assoc]
   exact this) (by omega)
  subst h1;refine⟨a1.append a2,fun j ob g ho hj=>?_⟩;simp only[cc] at ho;by_cases hlt:j<g1.length
  ·rw[List.getElem?_append_left (by omega)] at ho;rw[List.getElem?_append_left hlt] at hj;exact b1 j ob g ho hj
  ·rw[List.getElem?_append_right (by omega)] at ho;rw[List.getElem?_append_right (by omega)] at hj;exact b2 (j-g1.length) ob g (by rw[l1];exact ho) hj
end

section
variable {objs : List OB} {γ : Gh} {w : World}
theorem qcO {b:Bool} {x y z:Cv} {v:Value} (h:qsv b x y=some z):(b=true→VR objs γ w x v→VR objs γ w z v)∧(b=false→VR objs γ w y v→VR objs γ w z v):=by
 unfold qsv at h;split at h
 ·rename_i k a k' c;simp only[chk_some,Option.some.injEq] at h;obtain⟨h1,rfl⟩:=h;obtain rfl:=qbp h1;exact⟨fun hb hv=>by subst hb;exact hv,fun hb hv=>by subst hb;exact hv⟩
 ·cases h;exact⟨fun hb hv=>by subst hb;exact hv,fun hb hv=>by subst hb;exact hv⟩
 ·cases h;exact⟨fun hb hv=>by subst hb;exact hv,fun hb hv=>by subst hb;exact hv⟩
 ·simp only[Option.bind_eq_some_iff,Option.some.injEq] at h;obtain⟨ys',h1,rfl⟩:=h;obtain⟨rfl,h1⟩:=qak h1;subst h1;exact⟨fun hb hv=>by subst hb;exact hv,fun hb hv=>by subst hb;exact hv⟩
 ·cases h;exact⟨fun hb hv=>by subst hb;exact hv,fun hb hv=>by subst hb;exact hv⟩
 ·cases h
theorem qfl {b:Bool}:∀ {x y z:List Cv} {v:List Value},qnL b x y=some z→(b=true→VRL objs γ w x v→VRL objs γ w z v)∧(b=false→VRL objs γ w y v→VRL objs γ w z v)
 | [],[],z,v,h=>by simp only[qnL,Option.some.injEq] at h;subst h;exact⟨fun _ h=>h,fun _ h=>h⟩
 | x::l,y::r,z,v,h=>by
  simp only[qnL,Option.bind_eq_some_iff,Option.some.injEq] at h;obtain⟨c,h1,q,h2,rfl⟩:=h;refine⟨fun hb ⟨u,p,e,h3,h4⟩=>⟨u,p,e,(qcO h1).1 hb h3,(qfl h2).1 hb h4⟩,fun hb ⟨u,p,e,h3,h4⟩=>⟨u,p,e,(qcO h1).2 hb h3,(qfl h2).2 hb h4⟩⟩
 | [],_::_,z,v,h=>by simp[qnL] at h
 | _::_,[],z,v,h=>by simp[qnL] at h
theorem qmF {b:Bool} {x y z:PV} {v:Value} (h:mergeV b x y=some z):(b=true→PR objs γ w x v→PR objs γ w z v)∧(b=false→PR objs γ w y v→PR objs γ w z v):=by
 unfold mergeV at h;split at h
 ·simp only[Option.bind_eq_some_iff,Option.some.injEq] at h;obtain⟨c,h1,rfl⟩:=h;exact⟨fun hb hv=>(qcO h1).1 hb hv,fun hb hv=>(qcO h1).2 hb hv⟩
 ·simp only[Option.bind_eq_some_iff,Option.some.injEq] at h;obtain⟨c,h1,rfl⟩:=h;exact⟨fun hb ⟨cs,e,hv⟩=>⟨cs,e,(qfl h1).1 hb hv⟩,fun hb ⟨cs,e,hv⟩=>⟨cs,e,(qfl h1).2 hb hv⟩⟩
 ·cases h
theorem qoO {k:IntKind}:∀ {l:List Cv} {ns:List Int} {i:Nat} {c:Cv},qux k l=some ns→l[i]?=some c→c = .v (.int k (getD' ns i 0))
 | [],_,_,_,_,hi=>by simp at hi
 | c0::r,ns,i,c,h,hi=>by
  unfold qux at h;split at h
  ·cases ‹_::_=[]›
  ·rename_i k' n r' heq;simp only[List.cons.injEq] at heq;obtain⟨rfl,rfl⟩:=heq;simp only[chk_some,Option.bind_eq_some_iff,Option.some.injEq] at h;obtain⟨h1,ms,h2,rfl⟩:=h;obtain rfl:=qbp h1
   cases i with
   | zero=>simp at hi;subst hi;rfl
   | succ i=>simpa[getD'] using qoO h2 (by simpa using hi)
  ·cases h
theorem qnD:∀ {l:List Cv} {ns:List Bool} {i:Nat} {c:Cv},qpC l=some ns→l[i]?=some c→c = .v (.bool (getD' ns i false))
 | [],_,_,_,_,hi=>by simp at hi
 | c0::r,ns,i,c,h,hi=>by
  unfold qpC at h;split at h
  ·cases ‹_::_=[]›
  ·rename_i n r' heq;simp only[List.cons.injEq] at heq;obtain⟨rfl,rfl⟩:=heq;simp only[Option.bind_eq_some_iff,Option.some.injEq] at h;obtain⟨ms,h2,rfl⟩:=h
   cases i with
   | zero=>simp at hi;subst hi;rfl
   | succ i=>simpa[getD'] using qnD h2 (by simpa using hi)
  ·cases h
theorem qpk:∀ {l:List Cv} {ns:List ByteArray} {i:Nat} {c:Cv},qut l=some ns→l[i]?=some c→c = .v (.string (getD' ns i ByteArray.empty))
 | [],_,_,_,_,hi=>by simp at hi
 | c0::r,ns,i,c,h,hi=>by
  unfold qut at h;split at h
  ·cases ‹_::_=[]›
  ·rename_i n r' heq;simp only[List.cons.injEq] at heq;obtain⟨rfl,rfl⟩:=heq;simp only[Option.bind_eq_some_iff,Option.some.injEq] at h;obtain⟨ms,h2,rfl⟩:=h
   cases i with
   | zero=>simp at hi;subst hi;rfl
   | succ i=>simpa[getD'] using qpk h2 (by simpa using hi)
  ·cases h
theorem qso {e:Ty}:∀ {l:List Cv} {ns:List (List (D e))} {i:Nat} {c:Cv},slsOf e l=some ns→l[i]?=some c→c = .sl e (getD' ns i [])
 | [],_,_,_,_,hi=>by simp at hi
 | c0::r,ns,i,c,h,hi=>by
  unfold slsOf at h;split at h
  ·cases ‹_::_=[]›
  ·rename_i e' n r' heq;simp only[List.cons.injEq] at heq;obtain⟨rfl,rfl⟩:=heq;simp only[Option.bind_eq_some_iff,Option.some.injEq] at h;obtain⟨xs,h1,ms,h2,rfl⟩:=h;obtain⟨rfl,h1⟩:=qak h1;subst h1
   cases i with
   | zero=>simp at hi;subst hi;rfl
   | succ i=>simpa[getD'] using qso h2 (by simpa using hi)
  ·cases h
theorem qjo {l:List Cv} {i:Nat} {c d:Cv} (h:selC l i=some c) (hi:l[i]?=some d):d=c:=by
 unfold selC at h;split at h
 ·simp only[Option.bind_eq_some_iff,Option.some.injEq] at h;obtain⟨ns,h1,rfl⟩:=h;exact qoO h1 hi
 ·simp only[Option.bind_eq_some_iff,Option.some.injEq] at h;obtain⟨ns,h1,rfl⟩:=h;exact qnD h1 hi
 ·simp only[Option.bind_eq_some_iff,Option.some.injEq] at h;obtain⟨ns,h1,rfl⟩:=h;exact qpk h1 hi
 ·simp only[Option.bind_eq_some_iff,Option.some.injEq] at h;obtain⟨ns,h1,rfl⟩:=h;exact qso h1 hi
 ·cases h
theorem qsQ {cs:List Cv} {sz inner:Nat}:∀ {n off j:Nat},(col cs off sz inner n).length=n→j<n→(col cs off sz inner n)[j]?=cs[off+j*sz+inner]?
 | 0,_,j,_,hj=>by omega
 | n+1,off,j,h,hj=>by
  simp only[col] at h ⊢;split at h
  ·rename_i c q hc;have h0:cs[off+inner]?=some c:=by
    have:=congrArg (fun l:List Cv=>l[0]?) hc;simpa using this
   simp only[List.length_cons,Nat.add_right_cancel_iff] at h
   cases j with
   | zero=>simp[h0]
   | succ j =>
    simp only[List.getElem?_cons_succ];rw[qsQ h (by omega),show off+sz+j*sz+inner=off+(j+1)*sz+inner by rw[Nat.add_mul];omega]
  ·simp at h
end
end Go.Den
namespace Go.Den
open Go.Eng
set_option linter.unusedVariables false
set_option linter.unusedSectionVars false
set_option linter.unusedSimpArgs false
variable [CT : Ctx]

section
variable {P : Program} {env : Env} {F : Fr} {σ : AState} {γ : Gh} {a : Act} {w : World} {tg : Tag} {o : Oper} {α : Type} {k : PV → Option α} {res : α}

def Val (P:Program) (σ:AState) (γ:Gh) (a:Act) (w:World) (o:Oper) (pv:PV):Prop:=∃v,(∀w',(qm6 o=true→Chg [] w w')→(execOp a.eval o).run P w' = .ok (.value v) w')∧PR σ.objs γ w pv v
def StR (P:Program) (σ:AState) (γ:Gh) (a:Act) (w:World) (tg:Tag) (o:Oper) (k:PV→Option α) (res:α):Prop :=
 (∃pv,k pv=some res)∧(tagT σ tg→∃pv,Val P σ γ a w o pv∧k pv=some res)
theorem StR.of {pv:PV} (h:k pv=some res) (hv:tagT σ tg→Val P σ γ a w o pv):StR P σ γ a w tg o k res:=⟨⟨pv,h⟩,fun hT=>⟨pv,hv hT,h⟩⟩
theorem qae {b:Bool} (h:imp (tagB σ tg) b=true) (hT:tagT σ tg):b=true:=by
 rw[tagB_spec.2 hT] at h;exact h
theorem qvP {pv:PV} {q:IntKind×Int} (h:asInt pv=some q):pv = .c (.v (.int q.1 q.2)):=by
 unfold asInt at h;split at h
 ·cases h;rfl
 ·cases h
theorem qbl {pv:PV} {b:Bool} (h:asBool pv=some b):pv = .c (.v (.bool b)):=by
 unfold asBool at h;split at h
 ·cases h;rfl
 ·cases h
theorem qo6 {pv:PV} {b:ByteArray} (h:asStr pv=some b):pv = .c (.v (.string b)):=by
 unfold asStr at h;split at h
 ·cases h;rfl
 ·cases h
theorem qdy {pv:PV} {c:Cv} (h:asC pv=some c):pv = .c c:=by
 unfold asC at h;split at h
 ·cases h;rfl
 ·cases h
theorem qvO {pv:PV} {c:List Cv} (h:asAgg pv=some c):pv = .agg c:=by
 unfold asAgg at h;split at h
 ·cases h;rfl
 ·cases h
theorem qu1 {pv:PV} {c:List PW} (h:asTup pv=some c):pv = .tup c:=by
 unfold asTup at h;split at h
 ·cases h;rfl
 ·cases h
theorem qc7 {pv:PV} {q:FuncId×List (Nat×Nat)} (h:asFn pv=some q):pv = .c (.fn q.1 q.2):=by
 unfold asFn at h;split at h
 ·cases h;rfl
 ·cases h
theorem qaY (r:Rel F σ γ a w) (hT:tagT σ tg) {x:Operand} {pv:PV} {q:IntKind×Int} (h:ev σ tg x=some pv) (hi:asInt pv=some q):a.eval x = .int q.1 q.2:=by
 have:=qf r hT h;rw[qvP hi] at this;exact this
theorem ev_bool (r:Rel F σ γ a w) (hT:tagT σ tg) {x:Operand} {pv:PV} {q:Bool} (h:ev σ tg x=some pv) (hi:asBool pv=some q):a.eval x = .bool q:=by
 have:=qf r hT h;rw[qbl hi] at this;exact this
theorem ev_str (r:Rel F σ γ a w) (hT:tagT σ tg) {x:Operand} {pv:PV} {q:ByteArray} (h:ev σ tg x=some pv) (hi:asStr pv=some q):a.eval x = .string q:=by
 have:=qf r hT h;rw[qo6 hi] at this;exact this

theorem qpO (r:Rel F σ γ a w) {x:Operand} (ho:o.op = .move x∨o.op = .assign x) (h:(ev σ tg x).bind k=some res):StR P σ γ a w tg o k res:=by
 obtain⟨pv,h1,h2⟩:=Option.bind_eq_some_iff.1 h;refine StR.of h2 fun hT=>⟨a.eval x,fun w' _=>?_,qf r hT h1⟩;obtain⟨dst,op,type,pos,after,guard⟩:=o
 rcases ho with ho | ho<;>(simp only at ho;subst ho;rfl)
theorem qmt (r:Rel F σ γ a w) {x:Operand} (ho:o.op = .nilCheck x) (h:((ev σ tg x).bind fun v=>nilChkS (tagB σ tg) v k)=some res):StR P σ γ a w tg o k res:=by
 obtain⟨pv,h1,h2⟩:=Option.bind_eq_some_iff.1 h
 replace h2:chk (qt4 pv) (k pv)=some res:=h2
 obtain⟨hn,h2⟩:=chk_some.1 h2;refine StR.of h2 fun hT=>⟨a.eval x,fun w' _=>?_,qf r hT h1⟩;have hp:=qf r hT h1;obtain⟨dst,op,type,pos,after,guard⟩:=o;simp only at ho;subst ho
 cases pv with
 | c c =>
  cases c<;>simp only[qt4] at hn<;>try (cases hn;done)
  ·obtain⟨_,b,_,e⟩:=hp
   (generalize a.eval=ρ at e ⊢;simp[execOp,e])
  ·obtain⟨_,l,e,_⟩:=hp
   (generalize a.eval=ρ at e ⊢;simp[execOp,e])
 | rp l=>obtain⟨ad,us,e,_⟩:=hp; (generalize a.eval=ρ at e ⊢;simp[execOp,e])
 | ep _ _ _ _=>obtain⟨_,b,_,e,_⟩:=hp; (generalize a.eval=ρ at e ⊢;simp[execOp,e])
 | pa _ _ _ _ _ _=>obtain⟨_,b,_,_,_,e⟩:=hp; (generalize a.eval=ρ at e ⊢;simp[execOp,e])
 | ra _ _ _ _=>obtain⟨b,_,_,_,_,_,e⟩:=hp; (generalize a.eval=ρ at e ⊢;simp[execOp,e])
 | _=>simp[qt4] at hn
theorem qoB (r:Rel F σ γ a w) {x:Operand} {i:Nat} (ho:o.op = .extract x i) (h:((ev σ tg x).bind fun v=>(asTup v).bind fun l=>(l[i]?).bind fun p=>k (pvPW p))=some res):StR P σ γ a w tg o k res:=by
 simp only[Option.bind_eq_some_iff] at h;obtain⟨pv,h1,l,h2,p,h3,h4⟩:=h;refine StR.of h4 fun hT=>?_;have hp:=qf r hT h1;rw[qu1 h2] at hp;obtain⟨vs,e,hl⟩:=hp;have:∀(l:List PW) (us:List Value) (i:Nat) (p:PW),PWL σ.objs γ w l us→l[i]?=some p→∃v,us[i]?=some v∧PWR σ.objs γ w p v:=by
  intro l
  induction l with
  | nil=>intro us i p _ hi;simp at hi
  | cons q l ih =>
   intro us i p ⟨v,q',e,h5,h6⟩ hi
   cases i with
   | zero=>simp at hi;subst hi;exact⟨v,by simp[e],h5⟩
   | succ i =>
    obtain⟨u,h7,h8⟩:=ih q' i p h6 (by simpa using hi);exact⟨u,by simpa[e] using h7,h8⟩
 obtain⟨v,h5,h6⟩:=this l vs.toList i p hl h3
 refine⟨v,fun w' _=>?_,by cases p<;>exact h6⟩
 obtain⟨dst,op,type,pos,after,guard⟩:=o;simp only at ho;subst ho
 have h7:vs[i]?=some v:=by simpa using h5
 generalize a.eval=ρ at e ⊢;simp[execOp,e,Instr.extract,h7]

theorem get_of_ev {t:Nat} {pv:PV} (h:ev σ tg (.tmp t)=some pv):∃tg',get σ.slots t=some (tg',pv):=by
 simp only[ev,Option.bind_eq_some_iff,chk_some,Option.some.injEq] at h;obtain⟨⟨tg',pv'⟩,h1,_,rfl⟩:=h;exact⟨tg',h1⟩
theorem qcj {x:Nat×Bool} (h1:litB σ x=true) (h2:tagT σ tg):tagT σ (x::tg):=fun y hy=>by
 rcases List.mem_cons.1 hy with rfl | hy
 ·exact h1
 ·exact h2 y hy
theorem st_pick (r:Rel F σ γ a w) {c x y:Operand} (ho:o.op = .pick c x y) (h:pickS σ tg c x y k=some res):StR P σ γ a w tg o k res:=by
 cases c with
 | tmp t =>
  simp only[pickS,Option.bind_eq_some_iff] at h;obtain⟨q,h1,b,h2,h⟩:=h;have hq:=qbl h2;subst hq;obtain⟨tg',hg⟩:=get_of_ev h1
  have lt:litB σ (t,true)=b:=by simp[litB,hg]
  have lf:litB σ (t,false) = !b:=by simp[litB,hg]
  have run:tagT σ tg→∀w',(execOp a.eval o).run P w' = .ok (.value (if b then a.eval x else a.eval y)) w':=by
   intro hT w';have hc:=ev_bool r hT h1 h2;obtain⟨dst,op,type,pos,after,guard⟩:=o;simp only at ho;subst ho;generalize a.eval=ρ at hc ⊢;simp[execOp,hc,Go.asBool,go_sem]
  by_cases k1:memT (t,true) σ.known=true
  ·simp only[k1,cond_true,Option.bind_eq_some_iff] at h;obtain⟨v,h3,h7⟩:=h
   have hb:b=true:=by rw[←lt];exact(r.known _ (qc8 k1)).1
   subst hb;exact StR.of h7 fun hT=>⟨_,fun w' _=>run hT w',qf r (qcj lt hT) h3⟩
  simp only[Bool.eq_false_iff.2 k1,cond_false] at h;by_cases k2:memT (t,false) σ.known=true
  ·simp only[k2,cond_true,Option.bind_eq_some_iff] at h;obtain⟨v,h3,h7⟩:=h;have hb:b=false:=by
    have:=(r.known _ (qc8 k2)).1;rw[lf] at this;simpa using this
   subst hb;exact StR.of h7 fun hT=>⟨_,fun w' _=>run hT w',qf r (qcj lf hT) h3⟩
  simp only[Bool.eq_false_iff.2 k2,cond_false,Option.bind_eq_some_iff] at h;obtain⟨v,h3,u,h4,h5⟩:=h;have vx:tagT σ tg→b=true→PR σ.objs γ w v (a.eval x):=fun hT hb=>qf r (qcj (by rw[lt,hb]) hT) h3;have vy:tagT σ tg→b=false→PR σ.objs γ w u (a.eval y):=fun hT hb=>qf r (qcj (by rw[lf,hb];rfl) hT) h4;by_cases c1:qeh false y=true
  ·simp only[c1,cond_true,Option.bind_eq_some_iff] at h5;obtain⟨p,h6,h7⟩:=h5;refine StR.of h7 fun hT=>⟨_,fun w' _=>run hT w',?_⟩;cases b
   ·cases y<;>simp only[qeh] at c1<;>try (cases c1;done)
    rename_i z
    cases z<;>simp only[qeh] at c1<;>try (cases c1;done)
    rename_i c';cases c'
    ·rfl
    ·cases c1
   ·have:=vx hT rfl;rw[qbl h6] at this;exact this
  ·simp only[Bool.eq_false_iff.2 c1,cond_false] at h5;by_cases c2:qeh true x=true
   ·simp only[c2,cond_true,Option.bind_eq_some_iff] at h5;obtain⟨p,h6,h7⟩:=h5;refine StR.of h7 fun hT=>⟨_,fun w' _=>run hT w',?_⟩;cases b
    ·have:=vy hT rfl;rw[qbl h6] at this;exact this
    ·cases x<;>simp only[qeh] at c2<;>try (cases c2;done)
     rename_i z
     cases z<;>simp only[qeh] at c2<;>try (cases c2;done)
     rename_i c';cases c'
     ·cases c2
     ·rfl
   ·simp only[Bool.eq_false_iff.2 c2,cond_false,Option.bind_eq_some_iff] at h5;obtain⟨z,h6,h7⟩:=h5;refine StR.of h7 fun hT=>⟨_,fun w' _=>run hT w',?_⟩;cases b
    ·exact(qmF h6).2 rfl (vy hT rfl)
    ·exact(qmF h6).1 rfl (vx hT rfl)
 | _=>simp[pickS] at h

theorem qrU {t:TypeId} {xs ys:Array Value} {b:Bool} (h:eqAgg P t xs ys=some b) (w:World):P.eqGuardType P.depth t=false∧(Op.equal t (.agg xs) (.agg ys)).run P w = .ok b w:=by
 simp only[eqAgg,chk_some,Bool.and_eq_true,Bool.not_eq_true'] at h;obtain⟨⟨h1,h2⟩,h⟩:=h;have hag:aggOf P t=some true:=by
  unfold aggIs at h2;split at h2
  ·rename_i b hb;rw[hb,h2]
  ·cases h2
 have he:=(eqT_run (P:=P) 40).1 Op.maxDepth t xs.toList ys.toList b w (by decide) h;simp only[valC,hag] at he;exact⟨h1,he⟩
theorem qvQ {ρ:Operand→Value} {v:Value} (h:scalar P ρ o=some v) (w:World):(execOp ρ o).run P w = .ok (.value v) w:=by
 obtain⟨dst,op,type,pos,after,guard⟩:=o;unfold scalar at h;split at h
 ·rename_i t x y t' heq;subst heq;split at h
  ·rename_i xs ys hx hy;simp only[Option.bind_eq_some_iff,Option.some.injEq] at h;obtain⟨b,h1,rfl⟩:=h;obtain⟨hg,he⟩:=qrU h1 w;simp[execOp,eqGuard,binOp,hx,hy,he,hg,go_sem]
  ·exact qkJ h w
 ·rename_i t x y t' heq;subst heq;split at h
  ·rename_i xs ys hx hy;simp only[Option.bind_eq_some_iff,Option.some.injEq] at h;obtain⟨b,h1,rfl⟩:=h;obtain⟨hg,he⟩:=qrU h1 w;simp[execOp,eqGuard,binOp,hx,hy,he,hg,go_sem]
  ·exact qkJ h w
 ·exact qkJ h w
theorem qjY (r:Rel F σ γ a w) (hT:tagT σ tg):∀ {l:List Operand},qlX σ tg l=true→∀x∈l,a.eval x=rho σ tg x
 | [],_,x,hx=>by cases hx
 | y::l,h,x,hx=>by
  simp only[qlX,Bool.and_eq_true,Option.isSome_iff_exists] at h;rcases List.mem_cons.1 hx with rfl | hx
  ·obtain⟨⟨v,hv⟩,_⟩:=h;obtain⟨pv,h1,h2⟩:=Option.bind_eq_some_iff.1 hv;rw[quY h2 (qf r hT h1)];simp[rho,hv]
  ·exact qjY r hT h.2 x hx
theorem qtb (v:Value):PR σ.objs γ w (qpN v) v:=by cases v<;>first | rfl | exact⟨_,rfl,VRL.cvs _⟩
theorem qa0 (r:Rel F σ γ a w) {l:List Operand} (hs:∀cs b,o.op ≠ .select cs b) (hl:∀x∈o.op.operands,x∈l) (h:qdk P σ tg o l k=some res):StR P σ γ a w tg o k res:=by
 simp only[qdk,chk_some,Option.bind_eq_some_iff] at h;obtain⟨h1,v,h2,h3⟩:=h;refine StR.of h3 fun hT=>⟨v,fun w' _=>?_,qtb v⟩;rw[execOp_congr o hs fun x hx=>qjY r hT h1 x (hl x hx)];exact qvQ h2 w'
theorem st_bin (r:Rel F σ γ a w) {op:BinOp} {t t':TypeId} {x y:Operand} (ho:o.op = .binOp op t x y t') (hn:∀neg,(op = .eql∧neg=false∨op = .neq∧neg=true)→nilS P σ tg o t neg x y k=some res→StR P σ γ a w tg o k res) (h:binS P σ tg o op t x y k=some res):StR P σ γ a w tg o k res:=by
 have sc:qdk P σ tg o [x,y] k=some res→StR P σ γ a w tg o k res:=fun h=>qa0 r (fun cs b e=>by rw[ho] at e;cases e) (fun z hz=>by
  rw[ho] at hz;simpa[Op.operands] using hz) h
 cases op with
 | eql=>exact hn false (.inl ⟨rfl,rfl⟩) h
 | neq=>exact hn true (.inr ⟨rfl,rfl⟩) h
 | quo =>
  simp only[binS,Option.bind_eq_some_iff,chk_some,req_some] at h;obtain⟨u,h1,v,h2,⟨ka,na⟩,h3,⟨kb,nb⟩,h4,h5,h6,h7⟩:=h;obtain rfl:=qbp h5;refine StR.of h7 fun hT=>⟨_,fun w' _=>?_,rfl⟩;have e1:=qaY r hT h1 h3;have e2:=qaY r hT h2 h4
  have hne:¬nb=0:=by simpa using qae h6 hT
  obtain⟨dst,op,type,pos,after,guard⟩:=o;simp only at ho;subst ho;generalize a.eval=ρ at e1 e2 ⊢;simp[execOp,eqGuard,binOp,e1,e2,Op.intDiv,hne,go_sem]
 | rem =>
  simp only[binS,Option.bind_eq_some_iff,chk_some,req_some] at h;obtain⟨u,h1,v,h2,⟨ka,na⟩,h3,⟨kb,nb⟩,h4,h5,h6,h7⟩:=h;obtain rfl:=qbp h5;refine StR.of h7 fun hT=>⟨_,fun w' _=>?_,rfl⟩;have e1:=qaY r hT h1 h3;have e2:=qaY r hT h2 h4
  have hne:¬nb=0:=by simpa using qae h6 hT
  obtain⟨dst,op,type,pos,after,guard⟩:=o;simp only at ho;subst ho;generalize a.eval=ρ at e1 e2 ⊢;simp[execOp,eqGuard,binOp,e1,e2,Op.intDiv,hne,go_sem]
 | shl =>
  simp only[binS,Option.bind_eq_some_iff,chk_some,req_some] at h;obtain⟨u,h1,v,h2,⟨ka,na⟩,h3,⟨kb,nb⟩,h4,h6,h7⟩:=h;refine StR.of h7 fun hT=>⟨_,fun w' _=>?_,rfl⟩;have e1:=qaY r hT h1 h3;have e2:=qaY r hT h2 h4
  have hne:¬nb<0:=by have:=qae h6 hT;simp at this;omega
  obtain⟨dst,op,type,pos,after,guard⟩:=o;simp only at ho;subst ho;generalize a.eval=ρ at e1 e2 ⊢;simp[execOp,eqGuard,binOp,e1,e2,Op.shift,hne,go_sem,shK]
 | shr =>
  simp only[binS,Option.bind_eq_some_iff,chk_some,req_some] at h;obtain⟨u,h1,v,h2,⟨ka,na⟩,h3,⟨kb,nb⟩,h4,h6,h7⟩:=h;refine StR.of h7 fun hT=>⟨_,fun w' _=>?_,rfl⟩;have e1:=qaY r hT h1 h3;have e2:=qaY r hT h2 h4
  have hne:¬nb<0:=by have:=qae h6 hT;simp at this;omega
  obtain⟨dst,op,type,pos,after,guard⟩:=o;simp only at ho;subst ho;generalize a.eval=ρ at e1 e2 ⊢;simp[execOp,eqGuard,binOp,e1,e2,Op.shift,hne,go_sem,shK]
 | add =>
  simp only[binS] at h;split at h
  ·rename_i s1 s2 hs1 hs2;obtain⟨u,h1,h3⟩:=Option.bind_eq_some_iff.1 hs1;obtain⟨v,h2,h4⟩:=Option.bind_eq_some_iff.1 hs2;obtain⟨h6,h7⟩:=req_some.1 h;refine StR.of h7 fun hT=>⟨_,fun w' _=>?_,rfl⟩;have e1:=ev_str r hT h1 h3;have e2:=ev_str r hT h2 h4
   have hne:¬(((s1.size+s2.size:Nat):Int)>IntKind.i64.max):=by have:=Nat.le_of_ble_eq_true (qae h6 hT);have hmx:IntKind.i64.max=9223372036854775807:=(by decide); (rw[hmx];omega)
   obtain⟨dst,op,type,pos,after,guard⟩:=o;simp only at ho;subst ho
   have hr:(Op.stringOp .add s1 s2)=pure (.string (s1++s2)):=by unfold Op.stringOp;simp only;rw[if_neg hne]
   generalize a.eval=ρ at e1 e2 ⊢;simp[execOp,eqGuard,binOp,e1,e2,hr,go_sem]
  ·exact sc h
 | _=>exact sc h

theorem qaV {t:TypeId} {l:List Cv} {off:Nat} {pv:PV} {cs:List Value} (h:qeE P t l off=some pv) (hv:VRL σ.objs γ w l cs):∃v,(∀w',(part t cs.toArray off).run P w' = .ok v w')∧PR σ.objs γ w pv v ∧
  (∀w' ad,CellsAt w' ad (cs.drop off)→(loadVar t ad).run P w' = .ok v w'):=by
 simp only[qeE,Option.bind_eq_some_iff] at h;obtain⟨ag,h1,i,h2,h3⟩:=h;cases ag
 ·simp only[cond_false,Option.bind_eq_some_iff,Option.some.injEq] at h3;obtain⟨c,h4,rfl⟩:=h3
  have hl:l[off]?=some c:=by rw[List.head?_drop] at h4;exact h4
  obtain⟨v,h5,h6⟩:=hv.get hl;refine⟨v,fun w'=>(qha h2 w').2 h1 v ?_,h6,fun w' ad hc=>?_⟩
  ·have hlt:=(List.getElem?_eq_some_iff.1 h5).1;rw[List.drop_eq_getElem_cons hlt];simp[(List.getElem?_eq_some_iff.1 h5).2]
  ·have:=hc 0 v (by simpa using h5);simp only[Addr.add,if_true] at this;simp[loadVar,qd3 h1,this,go_sem]
 ·simp only[cond_true,chk_some,Option.some.injEq] at h3;obtain⟨h4,rfl⟩:=h3;refine⟨.agg ((cs.drop off).take i.size).toArray,fun w'=>(qha h2 w').1 h1,⟨_,rfl,by simpa using (hv.drop off).take i.size⟩,fun w' ad hc=>?_⟩;have hlen:((cs.drop off).take i.size).length=i.size:=by
   have:=hv.length;have h5:=Nat.le_of_ble_eq_true h4;simp;omega
  have hc':=CellsAt.take hc i.size;have hr:=qeK (P:=P) (w:=w') (a:=ad) ((cs.drop off).take i.size) 0 #[] (fun j v hv=>by rw[Nat.zero_add];exact hc' j v hv);rw[hlen] at hr;simp[loadVar,qd3 h1,sizeOf,typeInfo,h2,loadCells,hr,go_sem]
theorem qlv {t:TypeId} {f:Nat} {fd:Field} (h:qkd P t f=some fd):∃fs,P.underlying t=some (.struct fs)∧fs[f]?=some fd:=by
 simp only[qkd,Option.bind_eq_some_iff] at h;obtain⟨d,h1,h2⟩:=h
 cases d<;>simp at h2
 exact⟨_,h1,by simpa using h2⟩
theorem quU (r:Rel F σ γ a w) {t:TypeId} {x:Operand} {f:Nat} (ho:o.op = .field t x f) (h:((ev σ tg x).bind fun v=>(asAgg v).bind fun l=>(qkd P t f).bind fun fd=>(qeE P fd.type l fd.offset).bind k)=some res):StR P σ γ a w tg o k res:=by
 simp only[Option.bind_eq_some_iff] at h;obtain⟨pv,h1,l,h2,fd,h3,u,h4,h5⟩:=h;refine StR.of h5 fun hT=>?_;have hp:=qf r hT h1;rw[qvO h2] at hp;obtain⟨cs,e,hl⟩:=hp;obtain⟨v,h6,h7,_⟩:=qaV (P:=P) h4 hl;obtain⟨fs,h8,h9⟩:=qlv h3;refine⟨v,fun w' _=>?_,h7⟩;have h6':=h6 w';rw[Array.toArray_toList] at h6';obtain⟨dst,op,type,pos,after,guard⟩:=o;simp only at ho;subst ho;generalize a.eval=ρ at e ⊢;simp only[execOp,Instr.field,Sem.run_bind,run_underlying h8,Result.andThen_ok,h9,e,Go.asAgg,Sem.run_pure,h6']
theorem qkA {t:TypeId} (h:sized P t=true):∃i,P.info? t=some i∧i.size≠0:=by
 unfold sized at h;split at h
 ·rename_i i hi;refine⟨i,hi,fun e=>?_⟩;rw[e] at h;cases h
 ·cases h
theorem qjB {objs:List OB} {γ:Gh} {w:World} {pv:PV} {v:Value} (hv:PR objs γ w pv v):PR objs γ w (faOf pv) v:=hv
theorem qmh {off:Nat} {pv u:PV} {v:Value} (h:qhD off pv=some u) (hv:PR σ.objs γ w pv v):∃ad,v = .pointer (some ad)∧PR σ.objs γ w u (.pointer (some (ad.add off))):=by
 cases pv with
 | c c =>
  cases c<;>simp only[qhD,Option.some.injEq] at h<;>try (cases h;done)
  subst h;obtain⟨h1,b,h2,rfl⟩:=hv;exact⟨_,rfl,h1,b,h2,by rw[adr_add]⟩
 | rp l =>
  simp only[qhD,Option.some.injEq] at h;subst h;obtain⟨ad,us,rfl,h0,h1,h2,h3⟩:=hv;refine⟨ad,rfl,ad.add off,us.drop off,rfl,by rw[add_block];exact h0,fun hn=>by rw[add_block];exact h1 (fun e=>hn (by simp[e])),CellsAt.drop h2 off,h3.drop off⟩
 | ep o sz i q =>
  simp only[qhD,Option.some.injEq] at h;subst h;obtain⟨h1,b,h2,rfl,h3⟩:=hv;exact⟨_,rfl,h1,b,h2,by rw[adr_add,Nat.add_assoc],h3⟩
 | pa o q sz cnt inner i =>
  simp only[qhD,Option.some.injEq] at h;subst h;obtain⟨h1,b,h2,h3,h4,rfl⟩:=hv;exact⟨_,rfl,h1,b,h2,h3,h4,by rw[adr_add,Nat.add_assoc]⟩
 | ra x sz j q =>
  simp only[qhD,Option.some.injEq] at h;subst h;obtain⟨b,n,c,h1,h2,h3,rfl⟩:=hv;exact⟨_,rfl,b,n,c,h1,h2,h3,by rw[adr_add,Nat.add_assoc]⟩
 | _=>simp[qhD] at h
theorem qlf (r:Rel F σ γ a w) {t:TypeId} {x:Operand} {f:Nat} (ho:o.op = .fieldAddr t x f) (h:((ev σ tg x).bind fun v=>(qkd P t f).bind fun fd=>chk (sized P fd.type) ((qhD fd.offset (faOf v)).bind k))=some res):StR P σ γ a w tg o k res:=by
 simp only[Option.bind_eq_some_iff,chk_some] at h;obtain⟨pv,h1,fd,h3,h4,u,h5,h6⟩:=h;refine StR.of h6 fun hT=>?_;obtain⟨ad,e,hu⟩:=qmh h5 (qjB (qf r hT h1));obtain⟨fs,h8,h9⟩:=qlv h3;obtain⟨i,hi,hz⟩:=qkA h4;refine⟨_,fun w' _=>?_,hu⟩;obtain⟨dst,op,type,pos,after,guard⟩:=o;simp only at ho;subst ho;generalize a.eval=ρ at e ⊢;simp[execOp,Instr.fieldAt,Instr.sureAddr,fieldPlace,sizeOf,typeInfo,underlying,h8,h9,e,hi,hz,go_sem]
end
end Go.Den
namespace Go.Den
open Go.Eng
set_option linter.unusedVariables false
set_option linter.unusedSectionVars false
set_option linter.unusedSimpArgs false
variable [CT : Ctx]

section
variable {P : Program} {env : Env} {F : Fr} {σ : AState} {γ : Gh} {a : Act} {w : World} {tg : Tag} {o : Oper} {α : Type} {k : PV → Option α} {res : α}

theorem qL {t:TypeId} {n:Nat} (h:qb1 P t n=true):∃i,P.info? t=some i∧i.size=n:=by
 unfold qb1 at h;split at h
 ·rename_i i hi;exact⟨i,hi,Nat.eq_of_beq_eq_true h⟩
 ·cases h
theorem qni {t:TypeId} (h:qtX P t=true):aggOf P t=some false:=by
 unfold qtX at h;split at h
 ·rename_i b hb;rw[hb];simp at h;rw[h]
 ·cases h
theorem qcT {i:Int} {n:Nat} (h:inb i n=true):0≤i∧i<(n:Int):=by simpa[inb] using h
theorem qrP {A:Type} {l:List A} {i:Nat} {x:A} (h:l[i]?=some x):i<l.length:=(List.getElem?_eq_some_iff.1 h).1

theorem qtB {t:TypeId} (h:aggIs P t=true):aggOf P t=some true:=by
 unfold aggIs at h;split at h
 ·rename_i b hb;rw[hb,h]
 ·cases h
theorem qqZ {l:List Cv} {sz len i:Nat} (hi:i<len) (hl:len*sz=l.length):∀ {m:Nat} {cs:List Cv},m≤sz→selW l sz len i m=some cs→cs=(l.drop (i*sz+(sz-m))).take m
 | 0,cs,_,h=>by simp only[selW,Option.some.injEq] at h;subst h;simp
 | m+1,cs,hm,h=>by
  simp only[selW,chk_some,Option.bind_eq_some_iff,Option.some.injEq] at h;obtain⟨hc,c,h1,r,h2,rfl⟩:=h;have hc:=Nat.eq_of_beq_eq_true hc;have hg:=qsQ hc hi;have hle:i*sz+sz≤l.length:=by
   rw[←hl,←Nat.succ_mul];exact Nat.mul_le_mul_right _ hi
  have hlt:i*sz+(sz-(m+1))<l.length:=by omega
  rw[Nat.zero_add,List.getElem?_eq_getElem hlt] at hg;have:=qjo h1 hg;rw[List.drop_eq_getElem_cons hlt,List.take_succ_cons,this,qqZ hi hl (by omega) h2];congr 3;omega
theorem qur (r:Rel F σ γ a w) {t:TypeId} {x i:Operand} (ho:o.op = .index t x i) (h:idxS P σ tg t x i k=some res):StR P σ γ a w tg o k res:=by
 simp only[idxS,Option.bind_eq_some_iff] at h;obtain⟨pv,h1,iv,h2,⟨ki,n⟩,h3,h4⟩:=h;split at h4
 ·rename_i l;split at h4
  ·rename_i len e hu;by_cases hag:aggIs P e=true
   ·simp only[hag,cond_true,Option.bind_eq_some_iff,chk_some,req_some] at h4;obtain⟨inf,hi,hl,hb,ds,hs,h5⟩:=h4;refine StR.of h5 fun hT=>?_;have e2:=qaY r hT h2 h3;obtain⟨cs,e1,hv⟩:=qf r hT h1;have hb':=qcT (qae hb hT);have hl:=Nat.eq_of_beq_eq_true hl;have hds:=qqZ (i:=n.toNat) (by omega) hl (Nat.le_refl _) hs;rw[Nat.sub_self,Nat.add_zero] at hds;have hle:n.toNat*inf.size+inf.size≤l.length:=by
     rw[←hl,←Nat.succ_mul];exact Nat.mul_le_mul_right _ (by omega)
    have hp:qeE P e l (n.toNat*inf.size)=some (.agg ((l.drop (n.toNat*inf.size)).take inf.size)):=by
     simp only[qeE,qtB hag,hi,Option.bind_some,cond_true,chk,Nat.ble_eq_true_of_le hle]
    obtain⟨v,h6,h7,_⟩:=qaV (P:=P) hp hv;rw[←hds] at h7;refine⟨v,fun w' _=>?_,h7⟩
    have hsr:(sizeOf e).run P w' = .ok inf.size w':=by simp[sizeOf,typeInfo,hi,go_sem]
    have h6:=h6 w';rw[Array.toArray_toList] at h6;obtain⟨dst,op,type,pos,after,guard⟩:=o;simp only at ho;subst ho;generalize a.eval=ρ at e1 e2 ⊢;simp only[execOp,Instr.index,Sem.run_bind,e1,e2,asIntOf,Sem.run_pure,Result.andThen_ok,run_underlying hu,hb',and_self,if_true,hsr,h6]
   rw[Bool.not_eq_true] at hag;simp only[hag,cond_false] at h4;simp only[chk_some,Bool.and_eq_true,req_some,Option.bind_eq_some_iff] at h4;obtain⟨⟨hc,hl,hf⟩,hb,c,hs,h5⟩:=h4;obtain⟨inf,hi,hsz⟩:=qL hc;refine StR.of h5 fun hT=>?_;have e2:=qaY r hT h2 h3;obtain⟨cs,e1,hv⟩:=qf r hT h1;have hb':=qcT (qae hb hT);have hlen:len=l.length:=Nat.eq_of_beq_eq_true hl
   have hlt:n.toNat<l.length:=by omega
   have hsel:=qjo hs (List.getElem?_eq_getElem hlt);obtain⟨v,h6,h7⟩:=hv.get (List.getElem?_eq_getElem hlt);rw[hsel] at h7;refine⟨v,fun w' _=>?_,h7⟩;have hag:=qni hf
   have h6':cs[n.toNat]?=some v:=by simpa using h6
   have hsr:(sizeOf e).run P w' = .ok inf.size w':=by simp[sizeOf,typeInfo,hi,go_sem]
   have hpart:(part e cs n.toNat).run P w' = .ok v w':=by simp[part,qd3 hag,h6',go_sem]
   obtain⟨dst,op,type,pos,after,guard⟩:=o;simp only at ho;subst ho;generalize a.eval=ρ at e1 e2 ⊢;simp only[execOp,Instr.index,Sem.run_bind,e1,e2,asIntOf,Sem.run_pure,Result.andThen_ok,run_underlying hu,hb',and_self,if_true,hsr,hsz,Nat.mul_one,hpart]
  ·cases h4
 ·rename_i s;split at h4
  ·rename_i hu;obtain⟨b,h5,h6⟩:=Option.bind_eq_some_iff.1 h4;refine StR.of h6 fun hT=>⟨.int .u8 (b.toNat:Int),fun w' _=>?_,rfl⟩;have e2:=qaY r hT h2 h3;have e1:a.eval x = .string s:=qf r hT h1;rw[tagB_spec.2 hT] at h5;have h5':strAt s n=some b:=h5;unfold strAt at h5';have hnn:0≤n:=by
    by_cases hn:0≤n
    ·exact hn
    ·simp[hn] at h5'
   simp only[hnn,decide_true,cond_true] at h5';obtain⟨dst,op,type,pos,after,guard⟩:=o;simp only at ho;subst ho;generalize a.eval=ρ at e1 e2 ⊢;simp[execOp,Instr.index,e1,e2,asIntOf,run_underlying hu,hnn,h5',go_sem]
  ·cases h4
 ·cases h4

theorem quO (r:Rel F σ γ a w) (hT:tagT σ tg):∀ {l:List Operand} {vs:List PV},evs σ tg l=some vs→vs.length=l.length∧∀(i:Nat) (x:Operand) (v:PV),l[i]?=some x→vs[i]?=some v→PR σ.objs γ w v (a.eval x)
 | [],vs,h=>by simp only[evs,Option.some.injEq] at h;subst h;exact⟨rfl,fun i x v hx=>by simp at hx⟩
 | x::l,vs,h=>by
  simp only[evs,Option.bind_eq_some_iff,Option.some.injEq] at h;obtain⟨v,h1,us,h2,rfl⟩:=h;obtain⟨e,ih⟩:=quO r hT h2;refine⟨by simp[e],fun i y u hy hu=>?_⟩
  cases i with
  | zero=>simp at hy hu;subst hy;subst hu;exact qf r hT h1
  | succ i=>exact ih i y u (by simpa using hy) (by simpa using hu)
theorem qin {c:Cv} {v:Value} (h:quM c=true) (hv:VR σ.objs γ w c v):v.oneCell'=true:=by
 cases c with
 | v x=>simp only[VR] at hv;subst hv;exact h
 | sl e xs=>obtain⟨_,ao,cap,us,e1,_⟩:=hv;simp at e1;rw[e1];rfl
 | os o=>obtain⟨_,_,ao,n,c,rfl⟩:=hv;rfl
 | ptr o off=>obtain⟨_,b,_,rfl⟩:=hv;rfl
 | fn f caps=>obtain⟨_,l,rfl,_⟩:=hv;rfl
 | e0=>obtain⟨ao,rfl⟩:=hv;rfl
 | er b=>rcases hv with ⟨_,rfl⟩ | ⟨_,_,_,rfl⟩<;>rfl
 | rf x=>exact RefR.one hv v (by simp)
 | ifc t e x=>rw[show v=_ from hv];rfl
 | mp o=>obtain⟨_,b,_,rfl⟩:=hv;rfl
theorem qcc {pv:PV} {l:List Cv} {v:Value} (h:qbb pv=some l) (hv:PR σ.objs γ w pv v):VRL σ.objs γ w l v.cells.toList:=by
 cases pv with
 | c c =>
  simp only[qbb,chk_some,Option.some.injEq] at h;obtain⟨h0,rfl⟩:=h;have h1:v.cells = #[v]:=by
   have:=qin h0 hv
   cases v<;>first | rfl | (simp[Value.oneCell'] at this)
  rw[h1];exact⟨v,[],rfl,hv,rfl⟩
 | agg l' =>
  simp only[qbb,Option.some.injEq] at h;subst h;obtain⟨cs,rfl,h1⟩:=hv;exact h1
 | _=>simp[qbb] at h

theorem qp4 (off:Nat):∀(vs:List Value) (cells:Array Value) (i:Nat),off+i+vs.length≤cells.size→(List.foldl (fun cs (p:Value×Nat)=>cs.setIfInBounds (off+p.2) p.1) cells (vs.zipIdx i)).toList=cells.toList.take (off+i)++vs++cells.toList.drop (off+i+vs.length)
 | [],cells,i,_=>by simp
 | v::vs,cells,i,h=>by
  simp only[List.zipIdx_cons,List.foldl_cons];rw[qp4 off vs _ (i+1) (by simp at h ⊢;omega)];simp only[Array.toList_setIfInBounds,List.length_cons]
  have hlt:off+i<cells.toList.length:=by simp at h ⊢;omega
  rw[show off+(i+1)=off+i+1 by omega];have h1:(cells.toList.set (off+i) v).take (off+i+1)=cells.toList.take (off+i)++[v]:=by
   rw[List.take_add_one,List.getElem?_set_self hlt,List.take_set_of_le (Nat.le_refl _)];rfl
  have h2:(cells.toList.set (off+i) v).drop (off+i+1+vs.length)=cells.toList.drop (off+i+(vs.length+1)):=by
   rw[List.drop_set_of_lt (by omega)];congr 1;omega
  rw[h1,h2];simp
theorem qf0 (r:Rel F σ γ a w) (hT:tagT σ tg):∀ {l:List (Nat×Operand)} {ps:List (Nat×List Cv)},qil σ tg l=some ps→ps.length=l.length∧∀(j:Nat) (p:Nat×Operand) (q:Nat×List Cv),l[j]?=some p→ps[j]?=some q→q.1=p.1∧VRL σ.objs γ w q.2 (a.eval p.2).cells.toList
 | [],ps,h=>by simp only[qil,Option.some.injEq] at h;subst h;exact⟨rfl,fun i x v hx=>by simp at hx⟩
 | (i,x)::l,ps,h=>by
  simp only[qil,Option.bind_eq_some_iff,Option.some.injEq] at h;obtain⟨v,h1,c,h2,q,h3,rfl⟩:=h;obtain⟨e,ih⟩:=qf0 r hT h3;refine⟨by simp[e],fun j p u hp hu=>?_⟩
  cases j with
  | zero=>simp at hp hu;subst hp;subst hu;exact⟨rfl,qcc h2 (qf r hT h1)⟩
  | succ j=>exact ih j p u (by simpa using hp) (by simpa using hu)
theorem qov {place:Nat→Option (Nat×Nat)}:∀ {ps:List (Nat×List Cv)} {vals:List (Nat×Value)} {cs l:List Cv} {cells:Array Value},fillC place cs ps=some l→VRL σ.objs γ w cs cells.toList→ps.length=vals.length →
  (∀(j:Nat) (p:Nat×Value) (q:Nat×List Cv),vals[j]?=some p→ps[j]?=some q→q.1=p.1∧VRL σ.objs γ w q.2 p.2.cells.toList)→∃out,Instr.fill place cells vals=some out∧VRL σ.objs γ w l out.toList
 | [],[],cs,l,cells,h,hv,_,_=>by simp only[fillC,Option.some.injEq] at h;subst h;exact⟨cells,rfl,hv⟩
 | (i,c)::ps,(i',v)::vals,cs,l,cells,h,hv,hl,hp=>by
  simp only[fillC,Option.bind_eq_some_iff,chk_some,Bool.and_eq_true] at h;obtain⟨⟨off,sz⟩,h1,⟨h2,h3⟩,h4⟩:=h;obtain⟨rfl,hc⟩:=hp 0 _ _ rfl rfl;have e2:c.length=sz:=Nat.eq_of_beq_eq_true h2;have e3:off+c.length≤cs.length:=Nat.le_of_ble_eq_true h3;have lc:=hc.length;have lcs:=hv.length;simp only[Array.length_toList] at lc lcs
  have hz:v.cells.size=sz:=by omega
  have hfit:¬(off+v.cells.size>cells.size):=by omega
  have hf:(v.cells.zipIdx.foldl (fun cs (p:Value×Nat)=>cs.setIfInBounds (off+p.2) p.1) cells).toList=cells.toList.take off++v.cells.toList++cells.toList.drop (off+v.cells.toList.length):=by
   have:=qp4 off v.cells.toList cells 0 (by simp;omega);simp only[Nat.add_zero] at this;rw[←this];rw[←Array.foldl_toList];congr 2;simp
  have hv':VRL σ.objs γ w (cs.take off++c++cs.drop (off+c.length)) (v.cells.zipIdx.foldl (fun cs (p:Value×Nat)=>cs.setIfInBounds (off+p.2) p.1) cells).toList:=by
   rw[hf];refine((hv.take off).append hc).append ?_
   have:off+c.length=off+v.cells.toList.length:=by simp;omega
   rw[this];exact hv.drop _
  obtain⟨out,h5,h6⟩:=qov h4 hv' (by simpa using hl) (fun j p q hj hq=>hp (j+1) p q (by simpa using hj) (by simpa using hq));refine⟨out,?_,h6⟩;simp only[Instr.fill,h1];rw[if_neg (by simp[hz,hfit];omega)];exact h5
 | [],_::_,_,_,_,_,_,hl,_=>by simp at hl
 | _::_,[],_,_,_,_,_,hl,_=>by simp at hl
theorem qmn {t:TypeId} {l:List Cv} (h:qr1 P t=some l):∃i z,P.info? t=some i∧i.zero=some z∧VRL σ.objs γ w l z.cells.toList:=by
 simp only[qr1,Option.bind_eq_some_iff,Option.some.injEq] at h;obtain⟨i,h1,z,h2,rfl⟩:=h;exact⟨i,z,h1,h2,VRL.cvs _⟩
theorem quq (r:Rel F σ γ a w) {t:TypeId} {parts:Array (Nat×Operand)} (ho:o.op = .build t parts) (h:((qr1 P t).bind fun z=>(qil σ tg parts.toList).bind fun ps=>chk (qpF P t) ((fillC (qf9 P t) z ps).bind fun l=>k (.agg l)))=some res):StR P σ γ a w tg o k res:=by
 simp only[Option.bind_eq_some_iff,chk_some] at h;obtain⟨zc,h1,ps,h2,h3,l,h4,h5⟩:=h;refine StR.of h5 fun hT=>?_;obtain⟨i,z,hi,hz,hzv⟩:=qmn (P:=P) (σ:=σ) (γ:=γ) (w:=w) h1;obtain⟨e1,h6⟩:=qf0 r hT h2
 obtain⟨out,h7,h8⟩:=qov (vals:=(parts.map fun (p:Nat×Operand)=>(p.1,a.eval p.2)).toList) h4 hzv (by simp[e1]) (fun j p q hp hq=>by
  simp only[Array.toList_map,List.getElem?_map,Option.map_eq_some_iff] at hp;obtain⟨p',hp',rfl⟩:=hp
  exact h6 j p' q hp' hq)
 refine⟨.agg out,fun w' _=>?_,out,rfl,h8⟩;obtain⟨dst,op,type,pos,after,guard⟩:=o;simp only at ho;subst ho
 have hzr:(zeroValue t).run P w' = .ok z w':=by simp[zeroValue,typeInfo,hi,hz,go_sem]
 have hb:(Instr.build t (parts.map fun (p:Nat×Operand)=>(p.1,a.eval p.2))).run P w' = .ok (.agg out) w':=by
  generalize hvals:(parts.map fun (p:Nat×Operand)=>(p.1,a.eval p.2))=vals at h7;unfold qpF at h3;have hpl:qf9 P t=qf9 P t:=rfl;split at h3
  ·rename_i fs hu
   have hpe:qf9 P t=fun i=>(fs[i]?).bind fun (f:Field)=>(P.info? f.type).bind fun inf=>some (f.offset,inf.size):=by funext i;simp[qf9,hu]
   rw[hpe] at h7;have hm:∃places:Array (Nat×Nat),(fs.mapM fun (f:Field)=>(do pure (f.offset,←sizeOf f.type):Sem (Nat×Nat))).run P w' = .ok places w'∧(fun (i:Nat)=>places[i]?)=fun (i:Nat)=>(fs[i]?).bind fun (f:Field)=>(P.info? f.type).bind fun inf=>some (f.offset,inf.size):=by
    have hall:∀f∈fs.toList,∃inf,P.info? f.type=some inf:=fun f hf=>by
     have:=List.all_eq_true.1 h3 f hf;exact Option.isSome_iff_exists.1 this
    refine⟨(fs.toList.map fun (f:Field)=>(f.offset,((P.info? f.type).map (·.size)).getD 0)).toArray,?_,?_⟩
    ·rw[Array.mapM_eq_mapM_toList]
     have:=qfB (P:=P) (w:=w') (fun f:Field=>(do pure (f.offset,←sizeOf f.type):Sem (Nat×Nat))) fs.toList (fs.toList.map fun (f:Field)=>(f.offset,((P.info? f.type).map (·.size)).getD 0)) (fun j f y hf hy=>by
      simp only[List.getElem?_map,hf,Option.map_some,Option.some.injEq] at hy;subst hy;obtain⟨inf,hinf⟩:=hall f (List.mem_of_getElem? hf)
      simp[sizeOf,typeInfo,hinf,go_sem]) (by simp)
     simp only[Sem.run_map] ;rw[this];simp
    ·funext i;simp only[List.getElem?_toArray,List.getElem?_map]
     cases hf:fs[i]? with
     | none=>simp[hf]
     | some f =>
      obtain⟨inf,hinf⟩:=hall f (by simpa using Array.mem_of_getElem? hf);simp[hf,hinf]
   obtain⟨places,hm1,hm2⟩:=hm;unfold Instr.build;simp only[Sem.run_bind,hzr,Result.andThen_ok,run_underlying hu,hm1,hm2,h7,Sem.run_pure]
  ·rename_i m e hu;obtain⟨inf,hinf⟩:=Option.isSome_iff_exists.1 h3
   have hpe:qf9 P t=fun i=>some (i*inf.size,inf.size):=by funext i;simp[qf9,hu,hinf]
   rw[hpe] at h7
   have hsr:(sizeOf e).run P w' = .ok inf.size w':=by simp[sizeOf,typeInfo,hinf,go_sem]
   unfold Instr.build;simp only[Sem.run_bind,hzr,Result.andThen_ok,run_underlying hu,hsr,h7,Sem.run_pure]
  ·cases h3
 simp only[execOp,Sem.run_bind];rw[hb];rfl
end
end Go.Den
namespace Go.Den
open Go.Eng
set_option linter.unusedVariables false
set_option linter.unusedSectionVars false
set_option linter.unusedSimpArgs false
variable [CT : Ctx]

section
variable {P : Program} {env : Env} {F : Fr} {σ : AState} {γ : Gh} {a : Act} {w : World} {tg : Tag} {o : Oper} {α : Type} {k : PV → Option α} {res : α}

theorem Rep.slen {S:Sp} (e:Ty):∀(x:D e) (c:List Value),Rep w S e x [] c→c.length=e.size:=fun x c h=>Rep.length e h
theorem qcf {t e:TypeId} {inf:TypeInfo} (hu:P.underlying t=some (.slice e)) (hi:P.info? e=some inf) {ρ:Operand→Value} {x i:Operand} {ad:Addr} {len cap:Nat} {ki:IntKind} {n:Int}
  (ho:o.op = .indexAddr t x i) (e1:ρ x = .slice (some ad) len cap) (e2:ρ i = .int ki n) (hb:0≤n∧n<(len:Int)) (w':World) :
  (execOp ρ o).run P w' = .ok (.value (.pointer (some (ad.add (n.toNat*inf.size))))) w':=by
 obtain⟨dst,op,type,pos,after,guard⟩:=o;simp only at ho;subst ho;simp[execOp,Instr.indexAt,e1,e2,asIntOf,underlying,sizeOf,typeInfo,hu,hi,hb,go_sem]
theorem qdx {t e:TypeId} {inf:TypeInfo} {len:Nat} (hu:P.underlying t=some (.array len e)) (hi:P.info? e=some inf) {ρ:Operand→Value} {x i:Operand} {ad:Addr} {ki:IntKind} {n:Int}
  (ho:o.op = .indexAddr t x i) (e1:ρ x = .pointer (some ad)) (e2:ρ i = .int ki n) (hb:0≤n∧n<(len:Int)) (w':World) :
  (execOp ρ o).run P w' = .ok (.value (.pointer (some (ad.add (n.toNat*inf.size))))) w':=by
 obtain⟨dst,op,type,pos,after,guard⟩:=o;simp only at ho;subst ho;simp[execOp,Instr.indexAt,Instr.sureAddr,e1,e2,asIntOf,underlying,sizeOf,typeInfo,hu,hi,hb,go_sem]
theorem toList_some {A:Type} {o:Option A} {b:A} (h:o.toList=[b]):o=some b:=by cases o<;>simp_all
theorem qjF (r:ORel F σ.objs γ w) {p:Nat} {i:TypeId} {e:Ty} {xs:List (D e)} {fz:Bool} (h:σ.objs[p]?=some (.arr i e xs fz)) (hn:xs≠[]):∃b cap us,(γ p).2=some b∧(γ p).1 = .slice (some ⟨b,0,none⟩) xs.length cap∧xs.length≤cap∧CellsAt w ⟨b,0,none⟩ us∧RepL (fun x c=>Rep w (Imm σ.objs γ w) e x [] c) xs us:=by
 obtain⟨us,h1,h2⟩:=r.rep p _ h;obtain⟨b,cap,h3,h4,h5,h6⟩:=h1.cells (fun hl=>hn (List.eq_nil_of_length_eq_zero hl));exact⟨b,cap,us,toList_some h3,h4,h5,h6,h2⟩
theorem getD_some {A:Type} {xs:List A} {i:Nat} {d:A} (h:i<xs.length):xs[i]?=some (getD' xs i d):=by simp[getD',h]
theorem qtc (r:ORel F σ.objs γ w) {o:Nat} {i:TypeId} {p q:Ty} {j:TypeId} {xs:List (El p q)} {hole:Option (Nat×Nat)} (h:σ.objs[o]?=some (.hr i p q j xs hole)) (hn:xs≠[]):∃b cap us,(γ o).2=some b∧(γ o).1 = .slice (some ⟨b,0,none⟩) xs.length cap∧xs.length≤cap∧CellsAt w ⟨b,0,none⟩ us ∧
  RepL (ElR (fun x c=>Rep w (Imm σ.objs γ w) p x [] c) (fun x c=>Rep w (Imm σ.objs γ w) q x [] c) (KidI w (Imm σ.objs γ w))) (hz (hole.map fun h=>(h.1,(γ h.2).1)) xs) us:=by
 obtain⟨us,h1,h2,_⟩:=r.rep o _ h;obtain⟨b,cap,h3,h4,h5,h6⟩:=h1.cells (fun hl=>hn (List.eq_nil_of_length_eq_zero hl));exact⟨b,cap,us,toList_some h3,h4,h5,h6,h2⟩
theorem qrq (r:ORel F σ.objs γ w) {o:Nat} {i:TypeId} {p q:Ty} {j:TypeId} {xs:List (El p q)} {hole:Option (Nat×Nat)} (h:σ.objs[o]?=some (.hr i p q j xs hole)) {ao:Option Addr} {n c:Nat} (hg:(γ o).1 = .slice ao n c):n=xs.length:=by
 obtain⟨us,h9,_⟩:=r.rep o _ h;rcases h9 with ⟨_,⟨ao1,h10⟩,h11,_⟩ | ⟨b1,cap1,cur,_,h10,_⟩
 ·rw[hg] at h10;simp only[Value.slice.injEq] at h10;omega
 ·rw[hg] at h10;simp only[Value.slice.injEq] at h10;exact h10.2.1
theorem qw {A:Type} {l:List A} {i:Nat} {x:A} (h:l[i]?=some x):i<l.length:=(List.getElem?_eq_some_iff.1 h).1
theorem qnI:∀(objs:List OB) (n o:Nat),o∈qiW objs n↔∃t,∃p:Ty,∃ow,∃xs:Ents p,∃lent,n≤o∧objs[o-n]?=some (.ar t p ow xs lent)
 | [],n,o=>by simp[qiW]
 | ob::r,n,o=>by
  have ih:=qnI r (n+1) o;have step:∀X:OB,(o∈qiW r (n+1)↔∃t,∃p:Ty,∃ow,∃xs:Ents p,∃lent,n+1≤o∧(X::r)[o-n]?=some (.ar t p ow xs lent)):=fun X=>by
   rw[ih];constructor
   ·rintro ⟨t,p,ow,xs,lent,h1,h2⟩
    exact⟨t,p,ow,xs,lent,h1,by rw[show o-n=(o-(n+1))+1 by omega,List.getElem?_cons_succ];exact h2⟩
   ·rintro ⟨t,p,ow,xs,lent,h1,h2⟩
    refine⟨t,p,ow,xs,lent,h1,?_⟩
    rwa [show o-n=(o-(n+1))+1 by omega,List.getElem?_cons_succ] at h2
  by_cases hob:∃t,∃p:Ty,∃ow,∃xs:Ents p,∃lent,ob = .ar t p ow xs lent
  ·obtain⟨t,p,ow,xs,lent,rfl⟩:=hob;show o∈n::qiW r (n+1)↔_;rw[List.mem_cons,step (.ar t p ow xs lent)];constructor
   ·rintro (rfl | ⟨t',p',ow',xs',lent',h1,h2⟩)
    ·exact⟨t,p,ow,xs,lent,Nat.le_refl _,by simp⟩
    ·exact⟨t',p',ow',xs',lent',by omega,h2⟩
   ·rintro ⟨t',p',ow',xs',lent',h1,h2⟩
    by_cases e:o=n
    ·exact .inl e
    ·exact .inr ⟨t',p',ow',xs',lent',by omega,h2⟩
  ·have e1:qiW (ob::r) n=qiW r (n+1):=by
    cases ob<;>first | rfl | exact absurd ⟨_,_,_,_,_,rfl⟩ hob
   rw[e1,step ob];constructor
   ·rintro ⟨t',p',ow',xs',lent',h1,h2⟩
    exact⟨t',p',ow',xs',lent',by omega,h2⟩
   ·rintro ⟨t',p',ow',xs',lent',h1,h2⟩
    refine⟨t',p',ow',xs',lent',?_,h2⟩;by_cases e:o=n
    ·subst e;simp only[Nat.sub_self,List.getElem?_cons_zero,Option.some.injEq] at h2;exact absurd ⟨_,_,_,_,_,h2⟩ hob
    ·omega
theorem qre {objs:List OB} {o:Nat} (h:arOf objs=some o):∀o' t' p' ow' xs' lent',objs[o']?=some (.ar t' p' ow' xs' lent')→o'=o:=by
 intro o' t' p' ow' xs' lent' h';unfold arOf at h;split at h
 ·rename_i q hq;simp only[Option.some.injEq] at h;subst h;have:=(qnI objs 0 o').2 ⟨t',p',ow',xs',lent',Nat.zero_le _,by simpa using h'⟩;rw[hq] at this;simpa using this
 ·cases h
theorem getE {A:Type} {xs:List A} {i:Nat} {d:A} (h:i<xs.length):getD' xs i d=xs[i]:=by simp[getD',h]
theorem qpt {objs:List OB} (r:ORel F objs γ w) {o:Nat} {t:TypeId} {e:Ty} {ow:Option TypeId} {xs:Ents (.sl e)} {lent:Option Nat} (h:objs[o]?=some (.ar t (.sl e) ow xs lent)) {x:Nat} {v:Value} (hx:x≠0) (hm:γ.m x=some v) :
  x-1<xs.length∧∃b us,b∈γ.B∧OwnR w t e.size v [b] (ndP (A:=List (D e)) xs [] x).length us∧RepL (fun (d:D e) c=>Rep w (Imm objs γ w) e d [] c) (ndP (A:=List (D e)) xs [] x) us:=by
 obtain⟨ls,hs,hA,hB,hk,_⟩:=r.ar o t (.sl e) ow xs lent h
 have ex:x-1+1=x:=by omega
 have hm':γ.m (x-1+1)=(hs[x-1]?).join:=hA.m (x-1);rw[ex,hm] at hm';have hlt2:x-1<hs.length:=by
  rcases Nat.lt_or_ge (x-1) hs.length with h1 | h1
  ·exact h1
  ·rw[List.getElem?_eq_none h1] at hm';cases hm'
 rw[List.getElem?_eq_getElem hlt2] at hm';have hm2:hs[x-1]=some v:=hm'.symm
 have hlt:x-1<xs.length:=by rw[←hA.lenH];exact hlt2
 have hlt3:x-1<ls.length:=by rw[hA.len];exact hlt
 obtain⟨v',us,h1,h2,h3,h4⟩:=hA.node (x-1) _ _ _ (List.getElem?_eq_getElem hlt3) (List.getElem?_eq_getElem hlt) (List.getElem?_eq_getElem hlt2);rw[hm2] at h1;cases h1;refine⟨hlt,ls[x-1].1,us,hB _ (qeT (List.getElem?_eq_getElem hlt3) _ List.mem_cons_self),?_⟩;have e1:ndP (A:=List (D e)) xs [] x=xs[x-1].1:=congrArg Prod.fst (getE (A:=List (D e)×Option (List Nat)) (d:=([],none)) hlt);rw[e1];exact⟨h2,h3⟩
theorem OwnR.one {w:World} {i:TypeId} {size:Nat} {v:Value} {b n:Nat} {us:List Value} (h:OwnR w i size v [b] n us):∃cap cur,v = .slice (some ⟨b,0,none⟩) n cap∧Row w b cur i∧n≤cap∧cap≤maxLen∧cur.size=cap*size∧cur.toList.take (n*size)=us:=by
 rcases h with ⟨h,_⟩ | ⟨b',cap,cur,h,h2⟩
 ·cases h
 ·cases h;exact⟨cap,cur,h2⟩
theorem rf_row {objs:List OB} (r:ORel F objs γ w) {o:Nat} {t:TypeId} {e:Ty} {ow:Option TypeId} {xs:Ents (.sl e)} {lent:Option Nat} (h:objs[o]?=some (.ar t (.sl e) ow xs lent)) {x:Nat} {v:Value} (hv:RefR γ.m x [v]) :
  ∃ao c,v = .slice ao (lnP (A:=D e) xs x) c∧∀j,j<lnP (A:=D e) xs x→∃b,x≠0∧ao=some ⟨b,0,none⟩∧γ.m x=some v:=by
 rcases hv with ⟨rfl,hv⟩ | ⟨b,n,c,hx,hm,hv⟩
 ·simp only[List.cons.injEq,and_true] at hv;subst hv;exact⟨none,0,rfl,fun j hj=>absurd hj (Nat.not_lt_zero _)⟩
 ·simp only[List.cons.injEq,and_true] at hv;subst hv;obtain⟨hlt,b',us,hb,ho,_⟩:=qpt r h hx hm;obtain⟨cap,cur,hv,_⟩:=ho.one;have hl:lnP (A:=D e) xs x=(ndP (A:=List (D e)) xs [] x).length:=by
   unfold lnP;rw[show Nat.blt 0 x=true by rw[Nat.blt_eq];omega];rfl
  simp only[Value.slice.injEq,Option.some.injEq,Addr.mk.injEq] at hv;refine⟨some ⟨b,0,none⟩,c,by rw[hl,←hv.2.1],fun j _=>⟨b,hx,rfl,hm⟩⟩
theorem qm1 {k:Nat→Option α} {n:Int} {res:α}:∀ {m j:Nat},qoz n k m j=some res→∃j',k j'=some res
 | 0,j,h=>⟨j,h⟩
 | m+1,j,h=>by
  unfold qoz at h
  cases hb:(n==(j:Int)) with
  | true=>rw[hb] at h;exact⟨j,h⟩
  | false=>rw[hb] at h;exact qm1 h
theorem qsg {k:Nat→Option α} {n:Int} {res:α}:∀ {m j:Nat},qoz n k m j=some res→(j:Int)≤n→n≤(j+m:Nat)→k n.toNat=some res
 | 0,j,h,h1,h2=>by
  have:n.toNat=j:=by omega
  rw[this];exact h
 | m+1,j,h,h1,h2=>by
  unfold qoz at h;by_cases hb:n=(j:Int)
  ·have:n.toNat=j:=by omega
   rw[this];simpa[hb] using h
  ·have:(n==(j:Int))=false:=by simpa using hb
   rw[this] at h;exact qsg h (by omega) (by omega)
theorem qlc (r:Rel F σ γ a w) {t:TypeId} {x i:Operand} (ho:o.op = .indexAddr t x i) (h:((ev σ tg x).bind fun v=>(ev σ tg i).bind fun w=>(asInt w).bind fun q=>qsN P σ (tagB σ tg) t v (qlU i) q.2 k)=some res):StR P σ γ a w tg o k res:=by
 simp only[Option.bind_eq_some_iff] at h;obtain⟨pv,h1,iv,h2,⟨ki,n⟩,h3,h4⟩:=h;unfold qsN at h4;split at h4
 ·rename_i e hu
  cases pv with
  | c c =>
   have h6:idxSl P (tagB σ tg) e n k σ c=some res:=h4
   cases c with
   | sl τ xs =>
    simp only[idxSl,chk_some] at h6;obtain⟨hc,h7⟩:=h6;obtain⟨inf,hi,hsz⟩:=qL hc;obtain⟨d,h8,h9⟩:=Option.bind_eq_some_iff.1 h7;refine StR.of h9 fun hT=>?_;rw[tagB_spec.2 hT] at h8;have h8':at? xs n=some d:=h8;unfold at? at h8';have hnn:0≤n:=by
     by_cases hn:0≤n
     ·exact hn
     ·simp[hn] at h8'
    simp only[hnn,decide_true,cond_true] at h8';have hlt:=qrP h8';have e2:=qaY r hT h2 h3;obtain⟨_,ao,cap,us,e1,hcap,hrep,hne⟩:=qf r hT h1;obtain⟨ad,rfl,hS,hcell⟩:=hne (fun hx=>by subst hx;simp at hlt);simp only[List.cons.injEq,and_true] at e1;refine⟨_,fun w' _=>qcf hu hi ho e1 e2 ⟨hnn,by simp only;omega⟩ w',?_⟩;have hx:=hrep.get (Rep.slen τ) h8';rw[hsz];refine⟨_,_,rfl,by rw[add_block];exact hS.1,fun _=>by rw[add_block];exact hS,CellsAt.part hcell (n.toNat*τ.size) τ.size,qJ τ hx⟩
   | os p =>
    simp only[idxSl,Option.bind_eq_some_iff] at h6;obtain⟨ob,hob,h7⟩:=h6
    cases ob with
    | arr ti τ xs fz =>
     simp only[chk_some,req_some] at h7;obtain⟨hc,hb,h8⟩:=h7;obtain⟨inf,hi,hsz⟩:=qL hc;refine StR.of h8 fun hT=>?_;have hb':=qcT (qae hb hT);have e2:=qaY r hT h2 h3;obtain⟨hp1,e1,_⟩:=qf r hT h1
     have hne:xs≠[]:=fun hx=>by subst hx;simp at hb';omega
     obtain⟨b,cap,us,hg2,hg1,hcap,hcell,hrep⟩:=qjF r.o hob hne;rw[hg1] at e1;refine⟨_,fun w' _=>qcf hu hi ho e1 e2 hb' w',hp1,b,hg2,?_,_,_,_,hg1,by omega⟩;rw[adr_add,hsz];simp
    | hr ti pp qq jj xs hole =>
     simp only[chk_some,req_some] at h7;obtain⟨hc,hb,h8⟩:=h7;obtain⟨inf,hi,hsz⟩:=qL hc;refine StR.of h8 fun hT=>?_;have hb':=qcT (qae hb hT);have e2:=qaY r hT h2 h3;obtain⟨hp1,e1,_⟩:=qf r hT h1
     have hne:xs≠[]:=fun hx=>by subst hx;simp at hb';omega
     obtain⟨b,cap,us,hg2,hg1,hcap,hcell,hrep⟩:=qtc r.o hob hne;rw[hg1] at e1;refine⟨_,fun w' _=>qcf hu hi ho e1 e2 hb' w',hp1,b,hg2,?_,_,_,_,hg1,by omega⟩;rw[adr_add,hsz];simp
    | _=>simp at h7
   | rf y =>
    simp only[idxSl,Option.bind_eq_some_iff] at h6;obtain⟨q,hq,ob,hob,h7⟩:=h6
    cases ob with
    | ar tn pp ow xs lent =>
     cases pp with
     | sl e' =>
      simp only[chk_some,req_some] at h7;obtain⟨hc,hb,h8⟩:=h7;obtain⟨inf,hi,hsz⟩:=qL hc;refine StR.of h8 fun hT=>?_;have hb':=qcT (qae hb hT);have e2:=qaY r hT h2 h3;have hv:=qf r hT h1;obtain⟨ao,c,e1,hj⟩:=rf_row r.o hob (x:=y) (v:=a.eval x) hv;obtain⟨b,hy,rfl,hm⟩:=hj n.toNat (by omega);refine⟨_,fun w' _=>qcf hu hi ho e1 e2 hb' w',b,_,c,hy,by rw[hm,e1],by omega,?_⟩;rw[adr_add,hsz];simp
     | _=>simp at h7
    | _=>simp at h7
   | _=>simp[idxSl] at h6
  | vw p sz lo m =>
   simp only[idxW,Option.bind_eq_some_iff] at h4;obtain⟨ob,hob,h7⟩:=h4
   cases ob with
   | arr ti τ xs fz =>
    simp only[chk_some,req_some,Bool.and_eq_true] at h7;obtain⟨⟨hc,hsz'⟩,hb,h8⟩:=h7;obtain⟨inf,hi,hsz⟩:=qL hc;refine StR.of h8 fun hT=>?_;have hb':=qcT (qae hb hT);have e2:=qaY r hT h2 h3;obtain⟨hp1,ao0,n0,c0,ao,cap,hg,hlo,e1,hcap,hpos,_⟩:=qf r hT h1;obtain⟨b,hg2,hao⟩:=hpos (by omega);subst hao;have hn0:n0=xs.length:=by
     obtain⟨us,h9,_⟩:=r.o.rep p _ hob;rcases h9 with ⟨_,⟨ao1,h10⟩,h11,_⟩ | ⟨b1,cap1,cur,_,h10,_⟩
     ·rw[hg] at h10;simp only[Value.slice.injEq] at h10;omega
     ·rw[hg] at h10;simp only[Value.slice.injEq] at h10;exact h10.2.1
    refine⟨_,fun w' _=>qcf hu hi ho e1 e2 hb' w',hp1,b,hg2,?_,_,_,_,hg,by omega⟩;rw[adr_add,hsz];simp[Nat.add_mul]
   | _=>simp at h7
  | _=>simp[idxW] at h4
 ·rename_i len e hu;simp only[Option.bind_eq_some_iff,chk_some] at h4;obtain⟨inf,hi,hz,h5⟩:=h4;split at h5
  ·rename_i m hm;simp only[chk_some,Option.bind_eq_some_iff] at h5;obtain⟨hb,u,h6,h7⟩:=h5;have hb':=qcT hb;have hnm:n=m:=by
    cases i<;>simp only[qlU] at hm<;>try (cases hm;done)
    rename_i z
    cases z<;>simp only[qlU,Option.some.injEq] at hm<;>try (cases hm;done)
    subst hm;simp only[ev,qpN,Option.some.injEq] at h2;subst h2;simp only[asInt,Option.some.injEq,Prod.mk.injEq] at h3;exact h3.2.symm
   subst hnm;refine StR.of h7 fun hT=>?_;obtain⟨ad,e1,hu2⟩:=qmh h6 (qf r hT h1);exact⟨_,fun w' _=>qdx hu hi ho e1 (qaY r hT h2 h3) hb' w',hu2⟩
  ·cases pv with
   | c c =>
    cases c<;>simp only[idxV] at h5<;>try (cases h5;done)
    rename_i p off;by_cases hap:(arrE P e||apartAt σ p off (len*inf.size))=true
    ·simp only[hap,cond_true,chk_some,Bool.not_eq_true'] at h5;obtain⟨hl0,h5⟩:=h5
     have hl0:len≠0:=fun e=>by subst e;simp at hl0
     obtain⟨hb,h6⟩:=req_some.1 h5;obtain⟨j0,hj0⟩:=qm1 h6;refine⟨⟨_,hj0⟩,fun hT=>?_⟩;have hb':=qcT (qae hb hT);have h7:=qsg h6 (by omega) (by omega);obtain⟨hp1,b,hg,e1⟩:=qf r hT h1;refine⟨.c (.ptr p (off+n.toNat*inf.size)),⟨_,fun w' _=>qdx hu hi ho e1 (qaY r hT h2 h3) hb' w',?_⟩,h7⟩;exact⟨hp1,b,hg,by rw[adr_add]⟩
    ·simp only[Bool.eq_false_iff.2 hap,cond_false] at h5;obtain⟨hb,h6⟩:=req_some.1 h5;refine StR.of h6 fun hT=>?_;have hb':=qcT (qae hb hT);obtain⟨hp1,b,hg,e1⟩:=qf r hT h1;refine⟨_,fun w' _=>qdx hu hi ho e1 (qaY r hT h2 h3) hb' w',hp1,b,hg,hb'.1,hb'.2,?_⟩;rw[adr_add];simp
   | rp l =>
    simp only[idxV,chk_some,req_some,Bool.and_eq_true,Option.bind_eq_some_iff] at h5;obtain⟨⟨hs1,hl⟩,hb,c,hs,h6⟩:=h5;have hs1:=Nat.eq_of_beq_eq_true hs1;have hl:=Nat.eq_of_beq_eq_true hl;refine StR.of h6 fun hT=>?_;have hb':=qcT (qae hb hT);obtain⟨ad,us,e1,h0,hS,hcell,hv⟩:=qf r hT h1
    have hlt:n.toNat<l.length:=by omega
    obtain⟨v,h7,h8⟩:=hv.get (List.getElem?_eq_getElem hlt);rw[qjo hs (List.getElem?_eq_getElem hlt)] at h8;refine⟨_,fun w' _=>qdx hu hi ho e1 (qaY r hT h2 h3) hb' w',?_⟩;refine⟨_,[v],rfl,by rw[add_block];exact h0,fun _=>by rw[add_block];exact hS (fun e=>by rw[e] at h7;simp at h7),?_,⟨v,[],rfl,h8,rfl⟩⟩;have:=CellsAt.part hcell (n.toNat*inf.size) 1;rw[hs1,Nat.mul_one] at this ⊢;have hd:(us.drop n.toNat).take 1=[v]:=by
     rw[List.drop_eq_getElem_cons (qrP h7)];simp[(List.getElem?_eq_some_iff.1 h7).2]
    rw[hd] at this;exact this
   | _=>simp[idxV] at h5
 ·cases h4

theorem qrf {ρ:Operand→Value} {t:TypeId} {x:Operand} {ad:Addr} {v:Value} {w':World} (ho:o.op = .load t x) (e1:ρ x = .pointer (some ad)) (h:(loadVar t ad).run P w' = .ok v w'):(execOp ρ o).run P w' = .ok (.value v) w':=by
 obtain⟨dst,op,type,pos,after,guard⟩:=o;simp only at ho;subst ho;simp only[execOp,Instr.loadAt,Instr.sureAddr,e1,Sem.run_bind,Sem.run_pure,Result.andThen_ok,h]
theorem Chg.cells {ex:List Nat} {w w':World} {ad:Addr} {us:List Value} (h:CellsAt w ad us) (hc:Chg [] w w') (hl:us≠[]→ad.block<w.heap.size):CellsAt w' ad us:=by
 by_cases hn:us=[]
 ·subst hn;intro j v hv;simp at hv
 ·exact CellsAt.mono h (hc.block _ (hl hn) (by simp))
theorem qnq (r:ORel F σ.objs γ w) {t:TypeId} {pv u:PV} {v:Value} (h:qjz P σ t pv=some u) (hv:PR σ.objs γ w pv v):∃ad x,v = .pointer (some ad)∧(∀w',Chg [] w w'→(loadVar t ad).run P w' = .ok x w')∧PR σ.objs γ w u x:=by
 cases pv with
 | c c =>
  cases c<;>simp only[qjz] at h<;>try (cases h;done)
  rename_i p off;obtain⟨ob,hob,h2⟩:=Option.bind_eq_some_iff.1 h
  cases ob with
  | box cs =>
   simp only at h2;obtain⟨hp1,b,hg,rfl⟩:=hv;obtain⟨b',T,cells,hgg,hheap,hvl⟩:=r.rep p _ hob
   have hbb:b'=b:=by rw[hgg] at hg;simpa using hg
   subst hbb;obtain⟨x,_,h4,h5⟩:=qaV (P:=P) h2 hvl;refine⟨_,x,rfl,fun w' hc=>h5 w' _ ?_,h4⟩;have hlt:=(Array.getElem?_eq_some_iff.1 hheap).1;exact Chg.cells (ex:=[]) (qcP hheap off) hc (fun _=>hlt)
  | fbx cs =>
   simp only at h2;obtain⟨hp1,b,hg,rfl⟩:=hv;obtain⟨b',T,cells,hgg,hheap,hvl,_⟩:=r.rep p _ hob
   have hbb:b'=b:=by rw[hgg] at hg;simpa using hg
   subst hbb;obtain⟨x,_,h4,h5⟩:=qaV (P:=P) h2 hvl;refine⟨_,x,rfl,fun w' hc=>h5 w' _ ?_,h4⟩;have hlt:=(Array.getElem?_eq_some_iff.1 hheap).1;exact Chg.cells (ex:=[]) (qcP hheap off) hc (fun _=>hlt)
  | bld tb c =>
   simp only[chk_some] at h2;obtain⟨ho1,h3⟩:=h2;obtain rfl:=Nat.eq_of_beq_eq_true ho1;obtain⟨hp1,b,hg,rfl⟩:=hv;obtain⟨b',pp,vv,hgg,hheap,hpp,hvc⟩:=r.rep p _ hob
   have hbb:b'=b:=by rw[hgg] at hg;simpa using hg
   subst hbb;obtain⟨x,_,h4,h5⟩:=qaV (P:=P) (cs:=[vv]) h3 ⟨vv,[],rfl,hvc,rfl⟩;refine⟨_,x,rfl,fun w' hc=>h5 w' _ ?_,h4⟩;have hlt:=(Array.getElem?_eq_some_iff.1 hheap).1;exact Chg.cells (ex:=[]) (qcP hheap 1) hc (fun _=>hlt)
  | _=>simp at h2
 | rp l =>
  simp only[qjz] at h;obtain⟨ad,us,rfl,h0,hS,hcell,hvl⟩:=hv;obtain⟨x,_,h4,h5⟩:=qaV (P:=P) h hvl;exact⟨ad,x,rfl,fun w' hc=>h5 w' _ (by rw[List.drop_zero];exact Chg.cells (ex:=[]) hcell hc (fun _=>h0)),h4⟩
 | ep p sz i off =>
  simp only[qjz] at h;obtain⟨ob,hob,h2⟩:=Option.bind_eq_some_iff.1 h
  cases ob with
  | arr ti e xs fz =>
   simp only[chk_some] at h2;obtain⟨hsz,h3⟩:=h2;have hsz:=Nat.eq_of_beq_eq_true hsz;subst hsz;obtain⟨hp1,b,hg,rfl,ao0,n0,c0,hg0,hlt0⟩:=hv
   have hlt:i<xs.length:=by rw[←ObR.len (r.rep p _ hob) hg0];exact hlt0
   obtain⟨b',cap,us,hg2,_,_,hcell,hrep⟩:=qjF r hob (fun e=>by subst e;simp at hlt)
   have hbb:b'=b:=by rw[hg2] at hg;simpa using hg
   subst hbb;have hx:=hrep.get (Rep.slen e) (j:=i) (x:=getD' xs i (dflt e)) (by simp[getD',hlt]);obtain⟨x,_,h4,h5⟩:=qaV (P:=P) h3 (qJ e hx);refine⟨_,x,rfl,fun w' hc=>h5 w' _ ?_,h4⟩;have h6:=CellsAt.drop (CellsAt.part hcell (i*e.size) e.size) off;rw[adr_add,adr_add,Nat.zero_add] at h6;exact Chg.cells (ex:=[]) h6 hc (fun _=>r.lt p b' hp1 hg2)
  | hr ti pp qq jj xs hole =>
   cases hole with
   | some _=>simp at h2
   | none =>
    simp only[chk_some] at h2;obtain⟨hsz,h3⟩:=h2;have hsz:=Nat.eq_of_beq_eq_true hsz;subst hsz;obtain⟨hp1,b,hg,rfl,ao0,n0,c0,hg0,hlt0⟩:=hv
    have hlt:i<xs.length:=by rw[←qrq r hob hg0];exact hlt0
    obtain⟨b',cap,us,hg2,_,_,hcell,hrep⟩:=qtc r hob (fun e=>by subst e;simp at hlt)
    have hbb:b'=b:=by rw[hg2] at hg;simpa using hg
    subst hbb;have hx:=(hr_rep hrep).get (Rep.slen (eT pp qq)) (j:=i) (x:=getD' xs i (dflt (eT pp qq))) (getD_some (A:=D (eT pp qq)) hlt);obtain⟨x,_,h4,h5⟩:=qaV (P:=P) h3 (qJ (eT pp qq) hx);refine⟨_,x,rfl,fun w' hc=>h5 w' _ ?_,h4⟩;have h6:=CellsAt.drop (CellsAt.part hcell (i*(eT pp qq).size) (eT pp qq).size) off;rw[adr_add,adr_add,Nat.zero_add] at h6;exact Chg.cells (ex:=[]) h6 hc (fun _=>r.lt p b' hp1 hg2)
  | _=>simp at h2
 | pa p off sz cnt inner i =>
  simp only[qjz] at h;obtain⟨ob,hob,h2⟩:=Option.bind_eq_some_iff.1 h
  cases ob with
  | box cs =>
   simp only[Option.bind_eq_some_iff,chk_some,Bool.and_eq_true,Bool.not_eq_true',Option.some.injEq] at h2;obtain⟨ag,hag,⟨rfl,hlen⟩,c,hs,rfl⟩:=h2;obtain⟨hp1,b,hg,hi0,hi1,rfl⟩:=hv;obtain⟨b',T,cells,hgg,hheap,hvl⟩:=r.rep p _ hob
   have hbb:b'=b:=by rw[hgg] at hg;simpa using hg
   subst hbb;have hlen:=Nat.eq_of_beq_eq_true hlen;have hcg:=qsQ (cs:=cs) (sz:=sz) (inner:=inner) (off:=off) (j:=i.toNat) hlen (by omega)
   have hlt:i.toNat<(col cs off sz inner cnt).length:=by omega
   rw[List.getElem?_eq_getElem hlt,qjo hs (List.getElem?_eq_getElem hlt)] at hcg;obtain⟨x,h7,h8⟩:=hvl.get hcg.symm;refine⟨_,x,rfl,fun w' hc=>?_,h8⟩;have hbl:=(Array.getElem?_eq_some_iff.1 hheap).1;have hcw:w'.heap[b']?=some (.cells cells T (0,0)):=(hc.block b' hbl (by simp)).trans hheap;have h9:w'.cell? ⟨b',off+i.toNat*sz+inner,none⟩=some x:=by
    have:cells[off+i.toNat*sz+inner]?=some x:=by simpa using h7
    simp[World.cell?,hcw,this]
   simp[loadVar,qd3 hag,h9,go_sem]
  | _=>simp at h2
 | ra x sz j off =>
  simp only[qjz] at h;obtain⟨o,ho,h⟩:=Option.bind_eq_some_iff.1 h;obtain⟨ob,hob,h2⟩:=Option.bind_eq_some_iff.1 h
  cases ob with
  | ar tn pp ow xs lent =>
   cases pp with
   | sl e =>
    simp only[chk_some] at h2;obtain⟨hsz,h3⟩:=h2;have hsz:=Nat.eq_of_beq_eq_true hsz;subst hsz;obtain⟨b,n,c,hx,hm,hj,rfl⟩:=hv;obtain⟨_,b',us,hbB,how,hrep⟩:=qpt r hob hx hm;have hn:n=(ndP (A:=List (D e)) xs [] x).length:=by
     obtain⟨cap,cur,e1,_⟩:=how.one;simp only[Value.slice.injEq] at e1;exact e1.2.1
    have hlt:j<(ndP (A:=List (D e)) xs [] x).length:=by rw[←hn];exact hj
    obtain⟨b2,cap,hb2,e1,_,hcell⟩:=how.cells (by omega);simp only[Value.slice.injEq,Option.some.injEq,Addr.mk.injEq,and_true] at e1;obtain⟨rfl,_,rfl⟩:=e1;simp only[List.cons.injEq,and_true] at hb2;subst hb2;have hx2:=hrep.get (Rep.slen e) (j:=j) (x:=getD' (ndP (A:=List (D e)) xs [] x) j (dflt e)) (getD_some hlt);obtain⟨y,_,h4,h5⟩:=qaV (P:=P) h3 (qJ e hx2);refine⟨_,y,rfl,fun w' hch=>h5 w' _ ?_,h4⟩;have h6:=CellsAt.drop (CellsAt.part hcell (j*e.size) e.size) off;rw[adr_add,adr_add,Nat.zero_add] at h6;exact Chg.cells (ex:=[]) h6 hch (fun _=>(r.bl _ hbB).1)
   | _=>simp at h2
  | _=>simp at h2
 | _=>simp[qjz] at h
theorem hole_load (r:ORel F σ.objs γ w) {t:TypeId} {pv:PV} {v:Value} {x:Nat} (h:quJ P σ.objs t pv=some (true,x)) (hv:PR σ.objs γ w pv v):∃ad u,v = .pointer (some ad)∧(∀w',Chg [] w w'→(loadVar t ad).run P w' = .ok u w')∧PR σ.objs γ w (.c (.os x)) u:=by
 cases pv with
 | ep o sz i off =>
  simp only[quJ,Option.bind_eq_some_iff] at h;obtain⟨ob,hob,h2⟩:=h
  cases ob with
  | hr ti p q j xs hole =>
   cases hole with
   | none=>simp at h2
   | some hh =>
    obtain⟨k,r'⟩:=hh;simp only[chk_some,Bool.and_eq_true,Option.some.injEq,Prod.mk.injEq] at h2;obtain⟨⟨hsz,hoff,hfl⟩,hik,rfl⟩:=h2;obtain rfl:=Nat.eq_of_beq_eq_true hsz;obtain rfl:=Nat.eq_of_beq_eq_true hoff;obtain rfl:=Nat.eq_of_beq_eq_true hik;obtain⟨hp1,b,hg,rfl,ao0,n0,c0,hg0,hlt0⟩:=hv
    have hlt:i<xs.length:=by rw[←qrq r hob hg0];exact hlt0
    obtain⟨b',cap,us,hg2,_,_,hcell,hrep⟩:=qtc r hob (fun e=>by subst e;simp at hlt)
    have hbb:b'=b:=by rw[hg2] at hg;simpa using hg
    subst hbb
    have hx:=hrep.get (sz:=p.size+(1+q.size)) (fun _ _ h=>ElR.len h) (j:=i) (x:=(xs[i],some (γ r').1)) (by
     rw[qiM,List.getElem?_eq_getElem hlt]
     simp[hvAt,Nat.beq_refl])
    obtain⟨c1,u,c2,e1,e2,e3,e4,e5⟩:=hx;have e5:u=(γ r').1:=e5;subst e5;obtain⟨us',_,_,hh⟩:=r.rep o _ hob;refine⟨_,_,rfl,fun w' hch=>?_,(hh i r' rfl).2⟩;have h6:=CellsAt.part hcell (i*(p.size+(1+q.size))) (p.size+(1+q.size));rw[e1,adr_add,Nat.zero_add] at h6;have h7:=Chg.cells (ex:=[]) h6 hch (fun _=>r.lt o b' hp1 hg2);have h9:w'.cell? ⟨b',i*(p.size+(1+q.size))+p.size,none⟩=some (γ r').1:=by
     have:=h7 p.size (γ r').1 (by rw[List.getElem?_append_right (by rw[Rep.length p e2];omega),Rep.length p e2,Nat.sub_self];rfl);rw[adr_add] at this;exact this
    have hag:=qni hfl;show(loadVar t ⟨b',i*(eT p q).size+p.size,none⟩).run P w'=_;rw[show(eT p q).size=p.size+(1+q.size) from rfl];simp[loadVar,qd3 hag,h9,go_sem]
  | _=>simp at h2
 | _=>simp[quJ] at h
theorem st_load (r:Rel F σ γ a w) {t:TypeId} {x:Operand} (ho:o.op = .load t x) (h:((ev σ tg x).bind fun v=>loadS P σ t (faOf v) k)=some res):StR P σ γ a w tg o k res:=by
 obtain⟨pv,h1,h⟩:=Option.bind_eq_some_iff.1 h;unfold loadS at h;split at h
 ·rename_i y hy;obtain⟨b,y⟩:=y;rw[req_some] at h;obtain⟨hb,h3⟩:=h;have hb:b=true:=hb;subst hb;refine StR.of h3 fun hT=>?_;obtain⟨ad,v,e1,h4,h5⟩:=hole_load r.o hy (qjB (qf r hT h1));exact⟨v,fun w' hc=>qrf ho e1 (h4 w' (hc (by simp[qm6,ho]))),h5⟩
 obtain⟨u,h2,h3⟩:=Option.bind_eq_some_iff.1 h;refine StR.of h3 fun hT=>?_;obtain⟨ad,v,e1,h4,h5⟩:=qnq r.o h2 (qjB (qf r hT h1));exact⟨v,fun w' hc=>qrf ho e1 (h4 w' (hc (by simp[qm6,ho]))),h5⟩

theorem qaK (r:Rel F σ γ a w) (hT:tagT σ tg) {d n:Int} {x:Option Operand} (h:optI σ tg d x=some n):(x=none∧n=d)∨∃y ki,x=some y∧a.eval y = .int ki n:=by
 cases x with
 | none=>simp only[optI,Option.some.injEq] at h;exact .inl ⟨rfl,h.symm⟩
 | some y =>
  simp only[optI,Option.bind_eq_some_iff,Option.some.injEq] at h;obtain⟨v,h1,q,h2,rfl⟩:=h;exact .inr ⟨y,q.1,rfl,qaY r hT h1 h2⟩
theorem qx {t e:TypeId} (h:qaX P t=some e):P.underlying t=some (.slice e):=by
 simp only[qaX,Option.bind_eq_some_iff] at h;obtain⟨d,h1,h2⟩:=h
 cases d<;>simp at h2
 rw[h1,h2]
theorem qgZ {isS:Bool} {len cap:Nat} {lo hi:Option Value} {l h:Int} (hl:(lo=none∧l=0)∨∃ki,lo=some (.int ki l)) (hh:(hi=none∧h=(len:Int))∨∃ki,hi=some (.int ki h)) (hb:qh l h len=true) (hcap:len≤cap) (w':World) :
  (Instr.sliceBounds isS len cap lo hi none).run P w' = .ok (l.toNat,h.toNat,cap) w':=by
 simp only[qh,Bool.and_eq_true,decide_eq_true_eq] at hb;obtain⟨b1,b2,b3⟩:=hb
 have h1:0≤h∧h≤(cap:Int):=by omega
 have h2:0≤l∧l≤((h.toNat:Nat):Int):=by omega
 rcases hh with ⟨rfl,rfl⟩ | ⟨kh,rfl⟩<;>rcases hl with ⟨rfl,rfl⟩ | ⟨kl,rfl⟩
 ·simp[Instr.sliceBounds,go_sem]
 ·have h3:0≤l∧l≤(len:Int):=by omega
  simp[Instr.sliceBounds,Instr.sliceBound,asIntOf,h3,go_sem]
 ·simp[Instr.sliceBounds,Instr.sliceBound,asIntOf,h1,go_sem]
 ·simp[Instr.sliceBounds,Instr.sliceBound,asIntOf,h1,h2,go_sem];intro hlt;omega
theorem qj9 {x:Option Operand} (h:qc2 x=true):∃ki,x=some (.const (.int ki 0)):=by
 unfold qc2 at h;split at h
 ·exact⟨_,rfl⟩
 ·cases h
theorem qp1 {t e:TypeId} {inf:TypeInfo} (hu:P.underlying t=some (.slice e)) (hi:P.info? e=some inf) {x:Operand} {hi' mx:Option Operand} (ho:o.op = .slice t x none hi' mx) (h1:qc2 hi'=true) (h2:qc2 mx=true)
  {ao:Option Addr} {len cap:Nat} (e1:a.eval x = .slice ao len cap) (w':World):(execOp a.eval o).run P w' = .ok (.value (.slice ao 0 0)) w':=by
 obtain⟨k1,rfl⟩:=qj9 h1;obtain⟨k2,rfl⟩:=qj9 h2;obtain⟨dst,op,type,pos,after,guard⟩:=o;simp only at ho;subst ho;have ec:∀ki,a.eval (.const (.int ki 0)) = .int ki 0:=fun _=>rfl;have ec1:=ec k1;have ec2:=ec k2;generalize a.eval=ρ at e1 ec1 ec2 ⊢;simp[execOp,Instr.sliceAt,Instr.slice,Instr.sliceBounds,Instr.sliceBound,underlying,sizeOf,typeInfo,hu,hi,e1,ec1,ec2,asIntOf,go_sem]
theorem qko {S:Sp} {e:Ty} {xs:List (D e)} {l h:Int} {ao:Option Addr} {cap:Nat} {us:List Value} (hcap:h.toNat≤cap) (hrep:RepL (fun x c=>Rep w S e x [] c) xs us) (hne:xs≠[]→∃ad,ao=some ad∧S ad.block∧CellsAt w ad us) (hb:qh l h xs.length=true) :
  Rep w S (.sl e) ((xs.take h.toNat).drop l.toNat) [] [.slice (if cap=l.toNat then ao else ao.map (·.add (l.toNat*e.size))) (h.toNat-l.toNat) (cap-l.toNat)]:=by
 simp only[qh,Bool.and_eq_true,decide_eq_true_eq] at hb;obtain⟨b1,b2,b3⟩:=hb
 have hlen:((xs.take h.toNat).drop l.toNat).length=h.toNat-l.toNat:=by simp;omega
 refine⟨rfl,_,cap-l.toNat,_,by rw[hlen],by rw[hlen];omega,(hrep.take (Rep.slen e) h.toNat).drop (Rep.slen e) l.toNat,fun hn=>?_⟩;have hx:xs≠[]:=fun e=>hn (by rw[e,List.take_nil,List.drop_nil]);obtain⟨ad,rfl,hS,hc⟩:=hne hx;have hlt:l.toNat<h.toNat:=by
  rcases Nat.lt_or_ge l.toNat h.toNat with h1 | h1
  ·exact h1
  ·exact absurd (List.eq_nil_of_length_eq_zero (by rw[hlen];omega)) hn
 have hcl:cap≠l.toNat:=by omega
 rw[if_neg hcl];exact⟨_,rfl,by rw[add_block];exact hS,CellsAt.drop (CellsAt.take hc _) _⟩
theorem qrQ {S:Sp} {e:Ty} {xs:List (D e)} {l h:Int} {ao:Option Addr} {cap:Nat} {us:List Value} (hcap:xs.length≤cap) (hrep:RepL (fun x c=>Rep w S e x [] c) xs us) (hne:xs≠[]→∃ad,ao=some ad∧S ad.block∧CellsAt w ad us) (hb:qh l h xs.length=true) :
  Rep w S (.sl e) ((xs.take h.toNat).drop l.toNat) [] [.slice (if cap=l.toNat then ao else ao.map (·.add (l.toNat*e.size))) (h.toNat-l.toNat) (cap-l.toNat)] :=
 qko (by simp only[qh,Bool.and_eq_true,decide_eq_true_eq] at hb;omega) hrep hne hb
theorem qlE {len cap:Nat} {lo hi mx:Option Value} {l h m:Int} (hl:(lo=none∧l=0)∨∃ki,lo=some (.int ki l)) (hh:∃ki,hi=some (.int ki h)) (hm:∃ki,mx=some (.int ki m)) (hb:qh l h len=true) (h1:h≤m) (h2:m≤(len:Int)) (hcap:len≤cap) (w':World) :
  (Instr.sliceBounds true len cap lo hi mx).run P w' = .ok (l.toNat,h.toNat,m.toNat) w':=by
 simp only[qh,Bool.and_eq_true,decide_eq_true_eq] at hb;obtain⟨b1,b2,b3⟩:=hb
 have g1:0≤m∧m≤(cap:Int):=by omega
 have g2:0≤h∧h≤((m.toNat:Nat):Int):=by omega
 have g3:0≤l∧l≤((h.toNat:Nat):Int):=by omega
 obtain⟨kh,rfl⟩:=hh;obtain⟨km,rfl⟩:=hm;have key:∀(kk:IntKind) (i:Int) (y:Nat) q,(0≤i∧i≤(y:Int))→(Instr.sliceBound (.int kk i) y q).run P w' = .ok i.toNat w':=fun kk i y q hg=>by
  unfold Instr.sliceBound;simp only[asIntOf,Sem.run_bind,Sem.run_pure,Result.andThen_ok];rw[if_pos hg,Sem.run_pure]
 have e1:∀q,(Instr.sliceBound (.int km m) cap q).run P w' = .ok m.toNat w':=fun q=>key _ _ _ q g1;have e2:∀q,(Instr.sliceBound (.int kh h) m.toNat q).run P w' = .ok h.toNat w':=fun q=>key _ _ _ q g2;rcases hl with ⟨rfl,rfl⟩ | ⟨kl,rfl⟩
 ·simp only[Instr.sliceBounds,Sem.run_bind,if_true,e1,Result.andThen_ok,e2,Sem.run_pure];rfl
 ·have e3:∀q,(Instr.sliceBound (.int kl l) h.toNat q).run P w' = .ok l.toNat w':=fun q=>key _ _ _ q g3;simp only[Instr.sliceBounds,Sem.run_bind,if_true,e1,Result.andThen_ok,e2,e3,Sem.run_pure]
theorem qpi {t e:TypeId} {inf:TypeInfo} (hu:P.underlying t=some (.slice e)) (hi:P.info? e=some inf) {x:Operand} {lo hi' mx:Option Operand} (ho:o.op = .slice t x lo hi' mx)
  {ao:Option Addr} {len cap:Nat} {l h m:Int} (e1:a.eval x = .slice ao len cap) (hl:(lo=none∧l=0)∨∃y ki,lo=some y∧a.eval y = .int ki l) (hh:∃y ki,hi'=some y∧a.eval y = .int ki h) (hm:∃y ki,mx=some y∧a.eval y = .int ki m)
  (hb:qh l h len=true) (h1:h≤m) (h2:m≤(len:Int)) (hcap:len≤cap) (w':World) :
  (execOp a.eval o).run P w' = .ok (.value (.slice (if m.toNat=l.toNat then ao else ao.map (·.add (l.toNat*inf.size))) (h.toNat-l.toNat) (m.toNat-l.toNat))) w':=by
 have hl':(lo.map a.eval=none∧l=0)∨∃ki,lo.map a.eval=some (.int ki l):=by
  rcases hl with ⟨rfl,rfl⟩ | ⟨y,ki,rfl,hy⟩
  ·exact .inl ⟨rfl,rfl⟩
  ·exact .inr ⟨ki,by simp[hy]⟩
 have hh':∃ki,hi'.map a.eval=some (.int ki h):=by
  obtain⟨y,ki,rfl,hy⟩:=hh;exact⟨ki,by simp[hy]⟩
 have hm':∃ki,mx.map a.eval=some (.int ki m):=by
  obtain⟨y,ki,rfl,hy⟩:=hm;exact⟨ki,by simp[hy]⟩
 have hsb:=qlE (P:=P) hl' hh' hm' hb h1 h2 hcap w'
 have hsr:(sizeOf e).run P w' = .ok inf.size w':=by simp[sizeOf,typeInfo,hi,go_sem]
 obtain⟨dst,op,type,pos,after,guard⟩:=o;simp only at ho;subst ho;simp only[execOp,Instr.sliceAt,Sem.run_bind,run_underlying hu,Result.andThen_ok,Instr.slice,e1,hsb,hsr,Sem.run_pure]
theorem qje (r:Rel F σ γ a w) (hT:tagT σ tg) {d n:Int} {x:Option Operand} (hx:x.isSome=true) (h:optI σ tg d x=some n):∃y ki,x=some y∧a.eval y = .int ki n:=by
 rcases qaK r hT h with ⟨rfl,_⟩ | h
 ·cases hx
 ·exact h
theorem qgL {t e:TypeId} {inf:TypeInfo} (hu:P.underlying t=some (.slice e)) (hi:P.info? e=some inf) {x:Operand} {lo hi':Option Operand} (ho:o.op = .slice t x lo hi' none)
  {ao:Option Addr} {len cap:Nat} {l h:Int} (e1:a.eval x = .slice ao len cap) (hl:(lo=none∧l=0)∨∃y ki,lo=some y∧a.eval y = .int ki l) (hh:(hi'=none∧h=(len:Int))∨∃y ki,hi'=some y∧a.eval y = .int ki h)
  (hb:qh l h len=true) (hcap:len≤cap) (w':World) :
  (execOp a.eval o).run P w' = .ok (.value (.slice (if cap=l.toNat then ao else ao.map (·.add (l.toNat*inf.size))) (h.toNat-l.toNat) (cap-l.toNat))) w':=by
 have hl':(lo.map a.eval=none∧l=0)∨∃ki,lo.map a.eval=some (.int ki l):=by
  rcases hl with ⟨rfl,rfl⟩ | ⟨y,ki,rfl,hy⟩
  ·exact .inl ⟨rfl,rfl⟩
  ·exact .inr ⟨ki,by simp[hy]⟩
 have hh':(hi'.map a.eval=none∧h=(len:Int))∨∃ki,hi'.map a.eval=some (.int ki h):=by
  rcases hh with ⟨rfl,rfl⟩ | ⟨y,ki,rfl,hy⟩
  ·exact .inl ⟨rfl,rfl⟩
  ·exact .inr ⟨ki,by simp[hy]⟩
 have hsb:=qgZ (P:=P) (isS:=true) hl' hh' hb hcap w'
 have hsr:(sizeOf e).run P w' = .ok inf.size w':=by simp[sizeOf,typeInfo,hi,go_sem]
 obtain⟨dst,op,type,pos,after,guard⟩:=o;simp only at ho;subst ho;simp only[execOp,Instr.sliceAt,Sem.run_bind,run_underlying hu,Result.andThen_ok,Instr.slice,e1,Option.map_none,hsb,hsr,Sem.run_pure]
theorem qup (r:Rel F σ γ a w) {t:TypeId} {x:Operand} {lo hi mx:Option Operand} (ho:o.op = .slice t x lo hi mx) (h:sliceS P σ tg t x lo hi mx k=some res):StR P σ γ a w tg o k res:=by
 simp only[sliceS,Option.bind_eq_some_iff] at h;obtain⟨pv,h1,h2⟩:=h;split at h2
 ·rename_i s;simp only[chk_some,Bool.and_eq_true,Option.bind_eq_some_iff,req_some] at h2;obtain⟨⟨hm,hu⟩,l,hl,hh,hhh,hb,h3⟩:=h2;refine StR.of h3 fun hT=>⟨_,fun w' _=>?_,rfl⟩;have e1:a.eval x = .string s:=qf r hT h1;have hb':=qae hb hT;have hu':P.underlying t=some .string:=by
   split at hu
   ·assumption
   ·cases hu
  cases mx with
  | some _=>cases hm
  | none =>
  have hl':(lo.map a.eval=none∧l=0)∨∃ki,lo.map a.eval=some (.int ki l):=by
   rcases qaK r hT hl with ⟨rfl,rfl⟩ | ⟨y,ki,rfl,hy⟩
   ·exact .inl ⟨rfl,rfl⟩
   ·exact .inr ⟨ki,by simp[hy]⟩
  have hh':(hi.map a.eval=none∧hh=(s.size:Int))∨∃ki,hi.map a.eval=some (.int ki hh):=by
   rcases qaK r hT hhh with ⟨rfl,rfl⟩ | ⟨y,ki,rfl,hy⟩
   ·exact .inl ⟨rfl,rfl⟩
   ·exact .inr ⟨ki,by simp[hy]⟩
  have hsb:=qgZ (P:=P) (isS:=false) hl' hh' hb' (Nat.le_refl s.size) w';obtain⟨dst,op,type,pos,after,guard⟩:=o;simp only at ho;subst ho;simp only[execOp,Instr.sliceAt,Sem.run_bind,run_underlying hu',Result.andThen_ok,Instr.slice,e1,Option.map_none,hsb,Sem.run_pure,Option.isSome_none,Bool.false_eq_true,if_false]
 ·rename_i e xs;simp only[Option.bind_eq_some_iff,chk_some] at h2;obtain⟨i,hu,hc,h3⟩:=h2;have hu:=qx hu;obtain⟨inf,hinf,hsz⟩:=qL hc;by_cases hm:mx.isNone=true
  ·simp only[hm,cond_true,Option.bind_eq_some_iff,req_some] at h3;obtain⟨l,hl,hh,hhh,hb,h4⟩:=h3
   have hmx:mx=none:=by simpa using hm
   subst hmx;refine StR.of h4 fun hT=>?_;obtain⟨_,ao,cap,us,e1,hcap,hrep,hne⟩:=qf r hT h1;simp only[List.cons.injEq,and_true] at e1;have hb':=qae hb hT;refine⟨_,fun w' _=>qgL hu hinf ho e1 (qaK r hT hl) (qaK r hT hhh) hb' hcap w',?_⟩;rw[hsz];exact qrQ hcap hrep hne hb'
  ·simp only[Bool.eq_false_iff.2 hm,cond_false] at h3;by_cases hlo:lo.isNone=true
   rotate_left
   ·simp only[Bool.eq_false_iff.2 hlo,cond_false,chk_some,Bool.and_eq_true,Option.bind_eq_some_iff,req_some] at h3;obtain⟨⟨hs1,hs2⟩,l,hl,hh,hhh,m,hmm,hb,h4⟩:=h3;refine StR.of h4 fun hT=>?_;obtain⟨_,ao,cap,us,e1,hcap,hrep,hne⟩:=qf r hT h1;simp only[List.cons.injEq,and_true] at e1;have hb':=qae hb hT;simp only[Bool.and_eq_true,decide_eq_true_eq] at hb';obtain⟨hb',hb1,hb2⟩:=hb';refine⟨_,fun w' _=>qpi hu hinf ho e1 (qaK r hT hl) (qje r hT hs1 hhh) (qje r hT hs2 hmm) hb' hb1 hb2 hcap w',?_⟩;rw[hsz];exact qko (by omega) hrep hne hb'
   simp only[hlo,cond_true,chk_some,Bool.and_eq_true] at h3;obtain⟨⟨hh0,hm0⟩,h4⟩:=h3
   have hlo':lo=none:=by simpa using hlo
   subst hlo';refine StR.of h4 fun hT=>?_;obtain⟨_,ao,cap,us,e1,_⟩:=qf r hT h1;simp only[List.cons.injEq,and_true] at e1;exact⟨_,fun w' _=>qp1 hu hinf ho hh0 hm0 e1 w',ao,rfl⟩
 ·rename_i p;simp only[Option.bind_eq_some_iff] at h2;obtain⟨i,hu,ob,hob,h3⟩:=h2
  cases ob with
  | arr ti e xs fz =>
   simp only[chk_some,Bool.and_eq_true] at h3;obtain⟨⟨hc,hlo,hh0,hm0⟩,h4⟩:=h3
   have hlo':lo=none:=by simpa using hlo
   subst hlo';obtain⟨inf,hinf,hsz⟩:=qL hc;refine StR.of h4 fun hT=>?_;obtain⟨_,_,ao,n,c,e1⟩:=qf r hT h1;exact⟨_,fun w' _=>qp1 (qx hu) hinf ho hh0 hm0 e1 w',ao,rfl⟩
  | _=>simp at h3
 ·obtain⟨i,hu,h2⟩:=Option.bind_eq_some_iff.1 h2;by_cases hmn:mx.isNone=true
  ·have hmx:mx=none:=by simpa using hmn
   subst hmx;simp only[Option.isNone_none,cond_true,Option.bind_eq_some_iff,chk_some,req_some,Bool.and_eq_true] at h2;obtain⟨⟨hc,hlo⟩,hh,hhh,hb,h4⟩:=h2
   have hlo':lo=none:=by simpa using hlo
   subst hlo';obtain⟨inf,hinf,hsz⟩:=qkA hc;refine StR.of h4 fun hT=>?_;have e1:a.eval x = .slice none 0 0:=qf r hT h1
   have hb':hh=0:=by simpa using qae hb hT
   subst hb';have:=fun w'=>qgL (qx hu) hinf ho e1 (l:=0) (h:=0) (.inl ⟨rfl,rfl⟩) (qaK r hT hhh) (by decide) (Nat.le_refl _) w';exact⟨.slice none 0 0,fun w' _=>this w',rfl⟩
  ·simp only[Bool.eq_false_iff.2 hmn,cond_false,chk_some,Bool.and_eq_true] at h2;obtain⟨⟨hc,hlo,hh0,hm0⟩,h4⟩:=h2
   have hlo':lo=none:=by simpa using hlo
   subst hlo';obtain⟨inf,hinf,hsz⟩:=qkA hc;refine StR.of h4 fun hT=>?_;have e1:a.eval x = .slice none 0 0:=qf r hT h1;exact⟨_,fun w' _=>qp1 (qx hu) hinf ho hh0 hm0 e1 w',none,rfl⟩
 ·cases h2

theorem st_len (r:Rel F σ γ a w) {x:Operand} {t:TypeId} {args:Array Operand} {ats:Array TypeId} (ho:o.op = .call ⟨.builtin .len,args,ats⟩) (ha:args.toList=[x]) (hat:ats.toList=[t]) (h:lenS P σ tg o x t k=some res):StR P σ γ a w tg o k res:=by
 have ha':args = #[x]:=by rw[←Array.toList_inj,ha]
 have hat':ats = #[t]:=by rw[←Array.toList_inj,hat]
 subst ha';subst hat';have key:∀(i:TypeId) (ao:Option Addr) (n c:Nat),qaX P t=some i→a.eval x = .slice ao n c→∀w',(execOp a.eval o).run P w' = .ok (.value (.int .i64 (n:Int))) w':=by
  intro i ao n c hu e1 w';have hu:=qx hu;obtain⟨dst,op,type,pos,after,guard⟩:=o;simp only at ho;subst ho;rw[BigFrame.execOp_builtin,BigFrame.builtin_len]
  have:(#[x].map a.eval) = #[.slice ao n c]:=by simp only[List.map_toArray,List.map_cons,List.map_nil,e1]
  rw[this];simp[Builtin.len_,run_underlying hu,goInt,go_sem]
 simp only[lenS,Option.bind_eq_some_iff] at h;obtain⟨pv,h1,h2⟩:=h;split at h2
 ·rename_i e xs;obtain⟨i,hu,h3⟩:=Option.bind_eq_some_iff.1 h2;refine StR.of h3 fun hT=>?_;obtain⟨_,ao,cap,us,e1,_⟩:=qf r hT h1;simp only[List.cons.injEq,and_true] at e1;exact⟨_,fun w' _=>key i _ _ _ hu e1 w',rfl⟩
 ·rename_i p;simp only[Option.bind_eq_some_iff] at h2;obtain⟨i,hu,ob,hob,h3⟩:=h2
  cases ob with
  | arr ti e xs fz =>
   refine StR.of h3 fun hT=>?_;obtain⟨_,e1,_⟩:=qf r hT h1;obtain⟨us,h5,_⟩:=r.o.rep p _ hob;rcases h5 with ⟨_,⟨ao,h6⟩,h7,_⟩ | ⟨b,cap,cur,_,h6,_⟩
   ·rw[h6] at e1;rw[h7];exact⟨_,fun w' _=>key i _ _ _ hu e1 w',rfl⟩
   ·rw[h6] at e1;exact⟨_,fun w' _=>key i _ _ _ hu e1 w',rfl⟩
  | nilr =>
   refine StR.of h3 fun hT=>?_;obtain⟨_,e1,_⟩:=qf r hT h1;rw[show γ p=(.slice none 0 0,none) from r.o.rep p _ hob] at e1;exact⟨_,fun w' _=>key i _ _ _ hu e1 w',rfl⟩
  | hr ti pp qq jj xs hole =>
   refine StR.of h3 fun hT=>?_;obtain⟨_,e1,_⟩:=qf r hT h1;obtain⟨us,h5,_⟩:=r.o.rep p _ hob;rcases h5 with ⟨_,⟨ao,h6⟩,h7,_⟩ | ⟨b,cap,cur,_,h6,_⟩
   ·rw[h6] at e1;rw[h7];exact⟨_,fun w' _=>key i _ _ _ hu e1 w',rfl⟩
   ·rw[h6] at e1;exact⟨_,fun w' _=>key i _ _ _ hu e1 w',rfl⟩
  | _=>simp at h3
 ·obtain⟨i,hu,h3⟩:=Option.bind_eq_some_iff.1 h2;refine StR.of h3 fun hT=>?_;obtain⟨ao,e1⟩:=qf r hT h1;exact⟨_,fun w' _=>key i _ _ _ hu e1 w',rfl⟩
 ·obtain⟨i,hu,h3⟩:=Option.bind_eq_some_iff.1 h2;refine StR.of h3 fun hT=>?_;obtain⟨_,ao0,n0,c0,ao,cap,_,_,e1,_⟩:=qf r hT h1;exact⟨_,fun w' _=>key i _ _ _ hu e1 w',rfl⟩
 ·rename_i y;simp only[Option.bind_eq_some_iff] at h2;obtain⟨i,hu,q,hq,ob,hob,h3⟩:=h2
  cases ob with
  | ar tn pp ow xs lent =>
   cases pp with
   | sl e =>
    refine StR.of h3 fun hT=>?_;have hv:=qf r hT h1;obtain⟨ao,c,e1,_⟩:=rf_row r.o hob (x:=y) (v:=a.eval x) hv;exact⟨_,fun w' _=>key i _ _ _ hu e1 w',rfl⟩
   | _=>simp at h3
  | _=>simp at h3
 ·exact qa0 r (fun cs b e=>by rw[ho] at e;cases e) (fun z hz=>by rw[ho] at hz;simpa[Op.operands,Call.operands] using hz) h2
theorem quK {e:Ty} {xs:List (D e)} {ns:List Int} (h:u8s e xs=some ns):e = .int .u8∧HEq xs ns:=by
 unfold u8s at h;split at h
 ·exact⟨rfl,heq_of_eq (Option.some.inj h)⟩
 ·cases h
theorem qmS {w:World} {S:Sp}:∀ {ns:List Int} {us:List Value},RepL (fun (x:D (.int .u8)) c=>Rep w S (.int .u8) x [] c) ns us→us=ns.map (Value.int .u8)
 | [],us,h=>h
 | n::ns,us,⟨c,r,h1,h2,h3⟩=>by
  subst h1;rw[h2.2,qmS h3];rfl
theorem qln {src dst:TypeId} (h:(qgx P src&&strTy P dst)=true):∃e,P.underlying src=some (.slice e)∧P.underlying e=some (.int .u8)∧P.underlying dst=some .string:=by
 simp only[Bool.and_eq_true,qgx,strTy] at h;obtain⟨h1,h2⟩:=h;split at h1
 ·rename_i e he;split at h1
  ·rename_i he2;split at h2
   ·rename_i hd;exact⟨e,he,he2,hd⟩
   ·cases h2
  ·cases h1
 ·cases h1
theorem conv_run {src dst e:TypeId} (hs:P.underlying src=some (.slice e)) (he:P.underlying e=some (.int .u8)) (hd:P.underlying dst=some .string) {w:World} {ao:Option Addr} {ns:List Int} {cap:Nat}
  (hc:ns≠[]→∃a,ao=some a∧CellsAt w a (ns.map (Value.int .u8))):(convert src dst (.slice ao ns.length cap)).run P w = .ok (.string (strOf ns)) w:=by
 rw[run_convert_bytes_string w src dst e ao ns.length cap hs he hd];have key:∀a:Addr,CellsAt w a (ns.map (Value.int .u8))→(Conv.bytesToString (.slice (some a) ns.length cap)).run P w = .ok (.string (strOf ns)) w:=fun a ha=>by
  have hl:=run_loadCells_list (P:=P) w a (ns.map (Value.int .u8)) ha;rw[List.length_map] at hl;exact run_bytesToString w a ns.length cap ns hl
 by_cases h0:ns=[]
 ·subst h0
  cases ao with
  | none=>rfl
  | some a=>exact key a (fun j v hj=>by simp at hj)
 ·obtain⟨a,rfl,ha⟩:=hc h0;exact key a ha
theorem st_conv (r:Rel F σ γ a w) {src dst:TypeId} {x:Operand} (ho:o.op = .convert src dst x) (h:convS P σ tg o src dst x k=some res):StR P σ γ a w tg o k res:=by
 have key:∀ {w':World} {e:TypeId} {ao:Option Addr} {ns:List Int} {cap:Nat},P.underlying src=some (.slice e)→P.underlying e=some (.int .u8)→P.underlying dst=some .string→a.eval x = .slice ao ns.length cap →
   (ns≠[]→∃a,ao=some a∧CellsAt w' a (ns.map (Value.int .u8)))→(execOp a.eval o).run P w' = .ok (.value (.string (strOf ns))) w':=by
  intro w' e ao ns cap hs he hd e1 hc;have:=conv_run hs he hd (cap:=cap) hc;obtain⟨dst',op,type,pos,after,guard⟩:=o;simp only at ho;subst ho;simp only[execOp,Sem.run_bind,e1];rw[this];rfl
 simp only[convS,Option.bind_eq_some_iff] at h;obtain⟨pv,h1,h2⟩:=h;split at h2
 ·rename_i e xs;simp only[chk_some,Option.bind_eq_some_iff] at h2;obtain⟨hty,ns,hns,h3⟩:=h2;obtain⟨el,hs,he,hd⟩:=qln hty;obtain⟨rfl,hxs⟩:=quK hns;obtain rfl:=eq_of_heq hxs;refine StR.of h3 fun hT=>?_;obtain⟨_,ao,cap,us,e1,hcap,hrep,hne⟩:=qf r hT h1;simp only[List.cons.injEq,and_true] at e1;have hus:=qmS hrep;refine⟨_,fun w' hc=>key hs he hd e1 fun h0=>?_,rfl⟩;obtain⟨b,h4,h5,h6⟩:=hne h0;refine⟨b,h4,?_⟩;rw[←hus];exact CellsAt.mono h6 ((hc (by simp[qm6,ho])).block _ h5.lt (by simp))
 ·rename_i p;simp only[chk_some,Option.bind_eq_some_iff] at h2;obtain⟨hty,ob,hob,h3⟩:=h2
  cases ob with
  | arr ti e xs fz =>
   obtain⟨ns,hns,h3⟩:=Option.bind_eq_some_iff.1 h3;obtain⟨el,hs,he,hd⟩:=qln hty;obtain⟨rfl,hxs⟩:=quK hns;obtain rfl:=eq_of_heq hxs;refine StR.of h3 fun hT=>?_;obtain⟨_,e1,_⟩:=qf r hT h1;obtain⟨us,h5,hrep⟩:=r.o.rep p _ hob;have hus:=qmS hrep;subst hus;by_cases h0:xs=[]
   ·subst h0;rcases h5 with ⟨_,⟨ao,h6⟩,h7,_⟩ | ⟨b,cap,cur,_,h6,_⟩
    ·rw[h6] at e1;exact⟨_,fun w' hc=>key (ns:=[]) hs he hd e1 (fun h=>absurd rfl h),rfl⟩
    ·rw[h6] at e1;exact⟨_,fun w' hc=>key (ns:=[]) hs he hd e1 (fun h=>absurd rfl h),rfl⟩
   ·obtain⟨b,cap,h6,h7,h8,h9⟩:=h5.cells (fun h=>h0 (List.length_eq_zero_iff.1 h));rw[h7] at e1;have hlt:=OwnR.lt h5 b (by rw[h6];simp);refine⟨_,fun w' hc=>key hs he hd e1 fun _=>⟨_,rfl,?_⟩,rfl⟩;exact CellsAt.mono h9 ((hc (by simp[qm6,ho])).block _ hlt (by simp))
  | _=>simp at h3
 ·exact qa0 r (fun cs b e=>by rw[ho] at e;cases e) (fun z hz=>by rw[ho] at hz;simpa[Op.operands] using hz) h2
theorem qm0:∀ {vs:List PV} {caps:List (Nat×Nat)} {us:List Value},qo8 vs=some caps→vs.length=us.length→(∀(i:Nat) (v:PV) (u:Value),vs[i]?=some v→us[i]?=some u→PR σ.objs γ w v u)→capsLt σ.objs.length caps∧PtrL γ caps us
 | [],caps,us,h,hl,_=>by
  simp only[qo8,Option.some.injEq] at h;subst h;have:us=[]:=List.eq_nil_of_length_eq_zero (by simpa using hl.symm);subst this;exact⟨trivial,rfl⟩
 | v::vs,caps,[],h,hl,_=>by simp at hl
 | v::vs,caps,u::us,h,hl,hp=>by
  unfold qo8 at h;split at h
  ·cases ‹_::_=[]›
  ·rename_i p off q heq;simp only[List.cons.injEq] at heq;obtain⟨rfl,rfl⟩:=heq;simp only[Option.bind_eq_some_iff,Option.some.injEq] at h;obtain⟨l,h1,rfl⟩:=h;obtain⟨hlt,b,hg,e1⟩:=hp 0 _ _ rfl rfl;obtain⟨h2,h3⟩:=qm0 h1 (by simpa using hl) (fun i v u hv hu=>hp (i+1) v u (by simpa using hv) (by simpa using hu));exact⟨⟨hlt,h2⟩,b,us,by rw[e1],hg,h3⟩
  ·cases h
theorem qmy (r:Rel F σ γ a w) {f:FuncId} {first captured:Array Operand} (ho:o.op = .makeFunc (.func f) first captured) (h:chk first.isEmpty ((evs σ tg captured.toList).bind fun vs=>(qo8 vs).bind fun caps=>k (.c (.fn f caps)))=some res):StR P σ γ a w tg o k res:=by
 simp only[chk_some,Option.bind_eq_some_iff] at h;obtain⟨hf,vs,h1,caps,h2,h3⟩:=h
 have hf':first = #[]:=by simpa using hf
 subst hf';refine StR.of h3 fun hT=>?_;obtain⟨hl,hp⟩:=quO r hT h1
 obtain⟨h4,h5⟩:=qm0 (us:=captured.toList.map a.eval) h2 (by simp[hl]) (fun i v u hv hu=>by
  simp only[List.getElem?_map,Option.map_eq_some_iff] at hu;obtain⟨x,hx,rfl⟩:=hu
  exact hp i x v hx hv)
 refine⟨.func (.func f) #[] (captured.toList.map a.eval).toArray,fun w' _=>?_,h4,_,rfl,h5⟩;obtain⟨dst,op,type,pos,after,guard⟩:=o;simp only at ho;subst ho;simp only[execOp,Instr.makeFunc,Sem.run_bind,Sem.run_pure,Result.andThen_ok];rw[qtO];simp

theorem qkv {a b:Option α} {r:α} (h:agree a b=some r):a=some r∧b=some r:=by
 unfold agree at h;split at h
 ·rename_i e;exact⟨h,e▸h⟩
 ·cases h
theorem qsf (r:ORel F σ.objs γ w) {pv:PV} {em:Bool} {v:Value} (h:qh8 σ pv=some em) (hv:PR σ.objs γ w pv v):∃ao n c,v = .slice ao n c∧(ao=none→em=true):=by
 cases pv with
 | c c =>
  cases c with
  | sl e xs =>
   simp only[qh8,Option.some.injEq] at h;obtain⟨_,ao,cap,us,e1,_,_,hne⟩:=hv;simp only[List.cons.injEq,and_true] at e1;refine⟨ao,_,_,e1,fun hao=>?_⟩;by_cases hx:xs=[]
   ·rw[←h,hx];rfl
   ·obtain⟨ad,h1,_⟩:=hne hx;rw[hao] at h1;cases h1
  | os p =>
   simp only[qh8,Option.bind_eq_some_iff] at h;obtain⟨ob,hob,h⟩:=h
   cases ob with
   | arr i e xs fz =>
    simp only[Option.some.injEq] at h;obtain⟨_,e1,ao,n,c,e2⟩:=hv;refine⟨ao,n,c,e2,fun hao=>?_⟩;by_cases hx:xs=[]
    ·rw[←h,hx];rfl
    ·obtain⟨b,cap,us,_,h3,_⟩:=qjF r hob hx;rw[e2,h3,Value.slice.injEq] at e1;rw[hao] at e1;cases e1.1
   | _=>simp at h
  | e0 =>
   simp only[qh8,Option.some.injEq] at h;obtain⟨ao,e1⟩:=hv;exact⟨ao,0,0,e1,fun _=>h.symm⟩
  | _=>simp[qh8] at h
 | _=>simp[qh8] at h
theorem st_nil (r:Rel F σ γ a w) {op:BinOp} {t t':TypeId} {x y:Operand} (ho:o.op = .binOp op t x y t') {neg:Bool} (hop:op = .eql∧neg=false∨op = .neq∧neg=true) (h:nilS P σ tg o t neg x y k=some res):StR P σ γ a w tg o k res:=by
 unfold nilS at h;by_cases hq:(isNilP y&&(isPtr (ev σ tg x)&&ptrTy P t))=true
 ·simp only[hq,cond_true] at h;simp only[Bool.and_eq_true] at hq;obtain⟨hy,hx,ht⟩:=hq;have hy:y = .const (.pointer none):=by
   unfold isNilP at hy;split at hy
   ·rfl
   ·cases hy
  subst hy;refine StR.of h fun hT=>?_
  cases hev:ev σ tg x with
  | none=>rw[hev] at hx;cases hx
  | some pv =>
   rw[hev] at hx;unfold isPtr at hx;split at hx
   ·rename_i p q heq;simp only[Option.some.injEq] at heq;subst heq;obtain⟨_,b,_,e1⟩:=qf r hT hev;have hu:P.underlying t=some (.pointer (P.pointee t)):=by
     unfold ptrTy at ht;split at ht
     ·rename_i e he;simp[Program.pointee,he]
     ·cases ht
    refine⟨.bool neg,fun w' _=>?_,rfl⟩;have he:=run_equal_pointer_nil (P:=P) w' t (some ⟨b,q,none⟩) hu;obtain⟨dst,op',type,pos,after,guard⟩:=o;simp only at ho;subst ho;have ec:a.eval (.const (.pointer none)) = .pointer none:=rfl;generalize a.eval=ρ at e1 ec ⊢;rcases hop with ⟨rfl,rfl⟩ | ⟨rfl,rfl⟩
    ·simp[execOp,eqGuard,binOp,e1,ec,he,go_sem]
    ·simp[execOp,eqGuard,binOp,e1,ec,he,go_sem]
   ·cases hx
 rw[Bool.not_eq_true] at hq;simp only[hq,cond_false] at h;by_cases hq2:(qgj y&&nilrOf σ (ev σ tg x))=true
 ·simp only[hq2,cond_true] at h;simp only[Bool.and_eq_true] at hq2;obtain⟨hn,hx⟩:=hq2;obtain⟨i,hu,h1⟩:=Option.bind_eq_some_iff.1 h;have hu:=qx hu;have hy:y = .const (.slice none 0 0):=by
   unfold qgj at hn;split at hn
   ·rfl
   ·cases hn
  subst hy;refine StR.of h1 fun hT=>?_
  cases hev:ev σ tg x with
  | none=>rw[hev] at hx;cases hx
  | some pv =>
   rw[hev] at hx;unfold nilrOf at hx;split at hx
   ·rename_i p heq;simp only[Option.some.injEq] at heq;subst heq;split at hx
    ·rename_i hob;obtain⟨_,e1,_⟩:=qf r hT hev;rw[show γ p=(.slice none 0 0,none) from r.o.rep p _ hob] at e1;refine⟨.bool (!neg),fun w' _=>?_,rfl⟩;have he:=run_equal_slice_nil (P:=P) w' t i none 0 0 hu;obtain⟨dst,op',type,pos,after,guard⟩:=o;simp only at ho;subst ho;have ec:a.eval (.const (.slice none 0 0)) = .slice none 0 0:=rfl;generalize a.eval=ρ at e1 ec ⊢;rcases hop with ⟨rfl,rfl⟩ | ⟨rfl,rfl⟩
     ·simp[execOp,eqGuard,binOp,e1,ec,he,go_sem]
     ·simp[execOp,eqGuard,binOp,e1,ec,he,go_sem]
    ·cases hx
   ·cases hx
 rw[Bool.not_eq_true] at hq2;simp only[hq2,cond_false] at h;split at h
 ·rename_i q hem;obtain⟨i,hu,h1⟩:=Option.bind_eq_some_iff.1 h;have hu:=qx hu;have hy:y = .const (.slice none 0 0):=by
   by_cases hn:qgj y=true
   ·unfold qgj at hn;split at hn
    ·rfl
    ·cases hn
   ·simp only[Bool.eq_false_iff.2 hn,cond_false] at hem;cases hem
  subst hy;simp only[qgj,cond_true] at hem;obtain⟨h1,h2⟩:=req_some.1 h1;refine StR.of h2 fun hT=>?_;have hok:=qae h1 hT
  cases hev:ev σ tg x with
  | none=>rw[hev] at hem;cases hem
  | some pv =>
   rw[hev] at hem;unfold mbrOf at hem;split at hem
   ·rename_i p heq;simp only[Option.some.injEq] at heq;subst heq;split at hem
    ·rename_i i' e' z hob;simp only[Option.some.injEq] at hem;subst hem;obtain⟨_,e1,_⟩:=qf r hT hev;have key:∃ao n c,a.eval x = .slice ao n c∧((ao=none∧z=none)∨(ao≠none∧∃xs,z=some xs)):=by
      rcases r.o.rep p _ hob with ⟨rfl,h3⟩ | ⟨xs,us,rfl,h3,_⟩
      ·rw[h3] at e1;exact⟨_,_,_,e1,.inl ⟨rfl,rfl⟩⟩
      ·have hne:xs≠[]:=fun h0=>by subst h0;cases hok
       rcases h3 with ⟨_,_,h4,_⟩ | ⟨b,cap,cur,_,h4,_⟩
       ·exact absurd (List.length_eq_zero_iff.1 h4) hne
       ·rw[h4] at e1;exact⟨_,_,_,e1,.inr ⟨by simp,xs,rfl⟩⟩
     obtain⟨ao,n,c,e1,hao⟩:=key;refine⟨.bool (qor neg z),fun w' _=>?_,rfl⟩;have he:=run_equal_slice_nil (P:=P) w' t i ao n c hu;obtain⟨dst,op',type,pos,after,guard⟩:=o;simp only at ho;subst ho;have ec:a.eval (.const (.slice none 0 0)) = .slice none 0 0:=rfl;generalize a.eval=ρ at e1 ec ⊢;rcases hao with ⟨rfl,rfl⟩ | ⟨hn,xs,rfl⟩
     ·rcases hop with ⟨rfl,rfl⟩ | ⟨rfl,rfl⟩
      ·simp[execOp,eqGuard,binOp,e1,ec,he,go_sem,qor]
      ·simp[execOp,eqGuard,binOp,e1,ec,he,go_sem,qor]
     ·obtain⟨ad,rfl⟩:=Option.ne_none_iff_exists'.1 hn;rcases hop with ⟨rfl,rfl⟩ | ⟨rfl,rfl⟩
      ·simp[execOp,eqGuard,binOp,e1,ec,he,go_sem,qor]
      ·simp[execOp,eqGuard,binOp,e1,ec,he,go_sem,qor]
    ·cases hem
   ·cases hem
 split at h
 ·rename_i em hem;obtain⟨i,hu,h1⟩:=Option.bind_eq_some_iff.1 h;have hu:=qx hu;have hy:y = .const (.slice none 0 0):=by
   by_cases hn:qgj y=true
   ·unfold qgj at hn;split at hn
    ·rfl
    ·cases hn
   ·simp only[Bool.eq_false_iff.2 hn,cond_false] at hem;cases hem
  subst hy;simp only[qgj,cond_true] at hem;obtain⟨pv,h2,h3⟩:=Option.bind_eq_some_iff.1 hem;refine⟨?_,fun hT=>?_⟩
  ·cases em
   ·exact⟨_,h1⟩
   ·exact⟨_,(qkv h1).1⟩
  ·obtain⟨ao,n,c,e1,hao⟩:=qsf r.o h3 (qf r hT h2);have hrun:∀w',(execOp a.eval o).run P w' = .ok (.value (.bool (ao.isNone !=neg))) w':=fun w'=>by
    have he:=run_equal_slice_nil (P:=P) w' t i ao n c hu;obtain⟨dst,op',type,pos,after,guard⟩:=o;simp only at ho;subst ho;have ec:a.eval (.const (.slice none 0 0)) = .slice none 0 0:=rfl;generalize a.eval=ρ at e1 ec ⊢;rcases hop with ⟨rfl,rfl⟩ | ⟨rfl,rfl⟩
    ·simp[execOp,eqGuard,binOp,e1,ec,he,go_sem]
    ·simp[execOp,eqGuard,binOp,e1,ec,he,go_sem]
   refine⟨.c (.v (.bool (ao.isNone !=neg))),⟨_,fun w' _=>hrun w',rfl⟩,?_⟩
   cases ao with
   | none =>
    rw[hao rfl] at h1;have:=(qkv h1).1
    cases neg<;>exact this
   | some ad =>
    have:k (.c (.v (.bool neg)))=some res:=by
     cases em
     ·exact h1
     ·exact(qkv h1).2
    cases neg<;>exact this
 ·split at h
  ·rename_i b hb;simp only[chk_some] at h;obtain⟨hi,h1⟩:=h;have hu:P.underlying t=some (.interface (P.methodsAt t)):=by
    unfold ifaceTy at hi;split at hi
    ·rename_i ms hm;simp[Program.methodsAt,hm]
    ·cases hi
   have hy:y = .const .nilIface:=by
    by_cases hn:qus y=true
    ·unfold qus at hn;split at hn
     ·rfl
     ·cases hn
    ·simp only[Bool.eq_false_iff.2 hn,cond_false] at hb;cases hb
   subst hy;simp only[qus,cond_true] at hb;obtain⟨pv,h2,h3⟩:=Option.bind_eq_some_iff.1 hb;refine StR.of h1 fun hT=>?_;have e1:=qf r hT h2;obtain⟨v,e2,hv⟩:∃v,a.eval x=v∧((b=false∧v = .nilIface)∨(b=true∧∃t p,v = .iface t p)):=by
    unfold asErr at h3;split at h3
    ·simp only[Option.some.injEq] at h3;subst h3;exact⟨_,rfl,e1⟩
    ·cases h3
   have ec:a.eval (.const .nilIface) = .nilIface:=rfl;refine⟨_,fun w' _=>?_,rfl⟩;obtain⟨dst,op',type,pos,after,guard⟩:=o;simp only at ho;subst ho;generalize a.eval=ρ at e2 ec ⊢;rcases hv with ⟨rfl,rfl⟩ | ⟨rfl,te,pe,rfl⟩
   ·have he:=run_equal_nil_nil (P:=P) w' t hu;rcases hop with ⟨rfl,rfl⟩ | ⟨rfl,rfl⟩
    ·simp[execOp,eqGuard,binOp,e2,ec,he,go_sem]
    ·simp[execOp,eqGuard,binOp,e2,ec,he,go_sem]
   ·have he:=run_equal_held_nil (P:=P) w' t te pe hu;rcases hop with ⟨rfl,rfl⟩ | ⟨rfl,rfl⟩
    ·simp[execOp,eqGuard,binOp,e2,ec,he,go_sem]
    ·simp[execOp,eqGuard,binOp,e2,ec,he,go_sem]
  ·exact qa0 r (fun cs b e=>by rw[ho] at e;cases e) (fun z hz=>by rw[ho] at hz;simpa[Op.operands] using hz) h
end
end Go.Den
namespace Go.Den
open Go.Eng
set_option linter.unusedVariables false
set_option linter.unusedSectionVars false
set_option linter.unusedSimpArgs false
variable [CT : Ctx]

def oneV (agg:Bool) (cs:List Value):Value:=bif agg then .agg cs.toArray else cs.headD undef
def tupV:List Ty→List Value→List Value
 | [],_=>[]
 | τ::r,cs=>oneV τ.isAgg (cs.take τ.size)::tupV r (cs.drop τ.size)
def resV (one:Bool) (res:List Ty) (ρ:Ty) (cs:List Value):Value:=bif one then oneV ρ.isAgg cs else .tuple (tupV res cs).toArray
def qbh:(τ:Ty)→D τ→List Value
 | .int k,n=>[.int k n]
 | .bool,b=>[.bool b]
 | .str,s=>[.string s]
 | .st f r,x=>qbh f x.1++qbh r x.2
 | _,_=>[]
def ArgR (w:World) (S:Sp) (τ:Ty) (x:D τ) (v:Value):Prop:=∃cs,Rep w S τ x [] cs∧v=oneV τ.isAgg cs
def ArgsR (w:World) (S:Sp):(ps:List Ty)→DL ps→List Value→Prop
 | [],_,vs=>vs=[]
 | τ::r,x,vs=>∃v q,vs=v::q∧ArgR w S τ x.1 v∧ArgsR w S r x.2 q
def ResR (w w':World) (S:Sp) (c:Con) (r:D c.ρ) (v:Value):Prop:=∃M cs,M.Nodup∧(∀b∈M,w.heap.size≤b)∧Rep w' ⟨fun k=>k<w'.heap.size∧(S k∨w.heap.size≤k)∧k∉M,S.m⟩ c.ρ r M cs∧v=resV c.one c.res c.ρ cs
structure ConOK (P:Program) (f:FuncId) (c:Con):Prop where
 pure:c.ps.all Ty.pure=true
 wf:c.one=false→c.ρ=stOf c.res
 tt:∀g,c.tot=some g→∀x,c.φ x=some (g x)
 calls:∀(w:World) (S:Sp) (args:Array Value) (x:DL c.ps) (r:D c.ρ),(∀k,S k→k<w.heap.size)→TabR S w→ArgsR w S c.ps x args.toList→c.φ x=some r→Calls P f args w (fun e w'=>∃v,e = .returned v∧Chg [] w w'∧ResR w w' S c r v)
def ArgsB (w:World) (S:Sp):Bool→(ps:List Ty)→DL ps→List Value→Prop
 | false,ps,x,vs=>ArgsR w S ps x vs
 | true,[],_,_=>False
 | true,τ::r,x,vs=>∃a us q,vs = .pointer (some a)::q∧a.block<w.heap.size∧(us≠[]→S a.block)∧CellsAt w a us∧Rep w S τ x.1 [] us∧ArgsR w S r x.2 q
structure ConB (P:Program) (f:FuncId) (b:Bool) (c:Con):Prop where
 pure:c.ps.all Ty.pure=true
 wf:c.one=false→c.ρ=stOf c.res
 tt:∀g,c.tot=some g→∀x,c.φ x=some (g x)
 calls:∀(w:World) (S:Sp) (args:Array Value) (x:DL c.ps) (r:D c.ρ),(∀k,S k→k<w.heap.size)→TabR S w→ArgsB w S b c.ps x args.toList→c.φ x=some r→Calls P f args w (fun e w'=>∃v,e = .returned v∧Chg [] w w'∧ResR w w' S c r v)
theorem ConOK.b {P:Program} {f:FuncId} {c:Con} (h:ConOK P f c):ConB P f false c:=⟨h.pure,h.wf,h.tt,h.calls⟩
theorem ConB.ok {P:Program} {f:FuncId} {c:Con} (h:ConB P f false c):ConOK P f c:=⟨h.pure,h.wf,h.tt,h.calls⟩
structure SrtOK (P:Program) (f:FuncId) (s:Srt):Prop where
 flat:s.e.flat=true
 len:∀xs,(s.f xs).length=xs.length
 calls:∀(w:World) (S:Sp) (v:Value) (M:List Nat) (xs:List (D s.e)) (us:List Value),xs.length<4611686018427387904→OwnR w s.i s.e.size v M xs.length us→RepL (fun x c=>Rep w S s.e x [] c) xs us →
  Calls P f (v::(s.g.elim [] fun g=>[.func (.func g) #[] #[]])).toArray w (fun e w'=>e = .returned (.tuple #[])∧Chg M w w'∧∃us',OwnR w' s.i s.e.size v M xs.length us'∧RepL (fun x c=>Rep w' ⟨fun _=>False,fun _=>none⟩ s.e x [] c) (s.f xs) us')
def IoR (w w':World) (S:Sp) (b:Nat) (M:List Nat) (c:Ioc) (r:D (.st c.bx c.ρ)) (v:Value):Prop:=∃T cs M1 M2 cells,w'.heap[b]?=some (.cells cs T (0,0))∧(M1++M2).Nodup∧(∀k∈M1++M2,(k∈M∨w.heap.size≤k)∧k≠b) ∧
 Rep w' ⟨fun k=>k<w'.heap.size∧(S k∨w.heap.size≤k∨k∈M)∧k∉M1++M2∧k≠b,S.m⟩ c.bx r.1 M1 cs.toList∧Rep w' ⟨fun k=>k<w'.heap.size∧(S k∨w.heap.size≤k∨k∈M)∧k∉M1++M2∧k≠b,S.m⟩ c.ρ r.2 M2 cells∧v=resV c.one c.res c.ρ cells
structure IocOK (P:Program) (f:FuncId) (c:Ioc):Prop where
 pure:c.ps.all Ty.pure=true
 wf:c.one=false→c.ρ=stOf c.res
 calls:∀(w:World) (S:Sp) (b:Nat) (T:TypeId) (cs:Array Value) (M:List Nat) (args:List Value) (x:DL (c.bx::c.ps)) (r:D (.st c.bx c.ρ)),(∀k,S k→k<w.heap.size∧k≠b∧k∉M)→TabR S w→w.heap[b]?=some (.cells cs T (0,0))→M.Nodup→b∉M →
  Rep w S c.bx x.1 M cs.toList→ArgsR w S c.ps x.2 args→c.φ x=some r→Calls P f (.pointer (some ⟨b,0,none⟩)::args).toArray w (fun e w'=>∃v,e = .returned v∧Chg (b::M) w w'∧IoR w w' S b M c r v)
structure RocOK (P:Program) (f:FuncId) (c:Roc):Prop where
 pure:c.ps.all Ty.pure=true
 flat:c.e.flat=true
 flatR:c.ρ.flat=true
 wf:c.one=false→c.ρ=stOf c.res
 calls:∀(w:World) (S:Sp) (v:Value) (M:List Nat) (us args all:List Value) (x:DL (.osl c.i c.e::c.ps)) (r:D (.st (.osl c.i c.e) c.ρ)),(∀k,S k→k<w.heap.size∧k∉M)→TabR S w→OwnR w c.i c.e.size v M (List.length (α:=D c.e) x.1) us→RepL (fun x c'=>Rep w S c.e x [] c') x.1 us →
  ArgsR w S c.ps x.2 args→pullAt c.j all=some (v,args)→c.φ x=some r→Calls P f all.toArray w (fun e w'=>e = .returned (resV c.one c.res c.ρ (qbh c.ρ r.2))∧Chg M w w'∧∃us',OwnR w' c.i c.e.size v M (List.length (α:=D c.e) r.1) us'∧RepL (fun x c'=>Rep w' ⟨fun _=>False,fun _=>none⟩ c.e x [] c') r.1 us')
def ArG (w:World) (S:Sp):(a:Option (TypeId×Ty×Option TypeId))→D (arT a)→List Nat→Prop
 | none,_,M=>M=[]
 | some (t,p,ow),xs,M=>∃ls hs,M=flatB ls∧ArW w S t p ow none xs ls hs
def ClR (w:World) (S:Sp):Option FuncId→List Value→List Value→Prop
 | none,_,l=>l=[]
 | some f,va,l=>∃b p T,va=[p]∧l=[.pointer (some ⟨b,0,none⟩)]∧S b∧w.heap[b]?=some (.cells #[.func (.func f) #[] #[p,.pointer (some ⟨b,0,none⟩)]] T (0,0))
def GoR (w w':World) (S:Sp) (Mt M:List Nat) (va:List Value) (c:Goc) (r:D (.st c.tp (.st (arT c.ar) c.ρ))) (v:Value):Prop:=∃m M1 M2 M3 cells,(M1++M2++M3).Nodup∧(∀k∈M1++M2++M3,k∈M∨w.heap.size≤k)∧(∀i e,c.tp = .osl i e→M1=Mt)∧(∀x b,S.m x=some b→m x=some b)∧(c.ar=none→m=S.m) ∧
 Rep w' ⟨fun k=>k<w'.heap.size∧(S k∨w.heap.size≤k∨k∈M)∧k∉M1++M2++M3,m⟩ c.tp r.1 M1 va∧Rep w' ⟨fun k=>k<w'.heap.size∧(S k∨w.heap.size≤k∨k∈M)∧k∉M1++M2++M3,m⟩ c.ρ r.2.2 M2 cells ∧
 ArG w' ⟨fun k=>k<w'.heap.size∧(S k∨w.heap.size≤k∨k∈M)∧k∉M1++M2++M3,m⟩ c.ar r.2.1 M3∧v=resV c.one c.res c.ρ cells
structure GocOK (P:Program) (f:FuncId) (c:Goc):Prop where
 pure:c.ps.all Ty.pure=true
 top:topTy c.tp=true
 wf:c.one=false→c.ρ=stOf c.res
 calls:∀(w:World) (S:Sp) (Mt Mm Ma:List Nat) (va vcl vb args all:List Value) (x:DL (c.tp::c.mv::arT c.ar::c.ps)) (r:D (.st c.tp (.st (arT c.ar) c.ρ))),(∀k,S k→k<w.heap.size∧k∉Mt++Mm++Ma)→TabR S w→(Mt++Mm++Ma).Nodup→Rep w S c.tp x.1 Mt va→Rep w S c.mv x.2.1 Mm vb→ArG w S c.ar x.2.2.1 Ma→ClR w S c.cl va vcl→ArgsR w S c.ps x.2.2.2 args →
  weave (fun g=>Value.func (.func g) #[] #[]) c.sg (va++vcl) vb args=some all→c.φ x=some r→Calls P f all.toArray w (fun e w'=>∃v,e = .returned v∧Chg (Mt++Mm++Ma) w w'∧GoR w w' S Mt (Mt++Mm++Ma) va c r v)
def CkOK (P:Program) (f:FuncId) (t:TypeId):Prop:=∀(w:World) (b:Nat) (p v:Value),w.heap[b]?=some (.cells #[p,v] t (0,0))→(p = .pointer none∨p = .pointer (some ⟨b,0,none⟩)) →
 Calls P f #[.pointer (some ⟨b,0,none⟩)] w (fun e w'=>e = .returned (.tuple #[])∧Chg [b] w w'∧w'.heap[b]?=some (.cells #[.pointer (some ⟨b,0,none⟩),v] t (0,0)))
def BsOK (P:Program) (f:FuncId) (t i:TypeId):Prop:=∀(w:World) (b:Nat) (p v:Value) (M:List Nat) (xs:List Int),w.heap[b]?=some (.cells #[p,v] t (0,0))→NE v→OwnR w i 1 v M xs.length (xs.map (Value.int .u8))→b∉M →
 Calls P f #[.pointer (some ⟨b,0,none⟩)] w (fun e w'=>e = .returned (.string (strOf xs))∧Chg M w w')
structure InsOK (P:Program) (f:FuncId) (s:Ins):Prop where
 calls:∀(w:World) (S:Sp) (v vv:Value) (M Mv:List Nat) (xs ys:List (D s.e)) (us vs:List Value) (j:Nat),OwnR w s.i s.e.size v M xs.length us→RepL (fun x c=>Rep w S s.e x [] c) xs us→OwnR w s.i s.e.size vv Mv ys.length vs →
  RepL (fun x c=>Rep w S s.e x [] c) ys vs→(∀b∈M,b∉Mv)→(∀b∈M,b<w.heap.size)→0<ys.length→j≤xs.length→(xs.length+ys.length)*s.bytes≤140737488355328 →
  Calls P f #[v,.int .i64 j,vv] w (fun e w'=>∃v' M',e = .returned v'∧Chg M w w'∧(M'=M∨M'=[w.heap.size]∧w.heap.size<w'.heap.size)∧OwnR w' s.i s.e.size v' M' (xs.length+ys.length) (us.take (j*s.e.size)++(vs++us.drop (j*s.e.size))))
structure DelOK (P:Program) (f:FuncId) (s:Del):Prop where
 calls:∀(w:World) (S:Sp) (v:Value) (M:List Nat) (xs:List (D s.e)) (us:List Value) (i j:Nat),OwnR w s.i s.e.size v M xs.length us→RepL (fun x c=>Rep w S s.e x [] c) xs us→i≤j→j≤xs.length →
  Calls P f #[v,.int .i64 i,.int .i64 j] w (fun e w'=>∃v',e = .returned v'∧Chg M w w'∧OwnR w' s.i s.e.size v' M (xs.length-(j-i)) (us.take (i*s.e.size)++us.drop (j*s.e.size)))
def EntOK (P:Program) (f:FuncId):Ent→Prop
 | .con c=>ConB P f false c
 | .body fn=>P.funcs[f]?=some fn
 | .srt s=>SrtOK P f s
 | .io c=>IocOK P f c
 | .ro c=>RocOK P f c
 | .rd c=>ConB P f true c
 | .ck t=>CkOK P f t
 | .bs t i=>BsOK P f t i
 | .ins s=>InsOK P f s
 | .go c=>GocOK P f c
 | .del s=>DelOK P f s
class DqAll (P:Program):Prop where
 ok:∀g,Ctx.dq=some g→bodied P g=true∧∀(v:Value) (w:World),CallsD P g #[v] .returning w (fun e u' w'=>(∃x,e = .returned x)∧u' = .returning∧Chg [] w w')
theorem qkU {P:Program} [hq:DqAll P] {fn:Func} {tmps:Array Value} {R:Ending→World→Prop}:∀ {ds:List Deferred} {w:World},(∀d∈ds,DfR d) →
  (∀w',Chg [] w w'→∃v,(results fn tmps).run P w' = .ok v w'∧R (.returned v) w')→Leaves P fn tmps R ds .returning w
 | [],w,_,h=>h w (Chg.refl [] w)
 | d::ds,w,hd,h=>by
  obtain⟨g,v,hg,rfl⟩:=hd d List.mem_cons_self;obtain⟨hb,hc⟩:=hq.ok g hg;refine leaves_cons (f:=g) (args:=#[v]) (fun h=>by cases h) ?_ ((hc v w).mono fun e u' w' hh=>?_)
  ·show(callFunc g (#[] ++ #[v])).run P w=_;rw[qaP hb];rfl
  ·obtain⟨⟨x,rfl⟩,rfl,hch⟩:=hh;exact qkU (fun d hd'=>hd d (List.mem_cons_of_mem _ hd')) fun w'' hch'=>h w'' (Chg.trans' hch hch')
theorem qdD {P:Program} [hq:DqAll P] {fn:Func} {a:Act} {R:Ending→World→Prop} {w:World} (hd:∀d∈a.defers,DfR d)
  (h:∀w',Chg [] w w'→∃v,(results fn a.tmps).run P w' = .ok v w'∧R (.returned v) w'):Leaves P fn a.tmps R a.defers .returning w:=qkU hd h
structure EnvOK (P:Program) (env:Env):Prop where
 all:∀f e,env.find f=some e→EntOK P f e
section
variable {P : Program} {env : Env}
theorem EnvOK.con (h:EnvOK P env) (f:FuncId) (b:Bool) (c:Con) (hc:env.cb f=some (b,c)):ConB P f b c:=by
 obtain⟨e,he,h1⟩:=Option.bind_eq_some_iff.1 hc;have:=h.all f e he
 cases e<;>simp only[Option.some.injEq,Prod.mk.injEq,reduceCtorEq] at h1
 ·obtain⟨rfl,rfl⟩:=h1;exact this
 ·obtain⟨rfl,rfl⟩:=h1;exact this
theorem EnvOK.fn (h:EnvOK P env) (f:FuncId) (fn:Func) (hc:env.fn f=some fn):P.funcs[f]?=some fn:=by
 obtain⟨e,he,h1⟩:=Option.bind_eq_some_iff.1 hc;have:=h.all f e he
 cases e<;>simp only[Option.some.injEq,reduceCtorEq] at h1
 subst h1;exact this
theorem EnvOK.srt (h:EnvOK P env) (f:FuncId) (s:Srt) (hc:env.srt f=some s):SrtOK P f s:=by
 obtain⟨e,he,h1⟩:=Option.bind_eq_some_iff.1 hc;have:=h.all f e he
 cases e<;>simp only[Option.some.injEq,reduceCtorEq] at h1
 subst h1;exact this
theorem EnvOK.io (h:EnvOK P env) (f:FuncId) (c:Ioc) (hc:env.io f=some c):IocOK P f c:=by
 obtain⟨e,he,h1⟩:=Option.bind_eq_some_iff.1 hc;have:=h.all f e he
 cases e<;>simp only[Option.some.injEq,reduceCtorEq] at h1
 subst h1;exact this
theorem EnvOK.ck (h:EnvOK P env) (f:FuncId) (t:TypeId) (hc:env.ck f=some t):CkOK P f t:=by
 obtain⟨e,he,h1⟩:=Option.bind_eq_some_iff.1 hc;have:=h.all f e he
 cases e<;>simp only[Option.some.injEq,reduceCtorEq] at h1
 subst h1;exact this
theorem EnvOK.bs (h:EnvOK P env) (f:FuncId) (t i:TypeId) (hc:env.bs f=some (t,i)):BsOK P f t i:=by
 obtain⟨e,he,h1⟩:=Option.bind_eq_some_iff.1 hc;have:=h.all f e he
 cases e<;>simp only[Option.some.injEq,Prod.mk.injEq,reduceCtorEq] at h1
 obtain⟨rfl,rfl⟩:=h1;exact this
theorem EnvOK.nil (P:Program):EnvOK P []:=⟨fun f e h=>(by cases h)⟩
theorem EnvOK.push {f:FuncId} {e:Ent} (hE:EnvOK P env) (h:EntOK P f e):EnvOK P ((f,e)::env):=by
 refine⟨fun g e' hg=>?_⟩;simp only[Env.find] at hg;by_cases he:Nat.beq f g=true
 ·simp only[he,cond_true,Option.some.injEq] at hg;subst hg;rw[←Nat.eq_of_beq_eq_true he];exact h
 ·simp only[Bool.eq_false_iff.2 he,cond_false] at hg;exact hE.all g e' hg
theorem EnvOK.cons {f:FuncId} {c:Con} (hE:EnvOK P env) (h:ConOK P f c):EnvOK P ((f,.con c)::env):=hE.push h.b
theorem EnvOK.body {f:FuncId} {fn:Func} (hE:EnvOK P env) (h:P.funcs[f]?=some fn):EnvOK P ((f,.body fn)::env):=hE.push h
theorem EnvOK.sort {f:FuncId} {s:Srt} (hE:EnvOK P env) (h:SrtOK P f s):EnvOK P ((f,.srt s)::env):=hE.push h
theorem EnvOK.inout {f:FuncId} {c:Ioc} (hE:EnvOK P env) (h:IocOK P f c):EnvOK P ((f,.io c)::env):=hE.push h
theorem EnvOK.check {f:FuncId} {t:TypeId} (hE:EnvOK P env) (h:CkOK P f t):EnvOK P ((f,.ck t)::env):=hE.push h
end
theorem qt6 {τ:Ty} (h:τ.isAgg=false):τ.size=1:=by cases τ<;>first | rfl | cases h
theorem Ty.pure_ids {objs:List OB}:∀(τ:Ty),τ.pure=true→∀l,idsO objs τ l=[]
 | .int _,_,_=>rfl
 | .bool,_,_=>rfl
 | .str,_,_=>rfl
 | .nil,_,_=>rfl
 | .sl _,_,_=>rfl
 | .err,_,_=>rfl
 | .ref,_,_=>rfl
 | .ifc _ _,_,_=>rfl
 | .osl _ _,h,_=>by cases h
 | .onl _ _,h,_=>by cases h
 | .obx _,h,_=>by cases h
 | .st f r,h,l=>by
  simp only[Ty.pure,Bool.and_eq_true] at h;simp[idsO,Ty.pure_ids f h.1,Ty.pure_ids r h.2]
theorem qe6 {objs objs':List OB}:∀(τ:Ty),τ.pure=true→∀l,idsD objs τ l=idsD objs' τ l
 | .int _,_,_=>rfl
 | .bool,_,_=>rfl
 | .str,_,_=>rfl
 | .nil,_,_=>rfl
 | .ref,_,_=>rfl
 | .ifc _ _,_,_=>rfl
 | .omp _ _,_,_=>rfl
 | .sl _,_,_=>rfl
 | .osl _ _,_,_=>rfl
 | .onl _ _,_,_=>rfl
 | .err,_,_=>rfl
 | .obx _,h,_=>by cases h
 | .st f r,h,l=>by
  simp only[Ty.pure,Bool.and_eq_true] at h;simp only[idsD,qe6 (objs:=objs) (objs':=objs') f h.1,qe6 (objs:=objs) (objs':=objs') r h.2]
theorem qkw {F:Fr} {objs:List OB} {γ:Gh} {w:World} (r:ORel F objs γ w) {o:Nat}:∀(τ:Ty) {l:List Cv} {vs:List Value},VRL objs γ w l vs→o∈idsD objs τ l→o<objs.length
 | .int _,l,_,_,h=>by simp[idsD] at h
 | .bool,l,_,_,h=>by simp[idsD] at h
 | .str,l,_,_,h=>by simp[idsD] at h
 | .nil,l,_,_,h=>by simp[idsD] at h
 | .osl _ _,l,_,_,h=>by simp[idsD] at h
 | .onl _ _,l,_,_,h=>by simp[idsD] at h
 | .err,l,_,_,h=>by simp[idsD] at h
 | .bld _ _,l,_,_,h=>by simp[idsD] at h
 | .sl e,l,vs,hv,h=>by
  simp only[idsD] at h
  cases hc:cv1 l with
  | none=>rw[hc] at h;cases h
  | some c =>
   rw[hc] at h;rw[qbX hc] at hv;obtain⟨v,rfl,h3⟩:=hv.one'
   cases c<;>simp[osId] at h
   rw[h];exact h3.1
 | .obx e,l,vs,hv,h=>by
  simp only[idsD] at h
  cases hb:ownB objs l with
  | none =>
   rw[hb] at h;exact qkw r e (l:=[]) (vs:=[]) rfl (by simpa using h)
  | some bl =>
   rw[hb] at h;obtain⟨p,off,rfl,rfl,hob⟩:=qfY hb;obtain⟨b,T,cells,_,_,hvl⟩:=r.rep p _ hob;exact qkw r e hvl (by simpa using h)
 | .st f q,l,vs,hv,h=>by
  simp only[idsD,List.mem_append] at h;rcases h with h | h
  ·exact qkw r f (hv.take f.size) h
  ·exact qkw r q (hv.drop f.size) h
theorem onl_lt {w:World} {S:Sp} {i:TypeId} {e:Ty} {x:D (.onl i e)} {M:List Nat} {cs:List Value} (h:Rep w S (.onl i e) x M cs):∀b∈M,b<w.heap.size:=by
 rcases h with ⟨_,h,_⟩ | ⟨_,_,_,_,_,h,_⟩
 ·intro b hb;rw[h] at hb;cases hb
 ·exact h.lt
theorem kidO_lt {w:World} {j:TypeId} {y:Option (List Int)} {M:List Nat} {v:Value} (h:KidO w j y M v):∀b∈M,b<w.heap.size:=fun b hb=>by
 rcases h with ⟨_,rfl,_⟩ | ⟨ks,_,h2⟩
 ·cases hb
 ·rcases h2 with ⟨rfl,_⟩ | ⟨b',cap,cur,rfl,_,h3,_⟩
  ·cases hb
  ·obtain rfl:b=b':=by simpa using hb
   obtain⟨_,h4,_⟩:=h3;exact(Array.getElem?_eq_some_iff.1 h4).1
theorem hrl_lt {w:World} {S:Sp} {i:TypeId} {p q:Ty} {j:TypeId} {bh:Bool} {x:D (.hrl i p q j bh)} {M:List Nat} {cs:List Value} (h:Rep w S (.hrl i p q j bh) x M cs):∀b∈M,b<w.heap.size:=fun b hb=>by
 obtain⟨v,us,b1,b2,hv,_,rfl,h3,_,h5⟩:=h;rcases List.mem_append.1 hb with hb | hb
 ·rcases h3 with ⟨rfl,_⟩ | ⟨b',cap,cur,rfl,_,h3,_⟩
  ·cases hb
  ·obtain rfl:b=b':=by simpa using hb
   obtain⟨_,h4,_⟩:=h3;exact(Array.getElem?_eq_some_iff.1 h4).1
 ·rcases h5 with ⟨_,_,rfl⟩ | ⟨k,y,v2,_,_,_,h6⟩
  ·cases hb
  ·exact kidO_lt h6 b hb
section
variable {P : Program} {env : Env} {F : Fr} {σ : AState} {γ : Gh} {a : Act} {w : World} {tg : Tag} {o : Oper} {α : Type}

def PRL (objs:List OB) (γ:Gh) (w:World):List PV→List Value→Prop
 | [],us=>us=[]
 | p::l,us=>∃u q,us=u::q∧PR objs γ w p u∧PRL objs γ w l q
theorem qnF (r:Rel F σ γ a w) (hT:tagT σ tg):∀ {l:List Operand} {vs:List PV},evs σ tg l=some vs→PRL σ.objs γ w vs (l.map a.eval)
 | [],vs,h=>by simp only[evs,Option.some.injEq] at h;subst h;rfl
 | x::l,vs,h=>by
  simp only[evs,Option.bind_eq_some_iff,Option.some.injEq] at h;obtain⟨v,h1,us,h2,rfl⟩:=h;exact⟨a.eval x,l.map a.eval,rfl,qf r hT h1,qnF r hT h2⟩
theorem qnT {τ:Ty} {pv:PV} {l:List Cv} {u:Value} (h:qbb pv=some l) (ha:beqB τ.isAgg (qkb pv)=true) (hv:PR σ.objs γ w pv u):u=oneV τ.isAgg u.cells.toList:=by
 cases pv with
 | c c =>
  have hb:τ.isAgg=false:=by cases hh:τ.isAgg<;>simp_all [beqB,qkb]
  simp only[qbb,chk_some] at h;have:=qin h.1 hv;rw[hb]
  cases u<;>first | rfl | (simp[Value.oneCell'] at this)
 | agg l' =>
  have hb:τ.isAgg=true:=by cases hh:τ.isAgg<;>simp_all [beqB,qkb]
  obtain⟨cs,rfl,_⟩:=hv;rw[hb];simp[oneV,Value.cells]
 | _=>simp[qbb] at h
theorem qeN {S:Sp} (r:ORel F σ.objs γ w) (hS:Sp.le (Imm σ.objs γ w) S):∀ {ps:List Ty} {vs:List PV} {x:DL ps} {us:List Value},argsD σ.objs ps vs=some x→ps.all Ty.pure=true→PRL σ.objs γ w vs us→(∀o∈qnU ps vs,∀b,o<σ.objs.length→(γ o).2=some b→S b)→ArgsR w S ps x us
 | [],[],x,us,h,_,hv,_=>hv
 | τ::ps,v::vs,x,us,h,hp,⟨u,q,e,h1,h2⟩,hi=>by
  simp only[argsD,Option.bind_eq_some_iff,chk_some] at h;obtain⟨cs,h3,h4,y,h5,z,h6,hx⟩:=h;have hx:(y,z)=x:=Option.some.inj hx;subst hx;simp only[List.all_cons,Bool.and_eq_true] at hp;have hvl:=qcc h3 h1
  obtain⟨h7,_⟩:=qaS (S:=S) r hS τ h5 hvl (fun o ho b hb=>by
   have ho2:=ho;rw[qe6 (objs':=[]) τ hp.1] at ho2
   exact hi o (by simp[qnU,h3,ho2]) b (qkw r τ hvl ho) hb)
  rw[Ty.pure_ids τ hp.1] at h7;exact⟨u,q,e,⟨_,h7,qnT h3 h4 h1⟩,qeN r hS h6 hp.2 h2 (fun o ho=>hi o (by simp[qnU,ho]))⟩
 | [],_::_,x,us,h,_,_,_=>by simp[argsD] at h
 | _::_,[],x,us,h,_,_,_=>by simp[argsD] at h

theorem qr7 {l:List Cv} {pv:PV} {v:Value} (r:ORel F σ.objs γ w) (h:qqt σ.objs pv=some l) (hv:PR σ.objs γ w pv v):∃a us,v = .pointer (some a)∧a.block<w.heap.size∧CellsAt w a us∧VRL σ.objs γ w l us:=by
 unfold qqt at h;split at h
 ·cases h;obtain⟨a,us,h1,h2,_,h3,h4⟩:=hv;exact⟨a,us,h1,h2,h3,h4⟩
 ·rename_i p off;simp only[chk_some,Option.bind_eq_some_iff] at h;obtain⟨h0,ob,hob,h2⟩:=h
  cases ob with
  | box cs =>
   simp only[Option.some.injEq] at h2;subst h2;have h0:=Nat.eq_of_beq_eq_true h0;subst h0;obtain⟨hp1,b,hg,rfl⟩:=hv;obtain⟨b',T,cells,hgg,hheap,hvl⟩:=r.rep p _ hob
   have hbb:b'=b:=by rw[hgg] at hg;simpa using hg
   subst hbb;have:=qcP hheap 0;rw[List.drop_zero] at this;exact⟨_,cells.toList,rfl,(Array.getElem?_eq_some_iff.1 hheap).1,this,hvl⟩
  | _=>simp at h2
 ·cases h
theorem qoN (r:ORel F σ.objs γ w) {b:Bool} {ps:List Ty} {vs:List PV} {x:DL ps} {us:List Value} (h:argsB σ.objs b ps vs=some x) (hp:ps.all Ty.pure=true) (hv:PRL σ.objs γ w vs us):ArgsB w ⟨fun k=>k<w.heap.size,γ.m⟩ b ps x us:=by
 cases b with
 | false=>exact qeN r (S:=⟨fun k=>k<w.heap.size,γ.m⟩) ⟨fun k hk=>hk.lt,fun _ _ h=>h⟩ h hp hv (fun o _ b ho hb=>r.lt o b ho hb)
 | true =>
  match ps,vs,x,us,h,hp,hv with
  | τ::ps,v::vs,x,us,h,hp,⟨u,q,e,h1,h2⟩ =>
   simp only[argsB,Option.bind_eq_some_iff] at h;obtain⟨cs,h3,y,h5,z,h6,hx⟩:=h;have hx:(y,z)=x:=Option.some.inj hx;subst hx;simp only[List.all_cons,Bool.and_eq_true] at hp;obtain⟨a,cells,rfl,h7,h8,h9⟩:=qr7 r h3 h1;obtain⟨h10,_⟩:=qaS (S:=⟨fun k=>k<w.heap.size,γ.m⟩) r ⟨fun k hk=>hk.lt,fun _ _ h=>h⟩ τ h5 h9 (fun o ho b hb=>r.lt o b (qkw r τ h9 ho) hb);rw[Ty.pure_ids τ hp.1] at h10;exact⟨a,cells,q,e,h7,fun _=>h7,h8,h10,qeN r (S:=⟨fun k=>k<w.heap.size,γ.m⟩) ⟨fun k hk=>hk.lt,fun _ _ h=>h⟩ h6 hp.2 h2 (fun o _ b ho hb=>r.lt o b ho hb)⟩
  | [],_,_,_,h,_,_=>simp[argsB] at h
  | _::_,[],_,_,h,_,_=>simp[argsB] at h

theorem qdh {objs:List OB} {τ:Ty} {l:List Cv} {cs:List Value} (hl:l.length=τ.size) (hv:VRL objs γ w l cs):PR objs γ w (qgP τ.isAgg l) (oneV τ.isAgg cs):=by
 cases hb:τ.isAgg with
 | true=>exact⟨cs.toArray,rfl,hv⟩
 | false =>
  rw[qt6 hb] at hl;obtain⟨c,rfl⟩:=List.length_eq_one_iff.1 hl;obtain⟨v,rfl,h1⟩:=hv.one';exact h1
theorem qqL {objs:List OB} {τ:Ty} {l:List Cv} {cs:List Value} (hl:l.length=τ.size) (hv:VRL objs γ w l cs):PWR objs γ w (pwCells τ.isAgg l) (oneV τ.isAgg cs):=by
 cases hb:τ.isAgg with
 | true=>exact⟨cs.toArray,rfl,hv⟩
 | false =>
  rw[qt6 hb] at hl;obtain⟨c,rfl⟩:=List.length_eq_one_iff.1 hl;obtain⟨v,rfl,h1⟩:=hv.one';exact h1
theorem qkM {objs:List OB}:∀ {res:List Ty} {l:List Cv} {cs:List Value},l.length=(stOf res).size→VRL objs γ w l cs→PWL objs γ w (tupOf res l) (tupV res cs)
 | [],l,cs,_,_=>rfl
 | τ::r,l,cs,hl,hv=>by
  simp only[stOf,Ty.size] at hl;exact⟨_,_,rfl,qqL (by simp;omega) (hv.take τ.size),qkM (by simp;omega) (hv.drop τ.size)⟩
theorem qoL {objs:List OB} {c:Con} (wf:c.one=false→c.ρ=stOf c.res) {x:D c.ρ} {n:Nat} {cs:List Value} (hv:VRL objs γ w (cc c.ρ x n).1 cs):PR objs γ w (resPV c x n).1 (resV c.one c.res c.ρ cs):=by
 unfold resPV resV
 cases hb:c.one with
 | true=>exact qdh (qgm _ _ _) hv
 | false =>
  refine⟨_,rfl,?_⟩;exact qkM (by rw[qgm,wf hb]) hv

theorem qlR {S:Sp}:∀(τ:Ty) {x:D τ} {M:List Nat} {cs:List Value},τ.flat=true→Rep w S τ x M cs→cs=qbh τ x
 | .int _,_,_,_,_,h=>h.2
 | .bool,_,_,_,_,h=>h.2
 | .str,_,_,_,_,h=>h.2
 | .nil,_,_,_,_,h=>h.2
 | .sl _,_,_,_,hf,_=>by cases hf
 | .osl _ _,_,_,_,hf,_=>by cases hf
 | .onl _ _,_,_,_,hf,_=>by cases hf
 | .obx _,_,_,_,hf,_=>by cases hf
 | .st f r,x,M,cs,hf,⟨c1,c2,M1,M2,h1,_,h3,h4⟩=>by
  simp only[Ty.flat,Bool.and_eq_true] at hf;rw[h1,qlR f hf.1 h3,qlR r hf.2 h4];rfl
theorem qtH {objs:List OB}:∀(τ:Ty) (x:D τ) (n:Nat),τ.flat=true→VRL objs γ w (cc τ x n).1 (qbh τ x)∧(cc τ x n).2=[]
 | .int _,_,_,_=>⟨⟨_,_,rfl,rfl,rfl⟩,rfl⟩
 | .bool,_,_,_=>⟨⟨_,_,rfl,rfl,rfl⟩,rfl⟩
 | .str,_,_,_=>⟨⟨_,_,rfl,rfl,rfl⟩,rfl⟩
 | .nil,_,_,_=>⟨rfl,rfl⟩
 | .sl _,_,_,hf=>by cases hf
 | .osl _ _,_,_,hf=>by cases hf
 | .onl _ _,_,_,hf=>by cases hf
 | .obx _,_,_,hf=>by cases hf
 | .st f r,x,n,hf=>by
  simp only[Ty.flat,Bool.and_eq_true] at hf;obtain⟨h1,h2⟩:=qtH (objs:=objs) f x.1 n hf.1;obtain⟨h3,h4⟩:=qtH (objs:=objs) r x.2 (n+(cc f x.1 n).2.length) hf.2;refine⟨h1.append h3,?_⟩;show(cc f x.1 n).2++(cc r x.2 (n+(cc f x.1 n).2.length)).2=[];rw[h4,h2];rfl

def StQ (P:Program) (σ:AState) (γ:Gh) (a:Act) (w:World) (tg:Tag) (o:Oper) (k:PV→Option α) (res:α):Prop :=
 (∃pv,k pv=some res)∧(tagT σ tg→∃pv v,(∀w',Chg [] w w'→o.quietAt P a (Chg [] w') w' v)∧PR σ.objs γ w pv v∧k pv=some res)
theorem StR.quiet {k:PV→Option α} {res:α} (h:StR P σ γ a w tg o k res):StQ P σ γ a w tg o k res :=
 ⟨h.1,fun hT=>by
  obtain⟨pv,⟨v,h1,h2⟩,h3⟩:=h.2 hT;refine⟨pv,v,fun w' hc=>?_,h2,h3⟩;unfold Oper.quietAt;rw[h1 w' (fun _=>hc)]
  exact⟨rfl,rfl⟩⟩
theorem qdV {ρ:Operand→Value} {f:Operand} {args:Array Operand} {ats:Array TypeId} {g:FuncId} {l:List Value} (ho:o.op = .call ⟨.value f,args,ats⟩) (hf:ρ f = .func (.func g) #[] l.toArray):execOp ρ o=callFunc g ((args.toList.map ρ)++l).toArray:=by
 obtain⟨dst,op,type,pos,after,guard⟩:=o;simp only at ho;subst ho;simp only[execOp,resolve,hf,Deferred.ofValue];show(Sem.bind (Sem.pure _) _)=_;simp only[Sem.bind,invoke];congr 1;simp
theorem qrT (r:Rel F σ γ a w) {k:PV→Option α} {res:α} {t:TypeId} {x i:Operand} {ok:Bool} (ho:o.op = .lookup t x i ok) (h:qsR P σ tg t x i ok k=some res):StR P σ γ a w tg o k res:=absurd h (by simp[qsR])
theorem st_ifc (r:Rel F σ γ a w) {k:PV→Option α} {res:α} {t:TypeId} {x:Operand} (ho:o.op = .makeInterface t x) (h:ifcS P σ tg t x k=some res):StR P σ γ a w tg o k res:=absurd h (by simp[ifcS])
theorem st_call (hE:EnvOK P env) (r:Rel F σ γ a w) {k:PV→Option α} {res:α} {f:Operand} {args:Array Operand} {ats:Array TypeId} (ho:o.op = .call ⟨.value f,args,ats⟩)
  (h:((ev σ tg f).bind fun q=>(asFn q).bind fun g=>chk g.2.isEmpty ((env.cb g.1).bind fun q=>chk (q.2.ρ.flat&&bodied P g.1) ((evs σ tg args.toList).bind fun vs =>
   (argsB σ.objs q.1 q.2.ps vs).bind fun x=>match q.2.tot with
   | some g=>k (resPV q.2 (g x) 0).1
   | none=>Option.bind (gopt (tagB σ tg) (dflt q.2.ρ) (q.2.φ x)) fun r=>k (resPV q.2 r 0).1)))=some res):StQ P σ γ a w tg o k res:=by
 simp only[Option.bind_eq_some_iff,chk_some,Bool.and_eq_true] at h;obtain⟨q,h1,⟨g,caps⟩,h2,h3,⟨bb,c⟩,h4,⟨hfl,hbo⟩,vs,h5,x,h6,h7⟩:=h;simp only at hfl hbo h6 h7 h4;have hc:=hE.con g bb c h4;have hy:∃y,(tagT σ tg→c.φ x=some y)∧k (resPV c y 0).1=some res:=by
  split at h7
  ·rename_i gt hgt;exact⟨gt x,fun _=>hc.tt gt hgt x,h7⟩
  ·obtain⟨y,h8,h9⟩:=Option.bind_eq_some_iff.1 h7;refine⟨y,fun hT=>?_,h9⟩;rw[tagB_spec.2 hT] at h8;exact h8
 obtain⟨y,h7,h8⟩:=hy;refine⟨⟨_,h8⟩,fun hT=>?_⟩
 have hcaps:caps=[]:=by simpa using h3
 subst hcaps;have h7':c.φ x=some y:=h7 hT;obtain⟨_,l,hfv,hpl⟩:VR σ.objs γ w (.fn g []) (a.eval f):=by
  have:=qf r hT h1;rw[qc7 h2] at this;exact this
 simp only[PtrL] at hpl;subst hpl;have hx:=qdV (ρ:=a.eval) ho hfv;rw[List.append_nil] at hx;have hcc:=qtH (γ:=γ) (w:=w) (objs:=σ.objs) c.ρ y 0 hfl;refine⟨_,resV c.one c.res c.ρ (qbh c.ρ y),fun w' hw=>?_,qoL hc.wf hcc.1,h8⟩;unfold Oper.quietAt;rw[hx,qaP hbo];refine⟨rfl,?_⟩;have ha:=qoN (r.ext hw).o h6 hc.pure (qnF (r.ext hw) hT h5);refine(hc.calls w' _ _ x y (fun k hk=>hk) ((r.ext hw).o.tab.mono (fun k hk=>hk.lt) (fun _ _=>rfl)) (by simpa using ha) h7').mono fun e w'' hh=>?_;obtain⟨v,rfl,hch,M,cs,_,_,hrep,hv⟩:=hh;refine⟨?_,hch⟩;rw[hv,qlR c.ρ hfl hrep]

theorem qfC (hE:EnvOK P env) (r:Rel F σ γ a w) {k:PV→Option α} {res:α} (h:stepS P env σ tg o k=some res):StQ P σ γ a w tg o k res:=by
 unfold stepS at h;split at h
 ·exact(qpO r (.inl ‹_›) h).quiet
 ·exact(qpO r (.inr ‹_›) h).quiet
 ·exact(qmt r ‹_› h).quiet
 ·exact(st_pick r ‹_› h).quiet
 ·exact(qoB r ‹_› h).quiet
 ·rename_i ho;exact(st_bin r ho (fun neg hop hn=>st_nil r ho hop hn) h).quiet
 ·rename_i ho;exact(qa0 r (fun cs b e=>by rw[ho] at e;cases e) (fun z hz=>by rw[ho] at hz;simpa[Op.operands] using hz) h).quiet
 ·rename_i ho;exact(st_conv r ho h).quiet
 ·exact(quU r ‹_› h).quiet
 ·exact(qur r ‹_› h).quiet
 ·exact(quq r ‹_› h).quiet
 ·exact(qlf r ‹_› h).quiet
 ·exact(qlc r ‹_› h).quiet
 ·exact(st_load r ‹_› h).quiet
 ·exact(qup r ‹_› h).quiet
 ·exact(qrT r ‹_› h).quiet
 ·exact(st_ifc r ‹_› h).quiet
 ·exact(qmy r ‹_› h).quiet
 ·split at h
  ·rename_i ho _ _ _ _ ha hat;exact(st_len r ho ha hat h).quiet
  ·cases h
 ·rename_i ho;exact(qa0 r (fun cs b e=>by rw[ho] at e;cases e) (fun z hz=>by rw[ho] at hz;simpa[Op.operands,Call.operands] using hz) h).quiet
 ·rename_i ho;exact(qa0 r (fun cs b e=>by rw[ho] at e;cases e) (fun z hz=>by rw[ho] at hz;simpa[Op.operands,Call.operands] using hz) h).quiet
 ·rename_i ho;exact(qa0 r (fun cs b e=>by rw[ho] at e;cases e) (fun z hz=>by rw[ho] at hz;simpa[Op.operands,Call.operands] using hz) h).quiet
 ·exact st_call hE r ‹_› h
 ·cases h
theorem stepS_val (hcall:qqI o=false) (r:Rel F σ γ a w) {k:PV→Option α} {res:α} (h:stepS P env σ tg o k=some res):StR P σ γ a w tg o k res:=by
 unfold stepS at h;split at h
 ·exact(qpO r (.inl ‹_›) h)
 ·exact(qpO r (.inr ‹_›) h)
 ·exact(qmt r ‹_› h)
 ·exact(st_pick r ‹_› h)
 ·exact(qoB r ‹_› h)
 ·rename_i ho;exact(st_bin r ho (fun neg hop hn=>st_nil r ho hop hn) h)
 ·rename_i ho;exact(qa0 r (fun cs b e=>by rw[ho] at e;cases e) (fun z hz=>by rw[ho] at hz;simpa[Op.operands] using hz) h)
 ·rename_i ho;exact(st_conv r ho h)
 ·exact(quU r ‹_› h)
 ·exact(qur r ‹_› h)
 ·exact(quq r ‹_› h)
 ·exact(qlf r ‹_› h)
 ·exact(qlc r ‹_› h)
 ·exact(st_load r ‹_› h)
 ·exact(qup r ‹_› h)
 ·exact(qrT r ‹_› h)
 ·exact(st_ifc r ‹_› h)
 ·exact(qmy r ‹_› h)
 ·split at h
  ·rename_i ho _ _ _ _ ha hat;exact(st_len r ho ha hat h)
  ·cases h
 ·rename_i ho;exact(qa0 r (fun cs b e=>by rw[ho] at e;cases e) (fun z hz=>by rw[ho] at hz;simpa[Op.operands,Call.operands] using hz) h)
 ·rename_i ho;exact(qa0 r (fun cs b e=>by rw[ho] at e;cases e) (fun z hz=>by rw[ho] at hz;simpa[Op.operands,Call.operands] using hz) h)
 ·rename_i ho;exact(qa0 r (fun cs b e=>by rw[ho] at e;cases e) (fun z hz=>by rw[ho] at hz;simpa[Op.operands,Call.operands] using hz) h)
 ·rename_i ho;simp[qqI,ho] at hcall
 ·cases h
end

section
variable {F : Fr} {σ : AState} {γ γ' : Gh} {a : Act} {w w' : World} {objs' : List OB}
theorem Rel.setObjs (r:Rel F σ γ a w) (K:Keep σ.objs γ w objs' γ' w' σ.objs.length) (hs:SameLen σ.objs objs') (ho:ORel F objs' γ' w'):Rel F { σ with objs:=objs' } γ' a w' :=
 ⟨r.size,r.defers,fun t tg pv ht hT=>by
  obtain⟨v,h1,h2⟩:=r.slots t tg pv ht hT
  exact⟨v,h1,PR.keep K h2.below (.inr hs) h2⟩,r.off,r.gs,r.known,ho⟩
end
section
variable {F : Fr} {σ : AState} {γ γ' : Gh} {a : Act} {w w' : World} {objs' : List OB}
theorem Rel.setObjsN (r:Rel F σ γ a w) (K:Keep σ.objs γ w objs' γ' w' σ.objs.length) (ho:ORel F objs' γ' w'):Rel F { σ with objs:=objs' } γ' a w' :=
 ⟨r.size,r.defers,fun t tg pv ht hT=>by
  obtain⟨v,h1,h2⟩:=r.slots t tg pv ht hT
  exact⟨v,h1,PR.keep K h2.below (.inl rfl) h2⟩,r.off,r.gs,r.known,ho⟩
end
section
variable {F : Fr} {objs objs' : List OB} {γ : Gh} {w w' : World}
theorem Mut.lt {o:Nat} (h:Mut objs o):o<objs.length:=let ⟨_,h1,_⟩:=h;qw h1
theorem SameLen.trans {a b c:List OB} (h:SameLen a b) (g:SameLen b c) (hl:a.length≤b.length):SameLen a c:=fun o ti e xs fz hx hlt=>by
 obtain⟨t1,e1,x1,f1,h1,h2⟩:=g o ti e xs fz hx (by omega);obtain⟨t2,e2,x2,f2,h3,h4⟩:=h o t1 e1 x1 f1 h1 hlt;exact⟨t2,e2,x2,f2,h3,h4.trans h2⟩

def SameAr (objs objs0:List OB):Prop:=∀(o:Nat) (t:TypeId) (p:Ty) (ow:Option TypeId) (xs:Ents p) (lent:Option Nat),objs0[o]?=some (.ar t p ow xs lent)→objs[o]?=some (.ar t p ow xs lent)
theorem SameAr.refl (objs:List OB):SameAr objs objs:=fun _ _ _ _ _ _ h=>h
theorem SameAr.trans {a b c:List OB} (h:SameAr a b) (g:SameAr b c):SameAr a c:=fun o t p ow xs lent hx=>h o t p ow xs lent (g o t p ow xs lent hx)
def isAr:OB→Bool
 | .ar _ _ _ _ _=>true
 | _=>false
theorem SameAr.set (objs:List OB) (p:Nat) {ob:OB} (hob:isAr ob=false):SameAr objs (objs.set p ob):=fun o t q ow xs lent h=>by
 rw[List.getElem?_set] at h;split at h
 ·split at h
  ·cases h;cases hob
  ·cases h
 ·exact h
structure Frz (F:Fr) (prO:Nat) (objs:List OB) (γ:Gh) (w:World) (objs':List OB):Prop where
 o:ORel F objs' γ w
 keep:Keep objs γ w objs' γ w objs.length
 len:objs'.length=objs.length
 same:SameLen objs objs'
 prot:∀o,bitB prO o=true→objs'[o]?=objs[o]?
 mt:∀o,Mut objs' o→objs'[o]?=objs[o]?
 ar:SameAr objs objs'
theorem Frz.refl (r:ORel F objs γ w) (prO:Nat):Frz F prO objs γ w objs:=⟨r,Keep.refl _ _ _,rfl,SameLen.refl _,fun _ _=>rfl,fun _ _=>rfl,SameAr.refl _⟩
theorem Frz.trans {prO:Nat} {a b c:List OB} (h:Frz F prO a γ w b) (g:Frz F prO b γ w c):Frz F prO a γ w c :=
 ⟨g.o,h.keep.trans ⟨g.keep.imm,g.keep.heap,by rw[g.len,h.len];exact Nat.le_refl _,fun _ _=>rfl,Nat.le_refl _,rfl,fun _ _ _ _ h=>h⟩,g.len.trans h.len,h.same.trans g.same (by rw[h.len];exact Nat.le_refl _),fun o ho=>(g.prot o ho).trans (h.prot o ho),
  fun o ho=>(g.mt o ho).trans (h.mt o (by obtain⟨ob,h1,h2⟩:=ho;exact⟨ob,(g.mt o ⟨ob,h1,h2⟩)▸h1,h2⟩)),h.ar.trans g.ar⟩
theorem qsw (r:ORel F objs γ w) {prO o:Nat} (h:qmo prO objs o=some objs'):Frz F prO objs γ w objs'∧∀b,(γ o).2=some b→Imm objs' γ w b:=by
 simp only[qmo,Option.bind_eq_some_iff] at h;obtain⟨ob,ho,h⟩:=h
 cases ob with
 | arr i e xs fz =>
  cases fz with
  | true =>
   simp only[Option.some.injEq] at h;subst h;exact⟨Frz.refl r prO,fun b hb=>r.frz o i e xs b ho hb⟩
  | false =>
   simp only[chk_some,Bool.not_eq_true',Option.some.injEq] at h;obtain⟨hp,rfl⟩:=h;have hlt:=qw ho;have hget:∀o',(objs.set o (.arr i e xs true))[o']?=if o=o' then some (.arr i e xs true) else objs[o']?:=fun o'=>by
    rw[List.getElem?_set];by_cases e1:o=o'
    ·subst e1;simp[hlt]
    ·simp[e1]
   have hmut:∀o',Mut (objs.set o (.arr i e xs true)) o'→Mut objs o'∧o'≠o:=by
    rintro o' ⟨ob,h1,h2⟩
    rw[hget] at h1;split at h1
    ·cases h1;cases h2
    ·rename_i hne;exact⟨⟨ob,h1,h2⟩,fun e=>hne e.symm⟩
   have K:Keep objs γ w (objs.set o (.arr i e xs true)) γ w objs.length:=⟨⟨fun k hk=>⟨hk.1,hk.2,fun o' hm=>hk.3 o' (hmut o' hm).1,hk.4⟩,fun _ _ h=>h⟩,fun _ _=>rfl,by simp,fun _ _=>rfl,Nat.le_refl _,rfl,fun _ _ _ _ h=>h⟩
   have himm:∀b,(γ o).2=some b→Imm (objs.set o (.arr i e xs true)) γ w b:=fun b hb =>
    ⟨r.lt o b hlt hb,r.up b (r.own o b ⟨_,ho,rfl⟩ hb),fun o' hm hb'=>(hmut o' hm).2 (r.inj o' o b (hmut o' hm).1 ⟨_,ho,rfl⟩ hb' hb),r.bo o b ⟨_,ho,rfl⟩ hb⟩
   refine⟨⟨⟨fun o' ob' h1=>?_,fun o1 o2 b h1 h2=>r.inj o1 o2 b (hmut o1 h1).1 (hmut o2 h2).1,fun o1 b h1=>r.own o1 b (hmut o1 h1).1,fun o1 b h1=>r.lt o1 b (by simpa using h1),r.chg,fun o1 i1 e1 x1 b h1 h2=>?_,r.up,r.tab.mono K.imm K.heap,r.bl,fun o1 b h1=>r.bo o1 b (hmut o1 h1).1,fun o1 t1 p1 w1 x1 l1 h1=>(r.ar o1 t1 p1 w1 x1 l1 (by
    rw[hget] at h1;split at h1
    ·cases h1
    ·exact h1)).keep K rfl rfl (fun _=>rfl) fun _ _=>rfl⟩,K,by simp,?_,?_,?_,SameAr.set _ _ rfl⟩,himm⟩
   ·rw[hget] at h1;split at h1
    ·rename_i e1;cases h1;subst e1;exact ObR.keep K (fun _ _=>rfl) (ob := .arr i e xs true) (r.rep o (.arr i e xs false) ho)
    ·exact ObR.keep K (fun _ _=>rfl) (r.rep o' _ h1)
   ·rw[hget] at h1;split at h1
    ·rename_i e2;subst e2;exact himm b h2
    ·exact K.imm _ (r.frz o1 i1 e1 x1 b h1 h2)
   ·intro o1 ti e1 x1 f1 h1 _;rw[hget] at h1;split at h1
    ·rename_i e2;cases h1;subst e2;exact⟨_,_,_,_,ho,rfl⟩
    ·exact⟨_,_,_,_,h1,rfl⟩
   ·intro o' hp';rw[hget,if_neg];intro e1;subst e1;rw[hp] at hp';cases hp'
   ·intro o' hm;rw[hget,if_neg];exact fun e1=>(hmut o' hm).2 e1.symm
 | _=>simp at h
theorem qar {prO:Nat}:∀ {l:List Nat} {objs objs':List OB},ORel F objs γ w→qaA prO objs l=some objs'→Frz F prO objs γ w objs'∧∀o∈l,∀b,(γ o).2=some b→Imm objs' γ w b
 | [],objs,objs',r,h=>by simp only[qaA,Option.some.injEq] at h;subst h;exact⟨Frz.refl r prO,fun o ho=>by cases ho⟩
 | o::l,objs,objs',r,h=>by
  simp only[qaA,Option.bind_eq_some_iff] at h;obtain⟨mid,h1,h2⟩:=h;obtain⟨f1,i1⟩:=qsw r h1;obtain⟨f2,i2⟩:=qar f1.o h2;refine⟨f1.trans f2,fun o' ho b hb=>?_⟩;rcases List.mem_cons.1 ho with rfl | ho
  ·exact f2.keep.imm _ (i1 b hb)
  ·exact i2 o' ho b hb

def upd (γ:Gh) (n:Nat) (gs:List (Value×Option Nat)):Gh:=⟨fun o=>if o<n then γ o else(gs[o-n]?).getD (undef,none),γ.S,γ.m,γ.B,γ.kc⟩
def Gh.arn (γ:Gh) (m:Nat→Option Value) (B:List Nat) (kc:Nat→Nat→Option Value):Gh:=⟨γ.g,γ.S,m,B,kc⟩
theorem qlp {γ:Gh} {n o:Nat} {gs:List (Value×Option Nat)} (h:o<n):upd γ n gs o=γ o:=by simp[upd,h]
theorem qcB {γ:Gh} {n j:Nat} {gs:List (Value×Option Nat)} {g:Value×Option Nat} (h:gs[j]?=some g):upd γ n gs (n+j)=g:=by
 show(if n+j<n then γ (n+j) else(gs[n+j-n]?).getD (undef,none))=g;rw[if_neg (by omega),Nat.add_sub_cancel_left,h];rfl
theorem qki {news:List OB} {o:Nat} (h:Mut (objs++news) o):(o<objs.length∧Mut objs o)∨∃j ob,o=objs.length+j∧news[j]?=some ob:=by
 obtain⟨ob,h1,h2⟩:=h;by_cases hlt:o<objs.length
 ·rw[List.getElem?_append_left hlt] at h1;exact .inl ⟨hlt,ob,h1,h2⟩
 ·rw[List.getElem?_append_right (by omega)] at h1;exact .inr ⟨o-objs.length,ob,by omega,h1⟩
theorem qkh {objs objs0:List OB} {news:List OB} {gs:List (Value×Option Nat)} {M:List Nat} {m:Nat→Option Value} {B:List Nat} {kc:Nat→Nat→Option Value} (r:ORel F objs γ w) (K0:Keep objs γ w objs0 (γ.arn m B kc) w' objs.length) (hlen0:objs0.length=objs.length) (hchg:Chg F.M F.w0 w')
  (hgs:gs.length=news.length) (hM:M=gs.flatMap fun g=>g.2.toList) (hnd:M.Nodup)
  (hold:∀o ob,objs0[o]?=some ob→ObR objs γ w ob (γ o)∧(∀b,(γ o).2=some b→w'.heap[b]?=w.heap[b]?)∨ob = .dead∨(Keep objs γ w (objs0++news) (upd (γ.arn m B kc) objs.length gs) w' objs.length→ObR (objs0++news) (upd (γ.arn m B kc) objs.length gs) w' ob (γ o)))
  (hmut:∀o,Mut objs0 o→Mut objs o)
  (hfrz:∀(o:Nat) (i:TypeId) (e:Ty) (xs:List (D e)),objs0[o]?=some (.arr i e xs true)→objs[o]?=some (.arr i e xs true))
  (hfresh:∀b∈M,b<w'.heap.size∧(F.w0.heap.size≤b∨b∈F.M)∧(∀o,Mut objs0 o→(γ o).2≠some b)∧¬Imm objs γ w b)
  (hnew:Keep objs γ w (objs0++news) (upd (γ.arn m B kc) objs.length gs) w' objs.length→∀(j:Nat) ob g,news[j]?=some ob→gs[j]?=some g→ObR (objs0++news) (upd (γ.arn m B kc) objs.length gs) w' ob g∧(mutOb ob=true∨isAr ob=true))
  (hbl:∀k∈B,k<w'.heap.size∧(F.w0.heap.size≤k∨k∈F.M)) (hbo:∀o b,Mut objs0 o→(γ o).2=some b→b∉B) (hbM:∀b∈M,b∉B)
  (har:Keep objs γ w (objs0++news) (upd (γ.arn m B kc) objs.length gs) w' objs.length→∀o t p ow xs lent,(objs0++news)[o]?=some (.ar t p ow xs lent)→ArO (objs0++news) (upd (γ.arn m B kc) objs.length gs) w' o t p ow xs lent) :
  ORel F (objs0++news) (upd (γ.arn m B kc) objs.length gs) w'∧Keep objs γ w (objs0++news) (upd (γ.arn m B kc) objs.length gs) w' objs.length:=by
 have hmem:∀(j:Nat) g b,gs[j]?=some g→g.2=some b→b∈M:=fun j g b hj hb=>by
  rw[hM];exact List.mem_flatMap.2 ⟨g,List.mem_of_getElem? hj,by simp[hb]⟩
 have hgj:∀(j:Nat) ob,news[j]?=some ob→∃g,gs[j]?=some g:=fun j ob hj=>⟨_,List.getElem?_eq_getElem (by rw[hgs];exact qw hj)⟩;have hmut':∀o,Mut (objs0++news) o→(o<objs.length∧Mut objs0 o∧upd (γ.arn m B kc) objs.length gs o=γ o)∨∃j g,o=objs.length+j∧gs[j]?=some g∧upd (γ.arn m B kc) objs.length gs o=g:=fun o hm=>by
  rcases qki hm with ⟨h1,h2⟩ | ⟨j,ob,rfl,h1⟩
  ·rw[hlen0] at h1;exact .inl ⟨h1,h2,qlp h1⟩
  ·obtain⟨g,hg⟩:=hgj j ob h1;rw[hlen0];exact .inr ⟨j,g,rfl,hg,qcB hg⟩
 have K:Keep objs γ w (objs0++news) (upd (γ.arn m B kc) objs.length gs) w' objs.length:=by
  refine⟨⟨fun k hk=>⟨(K0.imm k hk).1,hk.2,fun o hm hb=>?_,(K0.imm k hk).4⟩,K0.imm.m⟩,K0.heap,by simp[hlen0],fun o ho=>qlp ho,K0.size,rfl,K0.kc⟩;rcases hmut' o hm with ⟨h1,h2,h3⟩ | ⟨j,g,rfl,hg,h3⟩
  ·rw[h3] at hb;exact(K0.imm k hk).3 o h2 hb
  ·rw[h3] at hb;exact(hfresh k (hmem j g k hg hb)).2.2.2 hk
 refine⟨⟨fun o ob ho=>?_,fun o o' b h1 h2 hb hb'=>?_,fun o b hm hb=>?_,fun o b ho hb=>?_,hchg,fun o i e xs b ho hb=>?_,r.up,r.tab.mono K.imm K.heap,hbl,fun o b hm hb=>?_,fun o t p ow xs lent ho=>?_⟩,K⟩
 ·by_cases hlt:o<objs.length
  ·rw[List.getElem?_append_left (by omega)] at ho;rw[qlp hlt];rcases hold o ob ho with ⟨h1,h2⟩ | h1 | h1
   ·exact ObR.keep K h2 h1
   ·subst h1;trivial
   ·exact h1 K
  ·rw[List.getElem?_append_right (by omega)] at ho;obtain⟨g,hg⟩:=hgj _ ob ho;have:=(hnew K _ ob g ho hg).1;have e1:upd (γ.arn m B kc) objs.length gs o=g:=by
    have:=qcB (γ:=γ.arn m B kc) (n:=objs.length) hg
    rwa [show objs.length+(o-objs0.length)=o by omega] at this
   rw[e1];exact this
 ·rcases hmut' o h1 with ⟨l1,m1,e1⟩ | ⟨j1,g1,rfl,hg1,e1⟩<;>rcases hmut' o' h2 with ⟨l2,m2,e2⟩ | ⟨j2,g2,rfl,hg2,e2⟩
  ·rw[e1] at hb;rw[e2] at hb';exact r.inj o o' b (hmut o m1) (hmut o' m2) hb hb'
  ·rw[e1] at hb;rw[e2] at hb';exact absurd hb ((hfresh b (hmem j2 g2 b hg2 hb')).2.2.1 o m1)
  ·rw[e1] at hb;rw[e2] at hb';exact absurd hb' ((hfresh b (hmem j1 g1 b hg1 hb)).2.2.1 o' m2)
  ·rw[e1] at hb;rw[e2] at hb';have:∀(l:List (Value×Option Nat)) (j1 j2:Nat),(l.flatMap fun g=>g.2.toList).Nodup→l[j1]?=some g1→l[j2]?=some g2→j1=j2:=by
    intro l
    induction l with
    | nil=>intro j1 j2 _ h;simp at h
    | cons g l ih =>
     intro j1 j2 hn h1 h2;simp only[List.flatMap_cons,List.nodup_append] at hn
     cases j1 with
     | zero =>
      cases j2 with
      | zero=>rfl
      | succ j2 =>
       simp at h1 h2;exact absurd rfl (hn.2.2 b (by rw[h1,hb];simp) b (List.mem_flatMap.2 ⟨g2,List.mem_of_getElem? h2,by simp[hb']⟩))
     | succ j1 =>
      cases j2 with
      | zero =>
       simp at h1 h2;exact absurd rfl (hn.2.2 b (by rw[h2,hb'];simp) b (List.mem_flatMap.2 ⟨g1,List.mem_of_getElem? h1,by simp[hb]⟩))
      | succ j2=>exact congrArg _ (ih j1 j2 hn.2.1 (by simpa using h1) (by simpa using h2))
   rw[this gs j1 j2 (hM▸hnd) hg1 hg2]
 ·rcases hmut' o hm with ⟨l1,m1,e1⟩ | ⟨j1,g1,rfl,hg1,e1⟩
  ·rw[e1] at hb;exact r.own o b (hmut o m1) hb
  ·rw[e1] at hb;exact(hfresh b (hmem j1 g1 b hg1 hb)).2.1
 ·by_cases hlt:o<objs.length
  ·rw[qlp hlt] at hb;exact Nat.lt_of_lt_of_le (r.lt o b hlt hb) K0.size
  ·have hj:o-objs.length<gs.length:=by rw[List.length_append] at ho;omega
   have e1:=qcB (γ:=γ.arn m B kc) (n:=objs.length) (List.getElem?_eq_getElem hj);rw[show objs.length+(o-objs.length)=o by omega] at e1;rw[e1] at hb;exact(hfresh b (hmem _ _ b (List.getElem?_eq_getElem hj) hb)).1
 ·by_cases hlt:o<objs.length
  ·rw[List.getElem?_append_left (by omega)] at ho;rw[qlp hlt] at hb;exact K.imm _ (r.frz o i e xs b (hfrz o i e xs ho) hb)
  ·rw[List.getElem?_append_right (by omega)] at ho;obtain⟨g,hg⟩:=hgj _ _ ho
   rcases(hnew K _ _ g ho hg).2 with h | h<;>cases h
 ·rcases hmut' o hm with ⟨l1,m1,e1⟩ | ⟨j1,g1,rfl,hg1,e1⟩
  ·rw[e1] at hb;exact hbo o b m1 hb
  ·rw[e1] at hb;exact hbM b (hmem j1 g1 b hg1 hb)
 ·exact har K o t p ow xs lent ho
theorem qow {objs objs0:List OB} {news:List OB} {gs:List (Value×Option Nat)} {M:List Nat} (r:ORel F objs γ w) (K0:Keep objs γ w objs0 γ w' objs.length) (hlen0:objs0.length=objs.length) (hchg:Chg F.M F.w0 w')
  (hgs:gs.length=news.length) (hM:M=gs.flatMap fun g=>g.2.toList) (hnd:M.Nodup)
  (hold:∀o ob,objs0[o]?=some ob→ObR objs γ w ob (γ o)∧(∀b,(γ o).2=some b→w'.heap[b]?=w.heap[b]?)∨ob = .dead∨(Keep objs γ w (objs0++news) (upd γ objs.length gs) w' objs.length→ObR (objs0++news) (upd γ objs.length gs) w' ob (γ o)))
  (hmut:∀o,Mut objs0 o→Mut objs o)
  (hfrz:∀(o:Nat) (i:TypeId) (e:Ty) (xs:List (D e)),objs0[o]?=some (.arr i e xs true)→objs[o]?=some (.arr i e xs true))
  (hfresh:∀b∈M,b<w'.heap.size∧(F.w0.heap.size≤b∨b∈F.M)∧(∀o,Mut objs0 o→(γ o).2≠some b)∧¬Imm objs γ w b)
  (hnew:Keep objs γ w (objs0++news) (upd γ objs.length gs) w' objs.length→∀(j:Nat) ob g,news[j]?=some ob→gs[j]?=some g→ObR (objs0++news) (upd γ objs.length gs) w' ob g∧mutOb ob=true)
  (hbM:∀b∈M,b∉γ.B) (hwB:∀k∈γ.B,w'.heap[k]?=w.heap[k]?) (har:SameAr objs objs0) :
  ORel F (objs0++news) (upd γ objs.length gs) w'∧Keep objs γ w (objs0++news) (upd γ objs.length gs) w' objs.length :=
 qkh (m:=γ.m) (B:=γ.B) (kc:=γ.kc) r K0 hlen0 hchg hgs hM hnd hold hmut hfrz hfresh (fun K j ob g h1 h2=>⟨(hnew K j ob g h1 h2).1,.inl (hnew K j ob g h1 h2).2⟩) (fun k hk=>⟨Nat.lt_of_lt_of_le (r.bl k hk).1 K0.size,(r.bl k hk).2⟩) (fun o b hm=>r.bo o b (hmut o hm)) hbM
  fun K o t p ow xs lent ho=>by
   by_cases hlt:o<objs0.length
   ·rw[List.getElem?_append_left hlt] at ho;exact(r.ar o t p ow xs lent (har o t p ow xs lent ho)).keep K rfl rfl (fun _=>rfl) hwB
   ·rw[List.getElem?_append_right (by omega)] at ho;have:=(hnew K _ _ _ ho (List.getElem?_eq_getElem (by rw[hgs];exact qw ho))).2;cases this
theorem qry {objs objs0:List OB} {news:List OB} {gs:List (Value×Option Nat)} {M:List Nat} (r:ORel F objs γ w) (K0:Keep objs γ w objs0 γ w' objs.length) (hlen0:objs0.length=objs.length) (hchg:Chg F.M F.w0 w')
  (hgs:gs.length=news.length) (hM:M=gs.flatMap fun g=>g.2.toList) (hnd:M.Nodup)
  (hold:∀o ob,objs0[o]?=some ob→ObR objs γ w ob (γ o)∧(∀b,(γ o).2=some b→w'.heap[b]?=w.heap[b]?)∨ob = .dead)
  (hmut:∀o,Mut objs0 o→Mut objs o)
  (hfrz:∀(o:Nat) (i:TypeId) (e:Ty) (xs:List (D e)),objs0[o]?=some (.arr i e xs true)→objs[o]?=some (.arr i e xs true))
  (hfresh:∀b∈M,b<w'.heap.size∧(F.w0.heap.size≤b∨b∈F.M)∧(∀o,Mut objs0 o→(γ o).2≠some b)∧¬Imm objs γ w b)
  (hnew:Keep objs γ w (objs0++news) (upd γ objs.length gs) w' objs.length→∀(j:Nat) ob g,news[j]?=some ob→gs[j]?=some g→ObR (objs0++news) (upd γ objs.length gs) w' ob g∧mutOb ob=true)
  (hbM:∀b∈M,b∉γ.B) (hwB:∀k∈γ.B,w'.heap[k]?=w.heap[k]?) (har:SameAr objs objs0) :
  ORel F (objs0++news) (upd γ objs.length gs) w'∧Keep objs γ w (objs0++news) (upd γ objs.length gs) w' objs.length :=
 qow r K0 hlen0 hchg hgs hM hnd (fun o ob ho=>(hold o ob ho).imp_right .inl) hmut hfrz hfresh hnew hbM hwB har
end
end Go.Den
