/- The operations that make or write memory, continued: append, parts of rows, calls. No condition of its own. -/
import Derived.Test.YtkkoolcdonhoaaaGreatDoorMAC
import Derived.LaidEqlPtr
namespace Go.Den
open Go.Eng
set_option linter.unusedVariables false
set_option linter.unusedSectionVars false
set_option linter.unusedSimpArgs false
variable [CT : Ctx]

section
variable {P : Program} {env : Env} {F : Fr} {σ : AState} {γ : Gh} {a : Act} {w : World} {o : Oper} {α : Type} {k : AState → Option α} {res : α} {Q : Exit → Act → World → Prop}

theorem qms (w:World) (t ty e:TypeId) (i:TypeInfo) (ht:P.underlying t=some (.slice e)) (hi:P.info? e=some i) (g sLen sCap:Nat) (cur:Array Value) (hg:Row w g cur e)
    (a:Addr) (m c:Nat) (news:List Value) (hl:news.length=m*i.size) (hnews:∀j u,news[j]?=some u→w.cell? (a.add j)=some u) (h1:∀u∈news,u.oneCell'=true) (hroom:sLen+m≤sCap) (hfit:sLen*i.size+news.length≤cur.size) :
    (Builtin.append_ #[t,t] ty #[.slice (some ⟨g,0,none⟩) sLen sCap,.slice (some a) m c]).run P w =
      .ok (.slice (some ⟨g,0,none⟩) (sLen+m) sCap) (w.setRow g (cur.toList.take (sLen*i.size)++news++cur.toList.drop (sLen*i.size+news.length)).toArray):=by
  have:=run_append_room_cells (P:=P) w t ty e i ht hi g 0 sLen sCap a m c news hl hnews h1 hroom (fun j hj=>by rw[hg.cell];simp;omega) (fun j hj=>hg.fro (by omega));rw[Nat.zero_add] at this;rw[this];obtain⟨fz,hg,_⟩:=hg;rw[qeM news (sLen*i.size) cur w hg hfit]
theorem qht {S:Sp} {t ty i:TypeId} {inf:TypeInfo} {z:Value} {τ:Ty} (hu:P.underlying t=some (.slice i)) (hi:P.info? i=some inf) (hz:inf.zero=some z) (hsz:inf.size=τ.size) (hzs:z.cells.size=τ.size)
    {v0:Value} {M0:List Nat} {n:Nat} {us:List Value} (hown:OwnR w i τ.size v0 M0 n us) (hus:us.length=n*τ.size) {ao:Option Addr} {cap:Nat} {news:List Value} {ys:List (D τ)} (hrep:RepL (fun x c=>Rep w S τ x [] c) ys news) (hne:ys≠[]→∃ad,ao=some ad∧CellsAt w ad news) (hroom:(n+ys.length)*inf.bytes≤140737488355328) (h47:n+ys.length≤140737488355328) :
    ∃v' w' M',(Builtin.append_ #[t,t] ty #[v0,.slice ao ys.length cap]).run P w = .ok v' w'∧OwnR w' i τ.size v' M' (n+ys.length) (us++news)∧Chg M0 w w'∧(M'=M0∨M'=[w.heap.size]∧w.heap.size<w'.heap.size):=by
  have hnl:=hrep.length (Rep.slen τ)
  have hgrown:∀(base:Option Addr) (old:Nat),old<n+ys.length→(Builtin.firstCells inf.size n (.slice base n old)).run P w.drew = .ok us.toArray w.drew→ys≠[]→∃w',(Builtin.append_ #[t,t] ty #[.slice base n old,.slice ao ys.length cap]).run P w = .ok (.slice (some ⟨w.heap.size,0,none⟩) (n+ys.length) (grownCap w (n+ys.length) old i)) w' ∧
      OwnR w' i τ.size (.slice (some ⟨w.heap.size,0,none⟩) (n+ys.length) (grownCap w (n+ys.length) old i)) [w.heap.size] (n+ys.length) (us++news)∧Chg [] w w'∧w.heap.size<w'.heap.size:=by
    intro base old hold hfirst hys;obtain⟨ad,rfl,hcell⟩:=hne hys;have hS:Src P inf.size t (.slice (some ad) ys.length cap) ys.length news w:=by
      have h1:∀u∈news,u.oneCell'=true:=RepL.all (fun x c hx=>Rep.one τ hx) hrep;exact Src.ofSlice (P:=P) (size:=inf.size) w hu ad ys.length cap news (by rw[hnl,hsz]) hcell h1
    have hr:=run_append_grow_src (P:=P) w t t ty i inf z hu hi hz base n old us hfirst _ ys.length news hS hold (by omega) (growslice_fits hold hroom);refine⟨_,hr,.inr ⟨w.heap.size,_,_,rfl,rfl,Row.of (heap_alloc_new w.drew _),grownCap_ge w _ _ _,grownCap_le_maxLen w _ _ _ (by unfold maxLen;omega),?_,?_⟩,?_,?_⟩
    · have hge:=grownCap_ge w (n+ys.length) old i;simp only[Array.size_append,List.size_toArray,size_zeroCells,hzs,List.length_append,hus,hnl,←Nat.add_mul];congr 1;omega
    · have hl:(us++news).length=(n+ys.length)*τ.size:=by rw[List.length_append,hus,hnl,Nat.add_mul]
      rw[Array.toList_append,←hl];exact List.take_left
    · have:=qb4 w.drew (.cells ((us++news).toArray++Builtin.zeroCells z.cells (grownCap w (n+ys.length) old i-(n+ys.length))) i);exact⟨this.os,this.tape,this.output,this.size,this.block,fun e=>Nat.le_trans (Nat.le_succ _) (this.drawn e)⟩
    · have:=qbu w.drew (.cells ((us++news).toArray++Builtin.zeroCells z.cells (grownCap w (n+ys.length) old i-(n+ys.length))) i);rw[this];show w.heap.size<w.heap.size+1;omega
  have hnil:∀(base:Option Addr) (old:Nat),n≤old→ys=[]→(Builtin.append_ #[t,t] ty #[.slice base n old,.slice ao ys.length cap]).run P w = .ok (.slice base n old) w:=by
    intro base old hno hys;subst hys;have hf:(Builtin.firstCells inf.size 0 (.slice ao 0 cap)).run P w = .ok #[] w:=by
      cases ao<;>simp[Builtin.firstCells,loadCells,loadCellsFrom]
    cases base with
    | none=>simp[Builtin.append_,run_underlying hu,sizeOf,typeInfo,hi,Builtin.lenOf,hno,hf]
    | some ad=>simp[Builtin.append_,run_underlying hu,sizeOf,typeInfo,hi,Builtin.lenOf,hno,hf,storeCells]
  by_cases hys:ys=[]
  · have hnews:news=[]:=by
      subst hys;exact hrep
    subst hnews
    have hlen:ys.length=0:=by rw[hys];rfl
    have e2:n+ys.length=n:=by omega
    rcases hown with ⟨hM,⟨ao0,rfl⟩,hn0,hu0⟩ | ⟨b,cap0,cur,hM,rfl,hh,h4,h5,h6,h7⟩
    · subst hn0;refine⟨_,w,M0,hnil ao0 0 (Nat.le_refl _) hys,.inl ⟨hM,⟨ao0,rfl⟩,by omega,by simp[hu0]⟩,Chg.refl _ _,.inl rfl⟩
    · refine⟨_,w,M0,hnil _ _ h4 hys,.inr ⟨b,cap0,cur,hM,?_,hh,?_,h5,h6,?_⟩,Chg.refl _ _,.inl rfl⟩
      · rw[e2]
      · omega
      · rw[e2,h7];simp
  · have hpos:0<ys.length:=List.length_pos_iff.2 hys;rcases hown with ⟨hM,⟨ao0,rfl⟩,hn0,hu0⟩ | ⟨b,cap0,cur,hM,rfl,hh,h4,h5,h6,h7⟩
    · subst hn0;subst hu0;have hf:(Builtin.firstCells inf.size 0 (.slice ao0 0 0)).run P w.drew = .ok #[] w.drew:=by
        cases ao0<;>simp[Builtin.firstCells,loadCells,loadCellsFrom]
      obtain⟨w',g1,g2,g3,g4⟩:=hgrown ao0 0 (by omega) hf hys;exact⟨_,w',_,g1,g2,by rw[hM];exact g3,.inr ⟨rfl,g4⟩⟩
    · by_cases hroom2:n+ys.length≤cap0
      · obtain⟨ad,rfl,hcell⟩:=hne hys;have h1:∀u∈news,u.oneCell'=true:=RepL.all (fun x c hx=>Rep.one τ hx) hrep
        have hfit:n*τ.size+news.length≤cur.size:=by rw[hnl,h6,←Nat.add_mul];exact Nat.mul_le_mul_right _ hroom2
        have hr:=qms (P:=P) w t ty i inf hu hi b n cap0 cur hh ad ys.length cap news (by rw[hnl,hsz]) hcell h1 hroom2 (by rw[hsz];exact hfit);rw[hsz] at hr;refine⟨_,_,M0,hr,.inr ⟨b,cap0,_,hM,rfl,hh.set _ (by simp only[List.size_toArray,List.length_append,List.length_take,List.length_drop,Array.length_toList];omega),hroom2,h5,?_,?_⟩,by rw[hM];exact qfg,.inl rfl⟩
        · simp only[List.size_toArray,List.length_append,List.length_take,List.length_drop,Array.length_toList];omega
        · rw[h7]
          have hl:(us++news).length=(n+ys.length)*τ.size:=by rw[List.length_append,hus,hnl,Nat.add_mul]
          rw[←hl];exact List.take_left
      · have hf:(Builtin.firstCells inf.size n (.slice (some ⟨b,0,none⟩) n cap0)).run P w.drew = .ok us.toArray w.drew:=by
          have hcell:CellsAt w ⟨b,0,none⟩ us:=by
            have:=CellsAt.take (hh.blk 0) (n*τ.size);rw[List.drop_zero,h7] at this;exact this
          exact run_firstCells_some w.drew inf.size n ⟨b,0,none⟩ n cap0 us (by rw[hus,hsz]) (fun j v hv=>by simpa using hcell j v hv)
        obtain⟨w',g1,g2,g3,g4⟩:=hgrown (some ⟨b,0,none⟩) cap0 (by omega) hf hys;exact⟨_,w',_,g1,g2,g3.mono (by simp),.inr ⟨rfl,g4⟩⟩

inductive Cons (objs:List OB) (γ:Gh) (prO:Nat):List OB→List Nat→Prop
  | no:Cons objs γ prO objs []
  | yes (p:Nat) (ob:OB) (h:objs[p]?=some ob) (hm:mutOb ob=true) (hp:bitB prO p=false):Cons objs γ prO (objs.set p .dead) (γ p).2.toList
theorem qj0 {objs objs0:List OB} {M0 M':List Nat} {prO:Nat} {w':World} {nob:OB} {v':Value} (r:ORel F objs γ w) (hcons:Cons objs γ prO objs0 M0) (hc:Chg M0 w w')
    (hM:M'=M0∨M'=[w.heap.size]∧w.heap.size<w'.heap.size) (hM1:M'=(M'.head?).toList) (hmn:mutOb nob=true) (hnob:Keep objs γ w (objs0++[nob]) (upd γ objs.length [(v',M'.head?)]) w' objs.length→ObR (objs0++[nob]) (upd γ objs.length [(v',M'.head?)]) w' nob (v',M'.head?)) :
    ORel F (objs0++[nob]) (upd γ objs.length [(v',M'.head?)]) w'∧Keep objs γ w (objs0++[nob]) (upd γ objs.length [(v',M'.head?)]) w' objs.length:=by
  have hlen:objs0.length=objs.length:=by cases hcons<;>simp
  have hmut:∀o,Mut objs0 o→Mut objs o∧∀b∈M0,(γ o).2≠some b:=by
    cases hcons with
    | no=>exact fun o h=>⟨h,fun b hb=>by cases hb⟩
    | yes p ob0 hp hmb hpr =>
      rintro o ⟨ob,h1,h2⟩
      by_cases e1:p=o
      · subst e1;rw[List.getElem?_set_self (qz hp)] at h1;cases h1;cases h2
      · rw[qA e1] at h1;exact⟨⟨ob,h1,h2⟩,fun b hb hb'=>e1 (r.inj p o b ⟨_,hp,hmb⟩ ⟨ob,h1,h2⟩ (by simpa using hb) hb')⟩
  have hM0:∀b∈M0,(F.w0.heap.size≤b∨b∈F.M)∧b<w.heap.size∧¬Imm objs γ w b:=by
    cases hcons with
    | no=>intro b hb;cases hb
    | yes p ob0 hp hmb hpr =>
      intro b hb
      have hb:(γ p).2=some b:=by simpa using hb
      exact⟨r.own p b ⟨_,hp,hmb⟩ hb,r.lt p b (qz hp) hb,fun hi=>hi.own p ⟨_,hp,hmb⟩ hb⟩
  have hold:∀o ob,objs0[o]?=some ob→objs[o]?=some ob∧(∀b,(γ o).2=some b→ob ≠ .dead→b∉M0)∨ob = .dead:=by
    cases hcons with
    | no=>exact fun o ob h => .inl ⟨h,fun b hb _ hm=>by cases hm⟩
    | yes p ob0 hp hmb hpr =>
      intro o ob h;by_cases e1:p=o
      · subst e1;rw[List.getElem?_set_self (qz hp)] at h;cases h;exact .inr rfl
      · rw[qA e1] at h;refine .inl ⟨h,fun b hb hnd hm=>?_⟩
        have hm:(γ p).2=some b:=by simpa using hm
        cases ob with
        | dead=>exact hnd rfl
        | bld _ _=>exact e1 (r.inj p o b ⟨_,hp,hmb⟩ ⟨_,h,rfl⟩ hm hb)
        | ar _ _ _ _ _ =>
          have h0:(γ o).2=none:=r.rep o _ h;rw[h0] at hb;cases hb
        | mbr _ _ _=>exact e1 (r.inj p o b ⟨_,hp,hmb⟩ ⟨_,h,rfl⟩ hm hb)
        | hr _ _ _ _ _ _=>exact e1 (r.inj p o b ⟨_,hp,hmb⟩ ⟨_,h,rfl⟩ hm hb)
        | nilr=>exact e1 (r.inj p o b ⟨_,hp,hmb⟩ ⟨_,h,rfl⟩ hm hb)
        | mp _ _ _=>exact e1 (r.inj p o b ⟨_,hp,hmb⟩ ⟨_,h,rfl⟩ hm hb)
        | box l=>exact e1 (r.inj p o b ⟨_,hp,hmb⟩ ⟨_,h,rfl⟩ hm hb)
        | fbx l =>
          obtain⟨b2,_,_,e2,_,_,hi⟩:=r.rep o _ h;rw[e2] at hb
          obtain rfl:b2=b:=by simpa using hb
          exact hi.own p ⟨_,hp,hmb⟩ hm
        | arr i2 e2 xs2 fz =>
          cases fz with
          | false=>exact e1 (r.inj p o b ⟨_,hp,hmb⟩ ⟨_,h,rfl⟩ hm hb)
          | true=>exact(r.frz o i2 e2 xs2 b h hb).own p ⟨_,hp,hmb⟩ hm
  have K0:Keep objs γ w objs0 γ w' objs.length:=⟨⟨fun k hk=>⟨Nat.lt_of_lt_of_le hk.lt hc.size,hk.s,fun o hm=>hk.own o (hmut o hm).1,hk.nb⟩,fun _ _ h=>h⟩,fun k hk=>hc.block k hk.lt (fun hm=>(hM0 k hm).2.2 hk),by omega,fun _ _=>rfl,hc.size,rfl,fun _ _ _ _ h=>h⟩;have hM0B:∀b∈M0,b∉γ.B:=by
    cases hcons with
    | no=>intro b hb;cases hb
    | yes p ob0 hp hmb hpr =>
      intro b hb;exact r.bo p b ⟨_,hp,hmb⟩ (by simpa using hb)
  have har:SameAr objs objs0:=by
    cases hcons with
    | no=>exact SameAr.refl _
    | yes p ob0 hp hmb hpr=>exact SameAr.set _ _ rfl
  have hchg:Chg F.M F.w0 w':=by
    have h0:=r.chg;refine⟨hc.os.trans h0.os,hc.tape.trans h0.tape,hc.output.trans h0.output,Nat.le_trans h0.size hc.size,fun k hk hn=>(hc.block k (Nat.lt_of_lt_of_le hk h0.size) fun hm=>?_).trans (h0.block k hk hn),fun e=>Nat.le_trans (h0.drawn e) (hc.drawn e)⟩;rcases(hM0 k hm).1 with h1 | h1
    · omega
    · exact hn h1
  refine qpr (M:=M') (gs:=[(v',M'.head?)]) r K0 hlen hchg rfl (by simp;exact hM1) ?_ (fun o ob ho=>?_) (fun o h=>(hmut o h).1) (fun o i2 e2 xs2 ho=>?_) (fun b hb=>?_) (fun K j ob g hj hg=>?_) (fun b hb hB=>?_) (fun k hk=>hc.block k (r.bl k hk).1 fun hm=>hM0B k hm hk) har
  · rw[hM1];cases M'.head?<;>simp
  · rcases hold o ob ho with ⟨h1,h2⟩ | h1
    · by_cases hd:ob = .dead
      · exact .inr hd
      · exact .inl ⟨r.rep o ob h1,fun b hb=>hc.block b (r.lt o b (qz h1) hb) (h2 b hb hd)⟩
    · exact .inr h1
  · rcases hold o _ ho with ⟨h1,_⟩ | h1
    · exact h1
    · cases h1
  · rcases hM with h | ⟨h,hlt⟩
    · rw[h] at hb;exact⟨Nat.lt_of_lt_of_le (hM0 b hb).2.1 hc.size,(hM0 b hb).1,fun o hm=>(hmut o hm).2 b hb,(hM0 b hb).2.2⟩
    · rw[h] at hb;simp at hb;subst hb;exact⟨hlt,.inl r.chg.size,fun o hm hb'=>Nat.lt_irrefl _ (r.lt o _ (hmut o hm).1.lt hb'),fun hi=>Nat.lt_irrefl _ hi.lt⟩
  · obtain⟨rfl,rfl⟩:=qcT hj;obtain⟨_,rfl⟩:=qcT hg;exact⟨hnob K,hmn⟩
  · rcases hM with h | ⟨h,hlt⟩
    · rw[h] at hb;exact hM0B b hb hB
    · rw[h] at hb;simp at hb;subst hb;exact Nat.lt_irrefl _ (r.bl _ hB).1
theorem ql8 {objs objs0:List OB} {M0 M':List Nat} {prO:Nat} {w':World} {i:TypeId} {τ:Ty} {zs:List (D τ)} {us:List Value} {v':Value} (r:ORel F objs γ w) (hcons:Cons objs γ prO objs0 M0) (hc:Chg M0 w w')
    (hM:M'=M0∨M'=[w.heap.size]∧w.heap.size<w'.heap.size) (hown:OwnR w' i τ.size v' M' zs.length us) (hrep:RepL (fun x c=>Rep w (Imm objs γ w) τ x [] c) zs us) :
    ORel F (objs0++[.arr i τ zs false]) (upd γ objs.length [(v',M'.head?)]) w'∧Keep objs γ w (objs0++[.arr i τ zs false]) (upd γ objs.length [(v',M'.head?)]) w' objs.length:=by
  have hM1:M'=(M'.head?).toList:=by
    rcases hown with ⟨h,_⟩ | ⟨b,_,_,h,_⟩<;>rw[h]<;>rfl
  exact qj0 r hcons hc hM hM1 rfl fun K=>⟨us,by rw[←hM1];exact hown,RepL.keep K hrep⟩
theorem qeW {objs objs0:List OB} {M0:List Nat} {prO:Nat} (h:Cons objs γ prO objs0 M0) {news:List OB}:SameLen objs (objs0++news):=by
  cases h with
  | no=>exact qaW
  | yes p ob0 hp hmb hpr =>
    intro o ti e' xs' fz hx hlt;rw[List.getElem?_append_left (by simpa using hlt)] at hx;by_cases e1:p=o
    · subst e1;rw[List.getElem?_set_self hlt] at hx;cases hx
    · rw[qA e1] at hx;exact⟨_,_,_,_,hx,rfl⟩
theorem qiT {objs objs0:List OB} {M0:List Nat} {prO:Nat} (h:Cons objs γ prO objs0 M0) {news:List OB}:∀o,o<objs.length→bitB prO o=true→(objs0++news)[o]?=objs[o]?:=by
  cases h with
  | no=>intro o ho _;rw[List.getElem?_append_left ho]
  | yes p ob0 hp hmb hpr =>
    intro o ho hb;rw[List.getElem?_append_left (by simpa using ho),qA (fun e1=>by subst e1;rw[hpr] at hb;cases hb)]
theorem qjM {objs0:List OB} {M0 M':List Nat} {w':World} {i:TypeId} {τ:Ty} {zs:List (D τ)} {us:List Value} {v':Value} {σ':AState} (r:Rel F σ γ a w) (hcons:Cons σ.objs γ σ.prO objs0 M0) (hc:Chg M0 w w')
    (hM:M'=M0∨M'=[w.heap.size]∧w.heap.size<w'.heap.size) (hown:OwnR w' i τ.size v' M' zs.length us) (hrep:RepL (fun x c=>Rep w (Imm σ.objs γ w) τ x [] c) zs us)
    (hrun:(execOp a.eval o).run P w = .ok (.value v') w') (hput:AState.new { σ with objs:=objs0 } o.dst (.arr i τ zs false) (.c (.os objs0.length))=some σ') (hk:k σ'=some res):EfR P F σ γ a w o k res Q:=by
  obtain⟨ho,K⟩:=ql8 r.o hcons hc hM hown hrep
  have hlen:objs0.length=σ.objs.length:=by cases hcons<;>simp
  obtain⟨h1,h2⟩:=qbm r K ho (qeW hcons) (qiT hcons) hput (v:=v')
    ⟨by simp,by
      have:=qbt (γ:=γ) (n:=σ.objs.length) (j:=0) (gs:=[(v',M'.head?)]) rfl;rw[Nat.add_zero] at this
      rw[hlen,this],by
      rcases hown with ⟨_,⟨ao,rfl⟩,_⟩ | ⟨b,cap,cur,_,rfl,_⟩
      · exact⟨_,_,_,rfl⟩
      · exact⟨_,_,_,rfl⟩⟩
  exact EfR.val hrun hk h1 h2
theorem qdk (s:ByteArray):(qbP s).length=s.size:=by
  rw[qbP,List.length_map,Array.length_toList];rfl
theorem qkc {w:World} {S:Sp}:∀l:List UInt8,RepL (fun (x:D (.int .u8)) c=>Rep w S (.int .u8) x [] c) (l.map fun c=>(c.toNat:Int)) (l.map fun c=>Value.int .u8 (c.toNat:Int))
  | []=>rfl
  | c::l=>⟨[.int .u8 (c.toNat:Int)],_,rfl,⟨rfl,rfl⟩,qkc l⟩
theorem qe0 {α:Type} {b:Bool} {x y:Option α} {res:α} (h:(bif b then x else y)=some res):(b=true∧x=some res)∨(b=false∧y=some res):=by
  cases b
  · exact .inr ⟨rfl,h⟩
  · exact .inl ⟨rfl,h⟩
theorem ef_bytesD (r:Rel F σ γ a w) {s d:TypeId} {x:Operand} (ho:o.op = .convert s d x) (h:bytesD P σ o s d x k=some res):EfA P F σ γ a w o k res Q:=by
  simp only[bytesD,Option.bind_eq_some_iff,chk_some,req_some,Bool.and_eq_true,qdL,strTy] at h;obtain⟨⟨hs,hd⟩,pv,h1,b,h2,hsz,σ',h3,h4⟩:=h;have hsz:=Nat.le_of_ble_eq_true hsz;have e1:a.eval x = .string b:=qrG r (qj σ) h1 h2;have hs:P.underlying s=some .string:=by
    split at hs
    · assumption
    · cases hs
  obtain⟨i,hu,he⟩:∃i,P.underlying d=some (.slice i)∧P.underlying i=some (.int .u8):=by
    split at hd
    · rename_i i hu;refine⟨i,hu,?_⟩;split at hd
      · assumption
      · cases hd
    · cases hd
  have hrun:=run_bytes_of_string (P:=P) w s d i b hs hu he;have hge:=grownCap_ge w b.size 0 i;have hbs:(bytesRow b (grownCap w b.size 0 i)).size=grownCap w b.size 0 i:=by
    have:b.data.size=b.size:=rfl;simp only[bytesRow,Array.size_append,Array.size_map,Array.size_replicate];omega
  have hc:Chg [] w (w.drew.alloc (.cells (bytesRow b (grownCap w b.size 0 i)) i ((bytesRow b (grownCap w b.size 0 i)).size,(bytesRow b (grownCap w b.size 0 i)).size+1))):=by
    have:=qb4 w.drew (.cells (bytesRow b (grownCap w b.size 0 i)) i ((bytesRow b (grownCap w b.size 0 i)).size,(bytesRow b (grownCap w b.size 0 i)).size+1));exact⟨this.os,this.tape,this.output,this.size,this.block,fun e=>Nat.le_trans (Nat.le_succ _) (this.drawn e)⟩
  have hnew:=heap_alloc_new w.drew (.cells (bytesRow b (grownCap w b.size 0 i)) i ((bytesRow b (grownCap w b.size 0 i)).size,(bytesRow b (grownCap w b.size 0 i)).size+1));obtain⟨ho',K⟩:=qdf (news:=[]) (gs:=[]) (M:=[]) r.o hc rfl (by simp) (by simp) (fun b hb=>by cases hb) (fun K j ob g hj hg=>by simp at hj);have hi:Imm (σ.objs++[]) (upd γ σ.objs.length []) (w.drew.alloc (.cells (bytesRow b (grownCap w b.size 0 i)) i ((bytesRow b (grownCap w b.size 0 i)).size,(bytesRow b (grownCap w b.size 0 i)).size+1))) w.heap.size:=by
    refine⟨(Array.getElem?_eq_some_iff.1 hnew).1,r.o.up _ (.inl r.o.chg.size),fun o' hm hb=>?_,fun hB=>Nat.lt_irrefl _ (r.o.bl _ hB).1⟩;rcases qfq hm with ⟨h14,h15⟩ | ⟨j,ob,rfl,h14⟩
    · rw[qgP h14] at hb;exact Nat.lt_irrefl _ (r.o.lt o' _ h14 hb)
    · simp at h14
  have hvr:VR (σ.objs++[]) (upd γ σ.objs.length []) (w.drew.alloc (.cells (bytesRow b (grownCap w b.size 0 i)) i ((bytesRow b (grownCap w b.size 0 i)).size,(bytesRow b (grownCap w b.size 0 i)).size+1))) (.sl (.int .u8) (qbP b)) (.slice (some ⟨w.heap.size,0,none⟩) (qbP b).length (grownCap w b.size 0 i)):=by
    refine⟨rfl,_,_,b.data.toList.map fun c=>Value.int .u8 (c.toNat:Int),rfl,Nat.le_trans (Nat.le_of_eq (qdk b)) hge,qkc _,fun _=>⟨_,rfl,hi,?_⟩⟩;have h5:=CellsAt.take (qb3 hnew 0) b.size
    have hl:(b.data.toList.map fun c=>Value.int .u8 (c.toNat:Int)).length=b.size:=by rw[List.length_map,Array.length_toList];rfl
    have e5:(bytesRow b (grownCap w b.size 0 i)).toList.take b.size=b.data.toList.map fun c=>Value.int .u8 (c.toNat:Int):=by
      rw[bytesRow,Array.toList_append,Array.toList_map,←hl];exact List.take_left
    rw[List.drop_zero,e5] at h5;exact h5
  have hput:AState.putO { σ with objs:=σ.objs++[] } o.dst [] (.c (.sl (.int .u8) (qbP b)))=some σ':=by rw[List.append_nil];exact h3
  obtain⟨g1,g2⟩:=qbm r K ho' qaW (fun o' ho' _=>by rw[List.getElem?_append_left ho']) hput hvr;refine EfA.val ?_ hc h4 g1 g2;obtain⟨dst,op,type,pos,after,guard⟩:=o;simp only at ho;subst ho;simp only[execOp,Sem.run_bind,e1];rw[hrun,←qdk b];rfl
theorem ef_bytes (r:Rel F σ γ a w) {s d:TypeId} {x:Operand} (ho:o.op = .convert s d x) (h:bytesE P σ o s d x k=some res):EfR P F σ γ a w o k res Q:=by
  unfold bytesE at h;rcases qe0 h with ⟨_,h⟩ | ⟨_,h⟩
  · exact(ef_bytesD r ho h).toR
  simp only[Option.bind_eq_some_iff,chk_some,req_some] at h;obtain⟨i,hu,hty,pv,h1,b,h2,hsz,σ',h3,h4⟩:=h;have hu:=qG hu;have hsz:=Nat.le_of_ble_eq_true hsz;have e1:a.eval x = .string b:=qrG r (qj σ) h1 h2;simp only[Bool.and_eq_true,qdL,strTy] at hty;obtain⟨hs,hd,hmem⟩:=hty;have hs:P.underlying s=some .string:=by
    split at hs
    · assumption
    · cases hs
  rw[hu] at hd;have he:P.underlying i=some (.int .u8):=by
    simp only at hd;split at hd
    · assumption
    · cases hd
  have hrun:=run_bytes_of_string (P:=P) w s d i b hs hu he;have hge:=grownCap_ge w b.size 0 i;have hbs:(bytesRow b (grownCap w b.size 0 i)).size=grownCap w b.size 0 i:=by
    have:b.data.size=b.size:=rfl;simp only[bytesRow,Array.size_append,Array.size_map,Array.size_replicate];omega
  refine qjM (M0:=[]) (M':=[w.heap.size]) (w':=w.drew.alloc (.cells (bytesRow b (grownCap w b.size 0 i)) i ((bytesRow b (grownCap w b.size 0 i)).size,(bytesRow b (grownCap w b.size 0 i)).size+1))) (zs:=qbP b) (τ := .int .u8) (v' := .slice (some ⟨w.heap.size,0,none⟩) (qbP b).length (grownCap w b.size 0 i))
    (us:=b.data.toList.map fun c=>Value.int .u8 (c.toNat:Int)) r .no ?_ (.inr ⟨rfl,?_⟩) (.inr ⟨w.heap.size,grownCap w b.size 0 i,_,rfl,rfl,⟨_,heap_alloc_new w.drew _,.inr ⟨Nat.le_refl _,hmem⟩⟩,Nat.le_trans (Nat.le_of_eq (qdk b)) hge,
      grownCap_le_maxLen w _ _ _ (by unfold maxLen;omega),by rw[hbs];simp[Ty.size],?_⟩) (qkc _) ?_ h3 h4
  · have:=qb4 w.drew (.cells (bytesRow b (grownCap w b.size 0 i)) i ((bytesRow b (grownCap w b.size 0 i)).size,(bytesRow b (grownCap w b.size 0 i)).size+1));exact⟨this.os,this.tape,this.output,this.size,this.block,fun e=>Nat.le_trans (Nat.le_succ _) (this.drawn e)⟩
  · rw[qbu w.drew];show w.heap.size<w.heap.size+1;omega
  · show List.take ((qbP b).length*1) (bytesRow b (grownCap w b.size 0 i)).toList=_;rw[show(qbP b).length*1=b.size from(Nat.mul_one _).trans (qdk b),bytesRow,Array.toList_append,Array.toList_map]
    have hl:(b.data.toList.map fun c=>Value.int .u8 (c.toNat:Int)).length=b.size:=by rw[List.length_map,Array.length_toList];rfl
    rw[←hl];exact List.take_left
  · obtain⟨dst,op,type,pos,after,guard⟩:=o;simp only at ho;subst ho;simp only[execOp,Sem.run_bind,e1];rw[hrun,←qdk b];rfl
theorem ef_mark (r:Rel F σ γ a w) {s d:TypeId} {x:Operand} (ho:o.op = .convert s d x) (h:markE P σ o s d x k=some res):EfR P F σ γ a w o k res Q:=by
  simp only[markE,Option.bind_eq_some_iff,chk_some,Bool.and_eq_true] at h;obtain⟨i,hu,⟨hsd,hty,hmem⟩,pv,h1,h2⟩:=h;have hsd:=Nat.eq_of_beq_eq_true hsd;subst hsd;have hu:=qG hu;have he:P.underlying i=some (.int .u8):=by
    unfold qdL at hty;rw[hu] at hty;simp only at hty;split at hty
    · assumption
    · cases hty
  split at h2
  · rename_i p;obtain⟨ob,hob,h3⟩:=Option.bind_eq_some_iff.1 h2
    cases ob with
    | arr ti e xs fz =>
      cases fz with
      | true=>simp at h3
      | false =>
        simp only[chk_some,req_some,Option.bind_eq_some_iff,Bool.and_eq_true,Bool.not_eq_true'] at h3;obtain⟨⟨hpr,hti⟩,hlen,σ',h4,h5⟩:=h3;obtain rfl:=Nat.eq_of_beq_eq_true hti
        have hlen:0<xs.length:=by simpa[Nat.blt_eq] using hlen
        have hx:VR σ.objs γ w (.os p) (a.eval x):=qg r (qj σ) h1;obtain⟨hlt,hv,hsl⟩:=hx;obtain⟨us,hown,hrep⟩:=r.o.rep p _ hob;rcases hown with ⟨_,_,h8,_⟩ | ⟨b,cap,cur,h8,h9,h10,h11,h12,h13,h14⟩
        · omega
        · have hg:(γ p).2=some b:=toList_some h8
          have e1:a.eval x = .slice (some ⟨b,0,none⟩) xs.length cap:=by rw[←h9,hv]
          have hrow0:=h10;obtain⟨fz,hb,hfz⟩:=h10
          have hsh:w.shape? b=some (ti,cur.size):=by simp[World.shape?,hb]
          have hrun:(convert s s (.slice (some ⟨b,0,none⟩) xs.length cap)).run P w = .ok (.slice (some ⟨b,0,none⟩) xs.length cap) (w.freeze ⟨b,cur.size,none⟩ 1):=by
            simp[convert,run_underlying hu,run_underlying he,markStringish,hsh]
          have hheap:∀j:Nat,(w.freeze ⟨b,cur.size,none⟩ 1).heap[j]?=if b=j then some (.cells cur ti (if fz.1==fz.2 then(cur.size,cur.size+1) else(min fz.1 cur.size,max fz.2 (cur.size+1)))) else w.heap[j]?:=fun j=>by
            unfold World.freeze;rw[if_neg (by decide)];simp only[Array.getElem?_modify];by_cases e:b=j
            · subst e;simp[hb]
            · simp[e]
          have hch:Chg [b] w (w.freeze ⟨b,cur.size,none⟩ 1):=by
            refine⟨?_,?_,?_,?_,fun j _ hn=>by rw[hheap,if_neg (fun e=>hn (by simp[e]))],fun _=>?_⟩<;>(unfold World.freeze;rw[if_neg (by decide)])
            · simp
            · exact Nat.le_refl _
          have hrow:Row (w.freeze ⟨b,cur.size,none⟩ 1) b cur ti:=by
            refine⟨_,by rw[hheap,if_pos rfl],.inr ⟨?_,hmem⟩⟩;split
            · exact Nat.le_refl _
            · rename_i hne;rcases hfz with rfl | ⟨hfz,_⟩
              · exact absurd rfl hne
              · simp only;omega
          obtain⟨hor,K⟩:=qhw (ob := .arr ti e xs false) hch r.o ⟨_,hob,rfl⟩ hg rfl (fun K=>⟨us,.inr ⟨b,cap,cur,h8,h9,hrow,h11,h12,h13,h14⟩,RepL.keep K hrep⟩);have hset:σ.objs.set p (.arr ti e xs false)=σ.objs:=by
            apply List.ext_getElem?;intro j;rw[List.getElem?_set];by_cases e2:p=j
            · subst e2;rw[if_pos rfl,if_pos (qz hob),hob]
            · rw[if_neg e2]
          rw[hset] at hor K;obtain⟨g1,g2⟩:=qbm r K hor (fun o ti e xs fz h _=>⟨ti,e,xs,fz,h,rfl⟩) (fun _ _ _=>rfl) h4 (v:=a.eval x) ⟨hlt,hv,hsl⟩;refine EfR.val ?_ h5 g1 g2;obtain⟨dst,op,type,pos,after,guard⟩:=o;simp only at ho;subst ho;simp only[execOp,Sem.run_bind,e1];rw[hrun];rfl
    | _=>simp at h3
  · cases h2
theorem qer (r:Rel F σ γ a w) {i:TypeId} {τ:Ty} {c:Cv} {q:List (D τ)×List OB} {v:Value} (h:qlV σ.objs σ.prO i τ c=some q) (hv:VR σ.objs γ w c v) :
    ∃M0 us,Cons σ.objs γ σ.prO q.2 M0∧OwnR w i τ.size v M0 q.1.length us∧RepL (fun x c=>Rep w (Imm σ.objs γ w) τ x [] c) q.1 us:=by
  unfold qlV at h;split at h
  · rename_i p;obtain⟨ob,hob,h2⟩:=Option.bind_eq_some_iff.1 h
    cases ob with
    | arr i' τ' xs fz =>
      cases fz with
      | true=>simp at h2
      | false =>
        simp only[chk_some,Bool.and_eq_true,Bool.not_eq_true',Option.bind_eq_some_iff,Option.some.injEq] at h2;obtain⟨⟨hi,hp⟩,ys,h3,rfl⟩:=h2;have hi:=Nat.eq_of_beq_eq_true hi;subst hi;obtain⟨rfl,h3⟩:=qaD h3;subst h3;obtain⟨us,h4,h5⟩:=r.o.rep p _ hob;obtain⟨_,rfl,_⟩:=hv;exact⟨_,us,.yes p _ hob rfl hp,h4,h5⟩
    | mbr i' τ' x =>
      simp only[chk_some,Bool.and_eq_true,Bool.not_eq_true',Option.bind_eq_some_iff,Option.some.injEq] at h2;obtain⟨⟨hi,hp⟩,y,h3,rfl⟩:=h2;have hi:=Nat.eq_of_beq_eq_true hi;subst hi;obtain⟨rfl,h3⟩:=qmU h3;subst h3;obtain⟨_,rfl,_⟩:=hv;rcases r.o.rep p _ hob with ⟨rfl,h4⟩ | ⟨ys,us,rfl,h4,h5⟩
      · exact⟨_,[],.yes p _ hob rfl hp,.inl ⟨by rw[h4];rfl,⟨none,by rw[h4]⟩,rfl,rfl⟩,rfl⟩
      · exact⟨_,us,.yes p _ hob rfl hp,h4,h5⟩
    | nilr =>
      simp only[Option.some.injEq] at h2;subst h2;obtain⟨_,rfl,_⟩:=hv;exact⟨[],[],.no,.inl ⟨rfl,⟨none,by rw[show γ p=(.slice none 0 0,none) from r.o.rep p _ hob]⟩,rfl,rfl⟩,rfl⟩
    | _=>simp at h2
  · cases h;simp only[VR] at hv;subst hv;exact⟨[],[],.no,.inl ⟨rfl,⟨_,rfl⟩,rfl,rfl⟩,rfl⟩
  · cases h;obtain⟨ao,rfl⟩:=hv;exact⟨[],[],.no,.inl ⟨rfl,⟨_,rfl⟩,rfl,rfl⟩,rfl⟩
  · cases h
theorem srcOf {τ:Ty} (r:ORel F σ.objs γ w) {c:Cv} {ys:List (D τ)} {v:Value} (h:ofSl τ σ.objs c=some ys) (hv:VR σ.objs γ w c v):∃ao cap news,v = .slice ao ys.length cap∧RepL (fun x c=>Rep w (Imm σ.objs γ w) τ x [] c) ys news∧(ys≠[]→∃ad,ao=some ad∧CellsAt w ad news):=by
  cases c with
  | os p =>
    simp only[ofSl,Option.bind_eq_some_iff] at h;obtain⟨ob,hob,h⟩:=h
    cases ob with
    | arr i2 e2 ys2 fz2 =>
      simp only at h;obtain⟨rfl,h⟩:=qaD h;subst h;obtain⟨us2,h9,h10⟩:=r.rep p _ hob;obtain⟨_,rfl,_⟩:=hv;by_cases hys:ys2=[]
      · subst hys;rcases h9 with ⟨_,⟨ao,h3⟩,_⟩ | ⟨b,cap,cur,_,h3,_⟩
        · exact⟨ao,0,[],h3,rfl,fun hn=>absurd rfl hn⟩
        · exact⟨_,cap,[],h3,rfl,fun hn=>absurd rfl hn⟩
      · obtain⟨b,cap,h1,h2,h3,h4⟩:=h9.cells (fun hl=>hys (List.eq_nil_of_length_eq_zero hl));exact⟨_,cap,us2,h2,h10,fun _=>⟨_,rfl,h4⟩⟩
    | hr i2 p2 q2 j2 ys2 hole =>
      cases hole with
      | some _=>simp at h
      | none =>
        simp only at h;obtain⟨rfl,h⟩:=qaD h;subst h;obtain⟨us2,h9,h10,_⟩:=r.rep p _ hob;obtain⟨_,rfl,_⟩:=hv;by_cases hys:ys2=[]
        · subst hys;rcases h9 with ⟨_,⟨ao,h3⟩,_⟩ | ⟨b,cap,cur,_,h3,_⟩
          · exact⟨ao,0,[],h3,rfl,fun hn=>absurd rfl hn⟩
          · exact⟨_,cap,[],h3,rfl,fun hn=>absurd rfl hn⟩
        · obtain⟨b,cap,h1,h2,h3,h4⟩:=h9.cells (fun hl=>hys (List.eq_nil_of_length_eq_zero hl));exact⟨_,cap,us2,h2,qrA h10,fun _=>⟨_,rfl,h4⟩⟩
    | _=>simp at h
  | _ =>
    have:=qoT (S:=Imm σ.objs γ w) r (Sp.le.refl _) h hv (fun p hp=>by cases hp);obtain⟨_,ao,cap,us,h1,_,h3,h4⟩:=this;simp only[List.cons.injEq,and_true] at h1;exact⟨ao,cap,us,h1,h3,fun hn=>by obtain⟨ad,h5,_,h6⟩:=h4 hn;exact⟨ad,h5,h6⟩⟩
theorem qnl (r:Rel F σ γ a w) {args:Array Operand} {ats:Array TypeId} {s x:Operand} {t:TypeId} (ho:o.op = .call ⟨.builtin .append,args,ats⟩) (ha:args.toList=[s,x]) (hat:ats.toList=[t,t]) (h:qnE P σ o s x t k=some res):EfR P F σ γ a w o k res Q:=by
  have ha':args = #[s,x]:=by rw[←Array.toList_inj,ha]
  have hat':ats = #[t,t]:=by rw[←Array.toList_inj,hat]
  subst ha';subst hat';simp only[qnE,Option.bind_eq_some_iff,chk_some,req_some,Bool.and_eq_true,Bool.not_eq_true'] at h;obtain⟨i,hu,τ,hτ,z,hz,b,h1,bc,h2,u,h3,uc,h4,inf,hinf,q,h5,ys,h6,⟨hsrc,hby,hpure⟩,hroom,σ',h7,h8⟩:=h;have hu:=qG hu;obtain⟨inf',zv,hi,hzv,hsz,hzs,hpos,hzr⟩:=qbi hz;rw[hinf] at hi;cases hi;obtain⟨hr1,hr2⟩:=qfh hroom hby
  have hb:VR σ.objs γ w bc (a.eval s):=by have:=qg r (qj σ) h1;rw[qa7 h2] at this;exact this
  have hxv:VR σ.objs γ w uc (a.eval x):=by have:=qg r (qj σ) h3;rw[qa7 h4] at this;exact this
  obtain⟨M0,us,hcons,hown,hrep⟩:=qer r h5 hb;obtain⟨ao,cap,news,e1,hrepn,hne⟩:=srcOf r.o h6 hxv;obtain⟨v',w',M',hrun,hown',hch,hM⟩:=qht (cap:=cap) (ty:=o.type) hu hinf hzv hsz hzs hown (hrep.length (Rep.slen τ)) hrepn hne hr1 hr2;refine qjM r hcons hch hM (zs:=q.1++ys) (by rw[List.length_append];exact hown') (hrep.append hrepn) ?_ h7 h8;obtain⟨dst,op,type,pos,after,guard⟩:=o;simp only at ho;subst ho;rw[BigFrame.execOp_builtin,BigFrame.builtin_append]
  have:(#[s,x].map a.eval) = #[a.eval s,.slice ao ys.length cap]:=by simp only[List.map_toArray,List.map_cons,List.map_nil,e1]
  rw[this];simp only[Sem.run_bind,hrun,Result.andThen_ok,Sem.run_pure]

theorem qsb (r:Rel F σ γ a w) {args:Array Operand} {ats:Array TypeId} {s x:Operand} {t:TypeId} {p sz1 lo1 n1:Nat} (hs:ev σ [] s=some (.vw p sz1 lo1 n1)) (ho:o.op = .call ⟨.builtin .append,args,ats⟩) (ha:args.toList=[s,x]) (hat:ats.toList=[t,t]) (h:qpX P σ o p lo1 n1 x t k=some res):EfR P F σ γ a w o k res Q:=by
  have ha':args = #[s,x]:=by rw[←Array.toList_inj,ha]
  have hat':ats = #[t,t]:=by rw[←Array.toList_inj,hat]
  subst ha';subst hat';simp only[qpX,Option.bind_eq_some_iff] at h;obtain⟨i,hu,inf,hinf,u,h1,h2⟩:=h;have hu:=qG hu;split at h2
  · rename_i p2 sz2 lo2 n2;simp only[Option.bind_eq_some_iff] at h2;obtain⟨ob,hob,h3⟩:=h2
    cases ob with
    | arr i' τ xs fz =>
      cases fz with
      | true=>simp at h3
      | false =>
      simp only[chk_some,req_some,Bool.and_eq_true,Bool.not_eq_true',Option.bind_eq_some_iff] at h3;obtain⟨⟨q1,q2,q3,q4,hpr,hby,hpure⟩,z,hz,hroom,σ',h7,h8⟩:=h3;obtain rfl:=Nat.eq_of_beq_eq_true q1;obtain rfl:=Nat.eq_of_beq_eq_true q2;obtain rfl:=Nat.eq_of_beq_eq_true q3;obtain rfl:=Nat.eq_of_beq_eq_true q4;obtain⟨inf',zv,hi,hzv,hsz,hzs,hpos,hzr⟩:=qbi hz;rw[hinf] at hi;cases hi;obtain⟨hr1,hr2⟩:=qfh hroom hby;obtain⟨hlt,ao0,n0,c0,ao,cap,hg,hlo,e1,hcap,hne1,hc1,hz1⟩:=qg r (qj σ) hs;obtain⟨_,ao0',n0',c0',ao2,cap2,hg2,hlo2,e2,hcap2,hne2,_⟩:=qg r (qj σ) h1;rw[hg] at hg2;simp only[Value.slice.injEq] at hg2;obtain⟨rfl,rfl,rfl⟩:=hg2;obtain⟨us,hown,hrep⟩:=r.o.rep p _ hob;have hn0:n0=xs.length:=by
        rcases hown with ⟨_,⟨ao1,h10⟩,h11,_⟩ | ⟨b1,cap1,cur,_,h10,_⟩
        · rw[hg] at h10;simp only[Value.slice.injEq] at h10;omega
        · rw[hg] at h10;simp only[Value.slice.injEq] at h10;exact h10.2.1
      subst hn0;have hz1:=hz1 rfl;subst hz1
      have hc1:cap=c0:=by omega
      subst hc1
      have hn1:n1≤xs.length:=by omega
      have hul:us.length=xs.length*τ.size:=hrep.length (Rep.slen τ)
      have htl:(xs.take n1).length=n1:=by rw[List.length_take];omega
      have hyl:((xs.drop lo2).take n2).length=n2:=by rw[List.length_take,List.length_drop];omega
      have hown1:OwnR w i τ.size (a.eval s) (γ p).2.toList (xs.take n1).length (us.take (n1*τ.size)):=by
        have e1':a.eval s = .slice ao n1 cap:=e1;rw[htl,e1'];rw[hg] at hown;rcases hown with ⟨h8,⟨ao2,h9⟩,h10,h11⟩ | ⟨b,cap2,cur,h8,h9,h10,h11,h12,h13,h14⟩
        · simp only[Value.slice.injEq] at h9;refine .inl ⟨h8,⟨ao,?_⟩,by omega,by rw[h11];simp⟩;rw[show n1=0 by omega,h9.2.2]
        · simp only[Value.slice.injEq] at h9;obtain⟨rfl,_,rfl⟩:=h9;refine .inr ⟨b,cap,cur,h8,rfl,h10,by omega,h12,h13,?_⟩;rw[←h14,List.take_take];congr 1;exact(Nat.min_eq_left (Nat.mul_le_mul_right _ hn1)).symm
      have hrep1:=hrep.take (Rep.slen τ) n1;have hrep2:=(hrep.drop (Rep.slen τ) lo2).take (Rep.slen τ) n2;have hsrc:(xs.drop lo2).take n2≠[]→∃ad,ao2=some ad∧CellsAt w ad ((us.drop (lo2*τ.size)).take (n2*τ.size)):=fun hn=>by
        have hn2:0<n2:=by
          rcases Nat.eq_zero_or_pos n2 with e | e
          · subst e;exact absurd (List.take_zero) hn
          · exact e
        obtain⟨b,hb1,hb2⟩:=hne2 hn2;refine⟨_,hb2,?_⟩;rcases hown with ⟨h8,_⟩ | ⟨b1,cap1,cur,h8,h9,h10,h11,h12,h13,h14⟩
        · rw[hb1] at h8;cases h8
        · have hbb:b1=b:=by
            have:=toList_some h8;rw[this] at hb1;simpa using hb1
          subst hbb;have hcell:CellsAt w ⟨b1,0,none⟩ us:=by
            have:=CellsAt.take (h10.blk 0) (xs.length*τ.size);rw[List.drop_zero,h14] at this;exact this
          have:=CellsAt.take (CellsAt.drop hcell (lo2*τ.size)) (n2*τ.size)
          rwa [qbq,Nat.zero_add] at this
      have e2':a.eval x = .slice ao2 n2 cap2:=e2;obtain⟨v',w',M',hrun,hown',hch,hM⟩:=qht (cap:=cap2) (ao:=ao2) (ty:=o.type) (ys:=(xs.drop lo2).take n2) hu hinf hzv hsz hzs hown1 (hrep1.length (Rep.slen τ)) hrep2 hsrc (by rw[htl,hyl];exact hr1) (by rw[htl,hyl];exact hr2);refine qjM r (.yes p _ hob rfl hpr) hch hM (zs:=xs.take n1++(xs.drop lo2).take n2) (by rw[List.length_append];exact hown') (hrep1.append hrep2) ?_ (by simpa using h7) h8;obtain⟨dst,op,type,pos,after,guard⟩:=o;simp only at ho;subst ho;rw[BigFrame.execOp_builtin,BigFrame.builtin_append]
      have:(#[s,x].map a.eval) = #[a.eval s,.slice ao2 ((xs.drop lo2).take n2).length cap2]:=by simp only[List.map_toArray,List.map_cons,List.map_nil,e2',hyl]
      rw[this];simp only[Sem.run_bind,hrun,Result.andThen_ok,Sem.run_pure]
    | _=>simp at h3
  · cases h2
theorem qrM (r:Rel F σ γ a w) {args:Array Operand} {ats:Array TypeId} {s x:Operand} {t:TypeId} {p y:Nat} (hs:ev σ [] s=some (.al p y)) (ho:o.op = .call ⟨.builtin .append,args,ats⟩) (ha:args.toList=[s,x]) (hat:ats.toList=[t,t]) (h:qpT P σ o p y x t k=some res):EfR P F σ γ a w o k res Q:=by
  have ha':args = #[s,x]:=by rw[←Array.toList_inj,ha]
  have hat':ats = #[t,t]:=by rw[←Array.toList_inj,hat]
  subst ha';subst hat';simp only[qpT,Option.bind_eq_some_iff] at h;obtain⟨i,hu,u,h3,uc,h4,inf,hinf,ob,hob,h⟩:=h
  cases ob with
  | ar t' q ow xs lent =>
    simp only[chk_some,req_some,Bool.and_eq_true,Bool.not_eq_true',Option.bind_eq_some_iff] at h;obtain⟨⟨how,hlent,hpr,hpo,hby,hz⟩,ys,h6,hsrc,hroom,σ',h7,h8⟩:=h;have how:ow=some i:=by
      cases ow with
      | none=>cases how
      | some j=>rw[Nat.eq_of_beq_eq_true how]
    subst how;have hpo:arOf σ.objs=some p:=by
      cases h9:arOf σ.objs with
      | none=>rw[h9] at hpo;cases hpo
      | some j=>rw[h9] at hpo;rw[Nat.eq_of_beq_eq_true hpo]
    cases lent with
    | some _=>cases hlent
    | none =>
    have hu:=qG hu;obtain⟨z,hz⟩:=Option.isSome_iff_exists.1 hz;obtain⟨inf',zv,hi,hzv,hsz,hzs,hpos,hzr⟩:=qbi hz;rw[hinf] at hi;cases hi;obtain⟨hr1,hr2⟩:=qfh hroom hby;have hb:PR σ.objs γ w (.al p y) (a.eval s):=qg r (qj σ) hs;obtain⟨hplt,hy,hm,hkcv,_⟩:=hb
    have hxv:VR σ.objs γ w uc (a.eval x):=by have:=qg r (qj σ) h3;rw[qa7 h4] at this;exact this
    obtain⟨ls,hs',hA,hB,hkc,hj⟩:=r.o.ar p _ _ _ _ _ hob;have hAm:∀i,γ.m (i+1)=(ls[i]?).map Prod.fst:=hA.m;obtain⟨b,hb⟩:=Option.isSome_iff_exists.1 hm;obtain⟨M,hls⟩:=ls_of hAm hy hb
    have hlt:y-1<xs.length:=by rw[←hA.len];exact qz hls
    have hlt2:y-1<hs'.length:=by rw[hA.lenH];exact hlt
    obtain⟨cells,pl,n1,n2,n3,v0,n5,n6,n7⟩:=hA.node (y-1) _ _ _ hls (List.getElem?_eq_getElem hlt) (List.getElem?_eq_getElem hlt2);have hv0:a.eval s=v0:=by
      have:=hkc (y-1) v0 (by rw[List.getElem?_eq_getElem hlt2,n5]);rw[show y-1+1=y by omega,hkcv] at this;cases this;rfl
    obtain⟨us,hown,hrefs⟩:∃us,OwnR w i Ty.ref.size v0 M ((qcB xs y).getD []).length us∧RefsL γ.m ((qcB xs y).getD []) us:=by
      have hk:qcB xs y=xs[y-1].2:=by unfold qcB;rw[getE hlt]
      rw[hk];rcases n7 with ⟨n7,_⟩ | ⟨_,⟨n8,n9,n10⟩ | ⟨ks,us,n8,n10,n11⟩⟩
      · cases n7
      · rw[n8];exact⟨[],.inl ⟨n9,⟨none,n10⟩,rfl,rfl⟩,rfl⟩
      · rw[n8];exact⟨us,n10,n11⟩
    generalize (qcB xs y).getD []=ks at *;have hks:RepL (fun x c=>Rep w (Imm σ.objs γ w) .ref x [] c) ks us:=RepL.mono (fun _ _ h=>⟨rfl,h⟩) hrefs;obtain⟨ao,cap,news,e1,hrepn,hne⟩:=srcOf r.o h6 hxv;obtain⟨v',w',M',hrun,hown',hch,hM⟩:=qht (cap:=cap) (ty:=o.type) (τ := .ref) hu hinf hzv hsz hzs hown (hks.length (Rep.slen .ref)) hrepn hne hr1 hr2;have hM1:M'=(M'.head?).toList:=by
      rcases hown' with ⟨h,_⟩ | ⟨b,_,_,h,_⟩<;>rw[h]<;>rfl
    have hMB:∀k∈M,k∈γ.B:=fun k hk=>hB k (qaR hls k (List.mem_cons_of_mem _ hk));have hbM:b∉M:=(List.nodup_cons.1 (qhu hA.nd hls)).1
    let B':=γ.B.filter fun k=>!M.elem k
    have hB':∀k,k∈B'↔k∈γ.B∧k∉M:=fun k=>by
      show k∈γ.B.filter _↔_;rw[List.mem_filter];simp
    have hM'B:∀k∈M',k∉B':=fun k hk hk'=>by
      obtain⟨g1,g2⟩:=(hB' k).1 hk';rcases hM with rfl | ⟨rfl,_⟩
      · exact g2 hk
      · have:=(r.o.bl k g1).1;simp at hk;omega
    have hM'I:∀k∈M',¬Imm σ.objs γ w k:=fun k hk hi=>by
      rcases hM with rfl | ⟨rfl,_⟩
      · exact hi.nb (hMB k hk)
      · have:=hi.lt;simp at hk;omega
    have hM'o:∀k∈M',∀o,Mut σ.objs o→(γ o).2≠some k:=fun k hk o' ho' he=>by
      rcases hM with rfl | ⟨rfl,_⟩
      · exact r.o.bo o' k ho' he (hMB k hk)
      · have:=r.o.lt o' k ho'.lt he;simp at hk;omega
    have hM'w:∀k∈M',k<w'.heap.size∧(F.w0.heap.size≤k∨k∈F.M):=fun k hk=>by
      rcases hM with rfl | ⟨rfl,h9⟩
      · exact⟨Nat.lt_of_lt_of_le (r.o.bl k (hMB k hk)).1 hch.size,(r.o.bl k (hMB k hk)).2⟩
      · simp at hk;subst hk;exact⟨h9,.inl r.o.chg.size⟩
    let kc':Nat→Nat→Option Value:=fun o' z=>if o'=σ.objs.length then γ.kc p z else γ.kc o' z
    have hmut:∀o',Mut (σ.objs.set p .dead) o'→Mut σ.objs o':=by
      rintro o' ⟨ob,g1,g2⟩
      rcases qo g1 with ⟨_,_,rfl⟩ | ⟨_,g1⟩
      · cases g2
      · exact⟨ob,g1,g2⟩
    have hchg:Chg F.M F.w0 w':=by
      have:=r.o.chg;refine⟨hch.os.trans this.os,hch.tape.trans this.tape,hch.output.trans this.output,Nat.le_trans this.size hch.size,fun k hk hn=>(hch.block k (Nat.lt_of_lt_of_le hk this.size) fun hk'=>?_).trans (this.block k hk hn),fun e=>Nat.le_trans (this.drawn e) (hch.drawn e)⟩;rcases(r.o.bl k (hMB k hk')).2 with h1 | h1
      · omega
      · exact hn h1
    have K0:Keep σ.objs γ w (σ.objs.set p .dead) (γ.arn γ.m B' kc') w' σ.objs.length :=
      ⟨⟨fun k hk=>⟨Nat.lt_of_lt_of_le hk.lt hch.size,hk.s,fun o' hm'=>hk.own o' (hmut o' hm'),fun hm'=>hk.nb ((hB' k).1 hm').1⟩,fun _ _ h=>h⟩,fun k hk=>hch.block k hk.lt fun hk'=>hk.nb (hMB k hk'),by simp,fun _ _=>rfl,hch.size,rfl,fun o' ho' z u hu=>by
          show(if o'=σ.objs.length then _ else _)=_
          rw[if_neg (by omega)];exact hu⟩
    obtain⟨hor,K⟩:=qcF (news:=[.ar t' q (some i) xs (some (y-1)),.arr i .ref (List.append (α:=Nat) ks ys) false]) (gs:=[(undef,none),(v',M'.head?)]) (M:=M') r.o K0 (by simp) hchg rfl (by rw[hM1];simp) (by rw[hM1];cases M'.head?<;>simp) (fun o' ob ho'=>by
        rcases qo ho' with ⟨_,_,rfl⟩ | ⟨_,ho'⟩
        · exact .inr (.inl rfl)
        · rcases qqt r.o ho' with rfl | h1 | h1
          · exact .inr (.inl rfl)
          · exact .inr (.inr fun _=>by cases ob<;>first | exact r.o.rep _ _ ho' | cases h1)
          · exact .inl ⟨r.o.rep o' ob ho',fun b' hb'=>hch.block b' (r.o.lt o' b' (qz ho') hb') fun hk=>h1 _ hb' (hMB b' hk)⟩) (fun o' hm=>hmut o' hm) (fun o' i e ys ho'=>by
        rcases qo ho' with ⟨_,_,e⟩ | ⟨_,ho'⟩
        · cases e
        · exact ho') (fun k hk=>⟨(hM'w k hk).1,(hM'w k hk).2,fun o' hm'=>hM'o k hk o' (hmut o' hm'),hM'I k hk⟩) (fun K j ob g hj' hg'=>by
        match j,hj',hg' with
        | 0,hj',hg' =>
          cases hj';cases hg';exact⟨rfl,.inr rfl⟩
        | 1,hj',hg' =>
          cases hj';cases hg';refine⟨⟨us++news,?_,RepL.mono (fun x c h=>Rep.mono K.imm K.heap .ref h (by simp)) (hks.append hrepn)⟩,.inl rfl⟩;have h9:OwnR w' i Ty.ref.size v' M' (List.append (α:=Nat) ks ys).length (us++news):=by
            have e9:(List.append (α:=Nat) ks ys).length=ks.length+List.length (α:=Nat) ys:=List.length_append;rw[e9];exact hown'
          rw[←hM1];exact h9
        | n+2,hj',_=>simp at hj') (fun k hk=>⟨Nat.lt_of_lt_of_le (r.o.bl k ((hB' k).1 hk).1).1 hch.size,(r.o.bl k ((hB' k).1 hk).1).2⟩) (fun o' b' hm hb' hB1=>r.o.bo o' b' (hmut o' hm) hb' ((hB' b').1 hB1).1) hM'B (fun K o' t2 p2 w2 x2 l2 ho'=>by
        by_cases hlt':o'<(σ.objs.set p .dead).length
        · rw[List.getElem?_append_left hlt'] at ho';rcases qo ho' with ⟨_,_,e⟩ | ⟨g,ho'⟩
          · cases e
          · exact absurd (qfr hpo o' t2 p2 w2 x2 l2 ho') g
        rw[List.getElem?_append_right (by omega)] at ho';have ho'':o'=σ.objs.length∧OB.ar t' q (some i) xs (some (y-1))=OB.ar t2 p2 w2 x2 l2:=by
          match h9:o'-(σ.objs.set p .dead).length,ho' with
          | 0,ho' =>
            refine⟨?_,by simpa using ho'⟩;simp only[List.length_set] at h9 hlt';omega
          | 1,ho'=>simp at ho'
          | n+2,ho'=>simp at ho'
        obtain⟨ho'',e⟩:=ho'';cases e;refine⟨ls.set (y-1) (b,[]),hs',ArW.mk (by rw[List.length_set];exact hA.len) hA.lenH hA.m0 (fun z=>?_) (qc9 hls hA.nd List.nodup_nil (fun k hk=>by cases hk)) (fun z q' x' h' g1 g2 g3=>?_),fun k hk=>?_,fun z u hu=>?_,fun z hz=>?_⟩
        · show γ.m (z+1)=_;rw[hAm,List.getElem?_set];by_cases hz:y-1=z
          · subst hz;rw[if_pos rfl,hls,if_pos (qz hls)];rfl
          · rw[if_neg hz]
        · by_cases hz:z=y-1
          · subst hz;rw[List.getElem?_set,if_pos rfl,if_pos (qz hls)] at g1;rw[List.getElem?_eq_getElem hlt] at g2;rw[List.getElem?_eq_getElem hlt2] at g3;cases g1;cases g2;cases g3;exact⟨cells,pl,(hch.block b (r.o.bl b (hB b (qaR hls b (by simp)))).1 hbM).trans n1,Rep.mono K.imm K.heap q n2 (by simp),n3,v0,n5,n6,.inl ⟨by simp,rfl⟩⟩
          · rw[List.getElem?_set,if_neg (fun e=>hz e.symm)] at g1;have:=hA.node z q' x' h' g1 g2 g3;rw[show((none:Option Nat)==some z)=(some (y-1)==some z) by simp;omega] at this;refine this.mono K.imm K.heap fun k hk=>hch.block k (r.o.bl k (hB k (qaR g1 k hk))).1 fun hkM=>?_;exact hz (qdx hA.nd g1 hls hk (List.mem_cons_of_mem _ hkM))
        · refine(hB' k).2 ⟨?_,fun hkM=>?_⟩
          · rcases qdb hls hk with hk | hk
            · exact hB k hk
            · cases hk
          · obtain⟨⟨b2,M2⟩,g1,g2⟩:=List.mem_flatMap.1 hk;obtain⟨z,g3⟩:=List.mem_iff_getElem?.1 g1;rcases qo g3 with ⟨_,_,e⟩ | ⟨g4,g5⟩
            · cases e;simp at g2;subst g2;exact hbM hkM
            · exact g4 (qdx hA.nd g5 hls g2 (List.mem_cons_of_mem _ hkM))
        · show(if o'=σ.objs.length then _ else _)=_;rw[if_pos ho''];exact hkc z u hu
        · show(if o'=σ.objs.length then _ else _)=_
          rw[if_pos ho''];exact hj z hz)
    obtain⟨h1,h2⟩:=qqB r K hor (fun o' ho' hp'=>by
      rw[List.getElem?_append_left (by simpa using ho'),qA (fun e2=>by subst e2;rw[hpr] at hp';cases hp')]) h7 (v:=v') ⟨by simp,by
        have:=qbt (γ:=γ.arn γ.m B' kc') (n:=σ.objs.length) (j:=1) (gs:=[(undef,none),(v',M'.head?)]) rfl
        rw[this],by
        rcases hown' with ⟨_,⟨ao,rfl⟩,_⟩ | ⟨b,cap,cur,_,rfl,_⟩
        · exact⟨_,_,_,rfl⟩
        · exact⟨_,_,_,rfl⟩⟩
    refine EfR.val ?_ h8 h1 h2;obtain⟨dst,op,type,pos,after,guard⟩:=o;simp only at ho;subst ho;rw[BigFrame.execOp_builtin,BigFrame.builtin_append]
    have:(#[s,x].map a.eval) = #[v0,.slice ao ys.length cap]:=by simp only[List.map_toArray,List.map_cons,List.map_nil,e1,hv0]
    rw[this];simp only[Sem.run_bind,hrun,Result.andThen_ok,Sem.run_pure]
  | _=>simp at h
theorem hz_append {A:Type} {h:Option (Nat×Value)} {xs ys:List A} (hk:∀q,h=some q→q.1<xs.length):hz h (xs++ys)=hz h xs++hz none ys:=by
  refine List.ext_getElem? fun t=>?_;by_cases ht:t<xs.length
  · rw[List.getElem?_append_left (by rw[qiV];exact ht),qfw,qfw,List.getElem?_append_left ht]
  · rw[List.getElem?_append_right (by rw[qiV];omega),qfw,qfw,qiV,List.getElem?_append_right (by omega)];have e:hvAt h t=none:=by
      cases h with
      | none=>rfl
      | some q =>
        have hq:=hk q rfl;have:Nat.beq q.1 t=false:=by
          cases hb:Nat.beq q.1 t with
          | false=>rfl
          | true=>exact absurd (Nat.eq_of_beq_eq_true hb) (by omega)
        simp[hvAt,this]
    rw[e];rfl
theorem qr6 (r:Rel F σ γ a w) {args:Array Operand} {ats:Array TypeId} {s x:Operand} {t:TypeId} {p:Nat} (hs:ev σ [] s=some (.c (.os p))) (ho:o.op = .call ⟨.builtin .append,args,ats⟩) (ha:args.toList=[s,x]) (hat:ats.toList=[t,t]) (h:qqq P σ o p x t k=some res):EfR P F σ γ a w o k res Q:=by
  have ha':args = #[s,x]:=by rw[←Array.toList_inj,ha]
  have hat':ats = #[t,t]:=by rw[←Array.toList_inj,hat]
  subst ha';subst hat';simp only[qqq,Option.bind_eq_some_iff] at h;obtain⟨i,hu,u,h3,uc,h4,inf,hinf,ob,hob,h⟩:=h
  cases ob with
  | hr i1 pa qb j xs hole =>
    cases uc with
    | os p2 =>
      simp only[Option.bind_eq_some_iff] at h;obtain⟨ob2,hob2,h⟩:=h
      cases ob2 with
      | hr i2 a2 b2 j2 ys hole2 =>
        cases hole2 with
        | some _=>simp at h
        | none =>
          simp only[chk_some,req_some,Option.bind_eq_some_iff,Bool.and_eq_true,Bool.not_eq_true'] at h;obtain⟨zs,hz1,z,hz,⟨hi1,hpp,hpr,hby⟩,hroom,σ',h7,h8⟩:=h;obtain rfl:=Nat.eq_of_beq_eq_true hi1;obtain⟨rfl,rfl,hz1⟩:=qmX hz1;subst hz1;have hu:=qG hu;obtain⟨inf',zv,hi,hzv,hsz,hzs,hpos,hzr⟩:=qbi hz;rw[hinf] at hi;cases hi;obtain⟨hr1,hr2⟩:=qfh hroom hby;have hb:VR σ.objs γ w (.os p) (a.eval s):=qg r (qj σ) hs
          have hxv:VR σ.objs γ w (.os p2) (a.eval x):=by have:=qg r (qj σ) h3;rw[qa7 h4] at this;exact this
          have hbv:=hb.2.1;have hxv2:=hxv.2.1;obtain⟨us,hown,hrep,hhole⟩:=r.o.rep p _ hob;obtain⟨us2,hown2,hrep2,_⟩:=r.o.rep p2 _ hob2;have hsrc:∃ao cap,(γ p2).1 = .slice ao ys.length cap∧(ys≠[]→∃ad,ao=some ad∧CellsAt w ad us2):=by
            by_cases hy:ys=[]
            · subst hy;rcases hown2 with ⟨_,⟨ao,e⟩,_⟩ | ⟨b,cap,cur,_,e,_⟩
              · exact⟨ao,0,e,fun hn=>absurd rfl hn⟩
              · exact⟨_,cap,e,fun hn=>absurd rfl hn⟩
            · obtain⟨b,cap,g1,g2,g3,g4⟩:=hown2.cells (fun hl=>hy (List.eq_nil_of_length_eq_zero hl));exact⟨_,cap,g2,fun _=>⟨_,rfl,g4⟩⟩
          obtain⟨ao,cap,e1,hne⟩:=hsrc
          obtain⟨v',w',M',hrun,hown',hch,hM⟩:=qht (τ:=eT a2 b2) (cap:=cap) (ty:=o.type) hu hinf hzv hsz hzs hown (by
            have:=hrep.length (sz:=(eT a2 b2).size) (fun _ _ h=>ElR.len h);rw[qiV] at this
            exact this) (qrA hrep2) hne hr1 hr2
          have hM1:M'=(M'.head?).toList:=by
            rcases hown' with ⟨h,_⟩ | ⟨b,_,_,h,_⟩<;>rw[h]<;>rfl
          have hcons:Cons σ.objs γ σ.prO (σ.objs.set p .dead) (γ p).2.toList := .yes p _ hob rfl hpr;have hkk:∀q,(hole.map fun h=>(h.1,(γ h.2).1))=some q→q.1<xs.length:=fun q hq=>by
            cases hole with
            | none=>cases hq
            | some hh =>
              cases hq;exact(hhole hh.1 hh.2 rfl).1
          obtain⟨ho',K⟩:=qj0 (nob := .hr i1 a2 b2 j (xs++ys) hole) (v':=v') r.o hcons hch hM hM1 rfl fun K=>by
            have eh:(hole.map fun x=>(x.1,(upd γ σ.objs.length [(v',M'.head?)] x.2).1))=hole.map fun x=>(x.1,(γ x.2).1):=by
              cases hole with
              | none=>rfl
              | some x=>rw[Option.map_some,Option.map_some,K.gh x.2 (hhole x.1 x.2 rfl).2.1]
            refine⟨us++us2,by rw[←hM1,List.length_append];exact hown',?_,fun k' r' e=>?_⟩
            · rw[eh,hz_append hkk];exact(hrep.append hrep2).mono (ElR.mono (fun x c=>Rep.keep K) (fun x c=>Rep.keep K) fun ks v hk=>hk.mono K.imm K.heap)
            · obtain⟨k1,k2⟩:=hhole k' r' e;refine⟨by rw[List.length_append];omega,?_⟩;rw[K.gh r' k2.1];exact VR.keep K k2.1 k2
          have hlen:(σ.objs.set p .dead).length=σ.objs.length:=by simp
          obtain⟨h1,h2⟩:=qbm r K ho' (qeW hcons) (qiT hcons) h7 (v:=v')
            ⟨by simp,by
              have:=qbt (γ:=γ) (n:=σ.objs.length) (j:=0) (gs:=[(v',M'.head?)]) rfl;rw[Nat.add_zero] at this
              rw[hlen,this],by
              rcases hown' with ⟨_,⟨ao,rfl⟩,_⟩ | ⟨b,cap,cur,_,rfl,_⟩
              · exact⟨_,_,_,rfl⟩
              · exact⟨_,_,_,rfl⟩⟩
          refine EfR.val ?_ h8 h1 h2;obtain⟨dst,op,type,pos,after,guard⟩:=o;simp only at ho;subst ho;simp only at hrun;rw[BigFrame.execOp_builtin,BigFrame.builtin_append]
          have:(#[s,x].map a.eval) = #[(γ p).1,.slice ao ys.length cap]:=by simp only[List.map_toArray,List.map_cons,List.map_nil,hbv,hxv2,e1]
          rw[this];simp only[Sem.run_bind];refine(congrArg (fun r=>Result.andThen r _) hrun).trans ?_;simp only[Result.andThen_ok,Sem.run_pure]
      | _=>simp at h
    | _=>simp at h
  | _=>simp at h
theorem ef_append (r:Rel F σ γ a w) {args:Array Operand} {ats:Array TypeId} {s x:Operand} {t:TypeId} (ho:o.op = .call ⟨.builtin .append,args,ats⟩) (ha:args.toList=[s,x]) (hat:ats.toList=[t,t]) (h:qqw P σ o s x t k=some res):EfR P F σ γ a w o k res Q:=by
  unfold qqw at h;split at h
  · rename_i hs;exact qrM r hs ho ha hat h
  · rename_i hs;exact qsb r hs ho ha hat h
  · rename_i hs;rcases qe0 h with ⟨_,h2⟩ | ⟨_,h2⟩
    · exact qr6 r hs ho ha hat h2
    · exact qnl r ho ha hat h2
  · exact qnl r ho ha hat h

theorem qp7 {t t' ty i:TypeId} {ki:IntKind} {inf:TypeInfo} {z:Value} (hu:P.underlying t=some (.slice i)) (hu':P.underlying t'=some (.int ki)) (hi:P.info? i=some inf) (hz:inf.zero=some z) (hs:0<inf.size) {n:Int} (hn:0<n) (hroom:n.toNat*inf.bytes≤140737488355328) (hn2:n.toNat≤140737488355328) :
    (Builtin.append_ #[t,t'] ty #[.slice none 0 0,.int .i64 n]).run P w = .ok (.slice (some ⟨w.heap.size,0,none⟩) n.toNat (grownCap w n.toNat 0 i))
      (w.drew.alloc (.cells (Builtin.zeroCells z.cells n.toNat++Builtin.zeroCells z.cells (grownCap w n.toNat 0 i-n.toNat)) i)):=by
  have hw:IntKind.i64.wrap n=n:=by simp[IntKind.wrap,IntKind.signed,IntKind.bits];omega
  have h1:¬n<0:=by omega
  have hnb:n*(inf.bytes:Int)≤140737488355328:=by
    have:((n.toNat*inf.bytes:Nat):Int)≤(140737488355328:Nat):=Int.ofNat_le.2 hroom;rw[Int.natCast_mul,Int.toNat_of_nonneg (by omega)] at this;omega
  have h2:¬(281474976710656:Int)<n*(inf.bytes:Int):=by omega
  have h3:¬n.toNat=0:=by omega
  have h4:¬n.toNat≤0:=by omega
  have h5:¬n≤0:=by omega
  have h6:¬(9223372036854775807:Int)<n:=by omega
  have hf:=growslice_fits (need:=n.toNat) (old:=0) (bytes:=inf.bytes) (by omega) hroom
  have h7:¬(281474976710656<Builtin.nextslicecap n.toNat 0*inf.bytes):=by omega
  have h8:inf.size≠0:=by omega
  have h9:max n 0=n:=by omega
  simp[Builtin.append_,run_underlying hu,run_underlying hu',sizeOf,typeInfo,zeroValue,hi,hz,Go.asInt,asIntOf,hw,h1,h2,h3,h4,h5,h6,h7,h8,h9,Question.forced,newRow,grownCap,Builtin.firstCells];intro hz0;exact absurd hz0 (Nat.mul_ne_zero h3 h8)
theorem qqG {t t' ty i:TypeId} {inf:TypeInfo} {z:Value} (hu:P.underlying t=some (.slice i)) (hu':P.underlying t'=some .string) (hi:P.info? i=some inf) (hz:inf.zero=some z) (hsz:inf.size=1) (hzs:z.cells.size=1) (hby:inf.bytes=1)
    {v0:Value} {M0:List Nat} {n:Nat} {us:List Value} (hown:OwnR w i 1 v0 M0 n us) (hus:us.length=n) (s:ByteArray) (hroom:n+s.size≤140737488355328) :
    ∃v' w' M',(Builtin.append_ #[t,t'] ty #[v0,.string s]).run P w = .ok v' w'∧OwnR w' i 1 v' M' (n+s.size) (us++byteCells s)∧Chg M0 w w'∧(M'=M0∨M'=[w.heap.size]∧w.heap.size<w'.heap.size):=by
  have hS:Src P inf.size t' (.string s) s.size (byteCells s) w:=by rw[hsz];exact Src.ofString w hu' s
  have hbl:=byteCells_length s
  have hgrown:∀(base:Option Addr) (old:Nat),old<n+s.size→(Builtin.firstCells inf.size n (.slice base n old)).run P w.drew = .ok us.toArray w.drew→∃w',(Builtin.append_ #[t,t'] ty #[.slice base n old,.string s]).run P w = .ok (.slice (some ⟨w.heap.size,0,none⟩) (n+s.size) (grownCap w (n+s.size) old i)) w' ∧
      OwnR w' i 1 (.slice (some ⟨w.heap.size,0,none⟩) (n+s.size) (grownCap w (n+s.size) old i)) [w.heap.size] (n+s.size) (us++byteCells s)∧Chg [] w w'∧w.heap.size<w'.heap.size:=by
    intro base old hold hfirst;have hr:=run_append_grow_src (P:=P) w t t' ty i inf z hu hi hz base n old us hfirst _ s.size (byteCells s) hS hold (by omega) (by rw[hby];exact growslice_fits hold (by omega));refine⟨_,hr,.inr ⟨w.heap.size,_,_,rfl,rfl,Row.of (heap_alloc_new w.drew _),grownCap_ge w _ _ _,grownCap_le_maxLen w _ _ _ (by unfold maxLen;omega),?_,?_⟩,?_,?_⟩
    · have hge:=grownCap_ge w (n+s.size) old i;simp only[Array.size_append,List.size_toArray,size_zeroCells,hzs,List.length_append,hus,hbl];omega
    · have hl:(us++byteCells s).length=(n+s.size)*1:=by rw[List.length_append,hus,hbl,Nat.mul_one]
      rw[Array.toList_append,←hl];exact List.take_left
    · have:=qb4 w.drew (.cells ((us++byteCells s).toArray++Builtin.zeroCells z.cells (grownCap w (n+s.size) old i-(n+s.size))) i);exact⟨this.os,this.tape,this.output,this.size,this.block,fun e=>Nat.le_trans (Nat.le_succ _) (this.drawn e)⟩
    · have:=qbu w.drew (.cells ((us++byteCells s).toArray++Builtin.zeroCells z.cells (grownCap w (n+s.size) old i-(n+s.size))) i);rw[this];show w.heap.size<w.heap.size+1;omega
  rcases hown with ⟨hM,⟨ao0,rfl⟩,hn0,hu0⟩ | ⟨b,cap0,cur,hM,rfl,hh,h4,h5,h6,h7⟩
  · subst hn0;subst hu0;have hf0:∀w':World,(Builtin.firstCells inf.size 0 (.slice ao0 0 0)).run P w' = .ok #[] w':=fun w'=>by
      cases ao0<;>simp[Builtin.firstCells,loadCells,loadCellsFrom]
    by_cases hs0:s.size=0
    · have hb0:byteCells s=[]:=List.eq_nil_of_length_eq_zero (by omega);have hsf:(Builtin.firstCells inf.size 0 (.string s)).run P w = .ok #[] w:=by
        have:=hS.cells;rw[hs0,hb0] at this;exact this
      refine⟨.slice ao0 0 0,w,M0,?_,.inl ⟨hM,⟨ao0,rfl⟩,by omega,by simp[hb0]⟩,Chg.refl _ _,.inl rfl⟩
      cases ao0 with
      | none=>simp[Builtin.append_,run_underlying hu,run_underlying hu',sizeOf,typeInfo,hi,Builtin.lenOf,hs0,hsf]
      | some ad=>simp[Builtin.append_,run_underlying hu,run_underlying hu',sizeOf,typeInfo,hi,Builtin.lenOf,hs0,hsf,storeCells]
    · obtain⟨w',g1,g2,g3,g4⟩:=hgrown ao0 0 (by omega) (hf0 _);exact⟨_,w',_,g1,g2,by rw[hM];exact g3,.inr ⟨rfl,g4⟩⟩
  · rw[Nat.mul_one] at h6 h7;by_cases hroom2:n+s.size≤cap0
    · have hr:=run_append_room_src (P:=P) w t t' ty i inf hu hi b 0 n cap0 _ s.size (byteCells s) hS hroom2 (fun j hj=>by rw[hh.cell,hsz];simp;omega) (fun j hj=>hh.fro (by rw[hsz];omega));obtain⟨fz,hg,hfz⟩:=hh;rw[hsz,Nat.mul_one,Nat.zero_add,qeM (byteCells s) n cur w hg (by omega)] at hr;refine⟨_,_,M0,hr,.inr ⟨b,cap0,_,hM,rfl,Row.set ⟨fz,hg,hfz⟩ _ (by simp only[List.size_toArray,List.length_append,List.length_take,List.length_drop,Array.length_toList];omega),hroom2,h5,?_,?_⟩,by rw[hM];exact qfg,.inl rfl⟩
      · simp only[List.size_toArray,List.length_append,List.length_take,List.length_drop,Array.length_toList];omega
      · rw[h7]
        have hl:(us++byteCells s).length=(n+s.size)*1:=by rw[List.length_append,hus,hbl,Nat.mul_one]
        rw[←hl];exact List.take_left
    · have hf:(Builtin.firstCells inf.size n (.slice (some ⟨b,0,none⟩) n cap0)).run P w.drew = .ok us.toArray w.drew:=by
        have hcell:CellsAt w ⟨b,0,none⟩ us:=by
          have:=CellsAt.take (hh.blk 0) n;rw[List.drop_zero,h7] at this;exact this
        exact run_firstCells_some w.drew inf.size n ⟨b,0,none⟩ n cap0 us (by rw[hus,hsz,Nat.mul_one]) (fun j v hv=>by simpa using hcell j v hv)
      obtain⟨w',g1,g2,g3,g4⟩:=hgrown (some ⟨b,0,none⟩) cap0 (by omega) hf;exact⟨_,w',_,g1,g2,g3.mono (by simp),.inr ⟨rfl,g4⟩⟩
theorem qlE (s:ByteArray):byteCells s=List.map (Value.int .u8) (qbP s):=by
  unfold byteCells qbP;rw[List.map_map];rfl
theorem qr9 (r:Rel F σ γ a w) {args:Array Operand} {ats:Array TypeId} {s x:Operand} {t t':TypeId} (ho:o.op = .call ⟨.builtin .append,args,ats⟩) (ha:args.toList=[s,x]) (hat:ats.toList=[t,t']) (ht':strTy P t'=true) (h:qpZ P σ o s x t k=some res):EfR P F σ γ a w o k res Q:=by
  have ha':args = #[s,x]:=by rw[←Array.toList_inj,ha]
  have hat':ats = #[t,t']:=by rw[←Array.toList_inj,hat]
  subst ha';subst hat';simp only[qpZ,Option.bind_eq_some_iff,chk_some,req_some,Bool.and_eq_true] at h;obtain⟨i,hu,z,hz,inf,hinf,b,h1,bc,h2,u,h3,ys,h4,q,h5,⟨hbt,hby⟩,hroom,σ',h7,h8⟩:=h;have hu:=qG hu;obtain⟨inf',zv,hi,hzv,hsz,hzs,hpos,hzr⟩:=qbi hz;rw[hinf] at hi;cases hi;have hby:=Nat.eq_of_beq_eq_true hby;have hr1:(List.length (α:=Int) q.1+ys.size)*1≤140737488355328:=Nat.le_of_ble_eq_true hroom;rw[Nat.mul_one] at hr1;have hu':P.underlying t'=some .string:=by
    unfold strTy at ht';split at ht'
    · assumption
    · cases ht'
  have hb:VR σ.objs γ w bc (a.eval s):=by have:=qg r (qj σ) h1;rw[qa7 h2] at this;exact this
  have hxv:a.eval x = .string ys:=by have:=qg r (qj σ) h3;rw[qmT h4] at this;exact this
  obtain⟨M0,us,hcons,hown,hrep⟩:=qer r h5 hb;have hus:us.length=List.length (α:=Int) q.1:=(hrep.length (Rep.slen (.int .u8))).trans (Nat.mul_one _);obtain⟨v',w',M',hrun,hown',hch,hM⟩:=qqG (ty:=o.type) hu hu' hinf hzv hsz hzs hby hown hus ys hr1;have hrb:RepL (fun x c=>Rep w (Imm σ.objs γ w) (.int .u8) x [] c) (qbP ys) (byteCells ys):=by
    rw[qlE];exact rep_u8 _
  have e:List.length (α:=Int) (List.append (α:=Int) q.1 (qbP ys))=List.length (α:=Int) q.1+ys.size:=(List.length_append (as:=(q.1:List Int)) (bs:=qbP ys)).trans (congrArg _ (qdk ys));have hown2:=Eq.mpr (congrArg (fun n=>OwnR w' i 1 v' M' n (us++byteCells ys)) e) hown';refine qjM r hcons hch hM (v':=v') (τ := .int .u8) (zs:=List.append (α:=Int) q.1 (qbP ys)) (us:=us++byteCells ys) hown2 (hrep.append hrb) ?_ h7 h8;obtain⟨dst,op,type,pos,after,guard⟩:=o;simp only at ho;subst ho;rw[BigFrame.execOp_builtin,BigFrame.builtin_append]
  have:(#[s,x].map a.eval) = #[a.eval s,.string ys]:=by simp only[List.map_toArray,List.map_cons,List.map_nil,hxv]
  rw[this];simp only[Sem.run_bind,hrun,Result.andThen_ok,Sem.run_pure]
theorem qrO (r:Rel F σ γ a w) {args:Array Operand} {ats:Array TypeId} {s x:Operand} {t t':TypeId} (ho:o.op = .call ⟨.builtin .append,args,ats⟩) (ha:args.toList=[s,x]) (hat:ats.toList=[t,t']) (h:qp6 P σ o s x t t' k=some res):EfR P F σ γ a w o k res Q:=by
  have ha':args = #[s,x]:=by rw[←Array.toList_inj,ha]
  have hat':ats = #[t,t']:=by rw[←Array.toList_inj,hat]
  subst ha';subst hat';simp only[qp6,Option.bind_eq_some_iff,chk_some,req_some,Bool.and_eq_true,Bool.not_eq_true',decide_eq_true_eq] at h;obtain⟨i,hu,τ,hτ,z,hz,b,h1,u,h3,⟨ki,n⟩,h4,inf,hinf,⟨hb,hint,hkd,hby,hpure⟩,⟨hn,hroom⟩,σ',h7,h8⟩:=h;have hu:=qG hu;obtain⟨inf',zv,hi,hzv,hsz,hzs,hpos,hzr⟩:=qbi hz;rw[hinf] at hi;cases hi;obtain⟨hr1,hr2⟩:=qfh hroom hby;have hbv:b = .c (.v (.slice none 0 0)):=by
    split at hb
    · rfl
    · cases hb
  subst hbv;have e1:a.eval s = .slice none 0 0:=qg r (qj σ) h1;have e2:=qbv r (qj σ) h3 h4;have hkd':ki = .i64:=qaZ hkd;simp only at hkd' hn;subst hkd';obtain⟨k2,hu'⟩:∃k2,P.underlying t'=some (.int k2):=by
    unfold isIntT at hint;split at hint
    · exact⟨_,‹_›⟩
    · cases hint
  have hbase:qlV σ.objs σ.prO i τ (.v (.slice none 0 0))=some ([],σ.objs):=rfl;obtain⟨M0,us0,hcons,hown0,_⟩:=qer r hbase (show VR σ.objs γ w (.v (.slice none 0 0)) (.slice none 0 0) from rfl);have hM0:M0=[]:=by
    rcases hown0 with ⟨h,_⟩ | ⟨b,cap,cur,_,h,_⟩
    · exact h
    · cases h
  subst hM0;have hrun:=qp7 (w:=w) (ty:=o.type) hu hu' hinf hzv (by rw[hsz];exact hpos) hn hr1 hr2;have hzc:∀m,(Builtin.zeroCells zv.cells m).toList=(List.replicate m zv.cells.toList).flatten:=fun m=>by
    rw[←qdF _ (by rw[hzs];exact hpos) m];rfl
  have hrep:RepL (fun x c=>Rep w (Imm σ.objs γ w) τ x [] c) (List.replicate n.toNat z) (Builtin.zeroCells zv.cells n.toNat).toList:=by
    rw[hzc];exact RepL.replicate (R:=fun x c=>Rep w (Imm σ.objs γ w) τ x [] c) (hzr w _) _
  refine qjM r hcons (M':=[w.heap.size]) (w':=w.drew.alloc (.cells (Builtin.zeroCells zv.cells n.toNat++Builtin.zeroCells zv.cells (grownCap w n.toNat 0 i-n.toNat)) i)) ?_ (.inr ⟨rfl,?_⟩) (zs:=List.replicate n.toNat z) (us:=(Builtin.zeroCells zv.cells n.toNat).toList)
    (.inr ⟨w.heap.size,grownCap w n.toNat 0 i,_,rfl,by rw[List.length_replicate],Row.of (heap_alloc_new w.drew _),by rw[List.length_replicate];exact grownCap_ge w _ _ _,grownCap_le_maxLen w _ _ _ (by unfold maxLen;omega),?_,?_⟩) hrep ?_ h7 h8
  · have:=qb4 w.drew (.cells (Builtin.zeroCells zv.cells n.toNat++Builtin.zeroCells zv.cells (grownCap w n.toNat 0 i-n.toNat)) i);exact⟨this.os,this.tape,this.output,this.size,this.block,fun e=>Nat.le_trans (Nat.le_succ _) (this.drawn e)⟩
  · have:=qbu w.drew (.cells (Builtin.zeroCells zv.cells n.toNat++Builtin.zeroCells zv.cells (grownCap w n.toNat 0 i-n.toNat)) i);rw[this];show w.heap.size<w.heap.size+1;omega
  · have hge:=grownCap_ge w n.toNat 0 i;simp only[Array.size_append,size_zeroCells,hzs,←Nat.add_mul];congr 1;omega
  · rw[Array.toList_append,List.length_replicate]
    have hl:(Builtin.zeroCells zv.cells n.toNat).toList.length=n.toNat*τ.size:=by simp[size_zeroCells,hzs]
    rw[←hl];exact List.take_left
  · obtain⟨dst,op,type,pos,after,guard⟩:=o;simp only at ho;subst ho;rw[BigFrame.execOp_builtin,BigFrame.builtin_append]
    have:(#[s,x].map a.eval) = #[.slice none 0 0,.int .i64 n]:=by simp only[List.map_toArray,List.map_cons,List.map_nil,e1,e2]
    rw[this];simp only[Sem.run_bind,hrun,Result.andThen_ok,Sem.run_pure,List.length_replicate]
theorem EfR.toA {v:Value} (hrun:(execOp a.eval o).run P w = .ok (.value v) w) (h:EfR P F σ γ a w o k res Q):EfA P F σ γ a w o k res Q:=by
  unfold EfR Oper.wp at h;unfold EfA Oper.wp;rw[hrun] at h ⊢;exact⟨Chg.refl _ _,h⟩
theorem qsa {t:TypeId} {ar:Nat×TypeId} (h:arrOf P t=some ar):P.underlying t=some (.array ar.1 ar.2):=by
  obtain⟨u,h1,h2⟩:=Option.bind_eq_some_iff.1 h
  cases u<;>simp at h2
  rw[h1,←h2]
theorem qlS {objs:List OB}:∀(τ:Ty) (l:List Cv),τ.flat=true→idsD objs τ l=[]
  | .int _,_,_=>rfl
  | .bool,_,_=>rfl
  | .str,_,_=>rfl
  | .nil,_,_=>rfl
  | .sl _,_,h=>by cases h
  | .osl _ _,_,h=>by cases h
  | .onl _ _,_,h=>by cases h
  | .obx _,_,h=>by cases h
  | .err,_,h=>by cases h
  | .bld _ _,_,h=>by cases h
  | .st f r,l,h=>by
    simp only[Ty.flat,Bool.and_eq_true] at h;simp only[idsD,qlS f _ h.1,qlS r _ h.2,List.append_nil]
theorem qlM {objs:List OB} {S:Sp} (r:ORel F objs γ w) (hS:Sp.le (Imm objs γ w) S) {τ:Ty} (hf:τ.flat=true):∀ {n:Nat} {cs:List Cv} {xs:List (D τ)} {vs:List Value},qo5 objs τ n cs=some xs→VRL objs γ w cs vs→n*τ.size≤vs.length →
    xs.length=n∧RepL (fun x c=>Rep w S τ x [] c) xs (vs.take (n*τ.size))
  | 0,cs,xs,vs,h,_,_=>by
    simp only[qo5,Option.some.injEq] at h;subst h;exact⟨rfl,by simp[RepL]⟩
  | n+1,cs,xs,vs,h,hv,hl=>by
    simp only[qo5,Option.bind_eq_some_iff,Option.some.injEq] at h;obtain⟨x,h1,q,h2,rfl⟩:=h;rw[Nat.add_mul,Nat.one_mul] at hl;obtain⟨h3,_⟩:=qaN (S:=S) r hS τ h1 (hv.take τ.size) (fun o ho=>by rw[qlS τ _ hf] at ho;cases ho);rw[Ty.pure_ids τ (qi7 τ hf)] at h3;obtain⟨h4,h5⟩:=qlM r hS hf h2 (hv.drop τ.size) (by rw[List.length_drop];omega);refine⟨by simp[h4],vs.take τ.size,_,?_,h3,h5⟩;rw[Nat.add_mul,Nat.one_mul,Nat.add_comm,List.take_add]
theorem qrk (r:Rel F σ γ a w) {own vw:Bool} {t:TypeId} {x:Operand} {lo hi:Option Operand} (ho:o.op = .slice t x lo hi none) (h:sliceE P σ own vw o t x lo hi k=some res):EfA P F σ γ a w o k res Q:=by
  simp only[sliceE,Option.bind_eq_some_iff] at h;obtain⟨pv,h1,c,h2,h3⟩:=h;have hpv:=qa7 h2;subst hpv
  cases c with
  | os p =>
    simp only[Option.bind_eq_some_iff] at h3;obtain⟨i,hu,ob,hob,h4⟩:=h3;have hu:=qG hu
    cases ob with
    | arr i' e xs fz =>
      simp only[chk_some] at h4;obtain⟨hc,h5⟩:=h4;obtain⟨inf,hinf,hsz⟩:=qaA hc;obtain⟨hlt,e1,ao0,n0,c0,e2⟩:=qg r (qj σ) h1;obtain⟨us,hown,hrep⟩:=r.o.rep p _ hob;have hval:∃ao cap,a.eval x = .slice ao xs.length cap∧xs.length≤cap∧(xs≠[]→∃b,ao=some ⟨b,0,none⟩∧(γ p).2=some b∧CellsAt w ⟨b,0,none⟩ us):=by
        by_cases hx:xs=[]
        · rcases hown with ⟨_,⟨ao,h6⟩,h7,_⟩ | ⟨b,cap,cur,_,h6,_,h7,_⟩
          · exact⟨ao,0,by rw[e1,h6,h7],by omega,fun hn=>absurd hx hn⟩
          · exact⟨_,cap,by rw[e1,h6],h7,fun hn=>absurd hx hn⟩
        · obtain⟨b,cap,h6,h7,h8,h9⟩:=hown.cells (fun hl=>hx (List.eq_nil_of_length_eq_zero hl));exact⟨_,cap,by rw[e1,h7],h8,fun _=>⟨b,rfl,toList_some h6,h9⟩⟩
      obtain⟨ao,cap,ev,hcap,hne⟩:=hval;by_cases hvw:(vw||(own&&lo.isSome))=true
      · simp only[hvw,cond_true,Option.bind_eq_some_iff,req_some] at h5;obtain⟨l,hl,hh,hhh,hb,σ',h6,h7⟩:=h5;have hrun:=qgU (P:=P) (a:=a) hu hinf ho ev (qco r (qj σ) hl) (qco r (qj σ) hhh) hb hcap w;rw[hsz] at hrun;simp only[qM,Bool.and_eq_true,decide_eq_true_eq] at hb
        have hγ:(γ p).1 = .slice ao xs.length cap:=by rw[←e1,ev]
        obtain⟨g1,g2⟩:=qbm r (Keep.refl _ _ _) r.o (fun o ti e xs fz h _=>⟨ti,e,xs,fz,h,rfl⟩) (fun _ _ _=>rfl) h6
          (v := .slice (if cap=l.toNat then ao else ao.map (·.add (l.toNat*e.size))) (hh.toNat-l.toNat) (cap-l.toNat))
          ⟨hlt,ao,xs.length,cap,_,_,hγ,by omega,rfl,by omega,fun hpos=>by
            obtain⟨b,h8,h9,_⟩:=hne (fun hx=>by subst hx;simp at hb;omega);refine⟨b,h9,?_⟩;rw[if_neg (by omega),h8,Option.map_some,qbq,Nat.zero_add],by omega,fun h0=>by
            rw[h0,Nat.zero_mul];split
            · rfl
            · cases ao<;>simp[Addr.add]⟩
        exact EfA.val hrun (Chg.refl _ _) h7 g1 g2
      rw[Bool.not_eq_true] at hvw;simp only[hvw,cond_false] at h5
      cases own with
      | false =>
        simp only[cond_false,Option.bind_eq_some_iff,req_some] at h5;obtain⟨objs1,hf,l,hl,hh,hhh,hb,σ',h6,h7⟩:=h5;obtain⟨f1,f2⟩:=qaB r.o hf;have hrun:=qgU (P:=P) (a:=a) hu hinf ho ev (qco r (qj σ) hl) (qco r (qj σ) hhh) hb hcap w;rw[hsz] at hrun;have hrep1:RepL (fun x c=>Rep w (Imm objs1 γ w) e x [] c) xs us:=RepL.keep f1.keep hrep
        have hsl:=qpJ (S:=Imm objs1 γ w) (ao:=ao) hcap hrep1 (fun hn=>by
          obtain⟨b,h8,h9,h10⟩:=hne hn
          exact⟨_,h8,f2 p (by simp) b h9,h10⟩) hb
        obtain⟨g1,g2⟩:=qbm r f1.keep f1.o f1.same (fun o' _ hp=>f1.prot o' hp) h6 hsl;exact EfA.val hrun (Chg.refl _ _) h7 g1 g2
      | true =>
        simp only[cond_true,chk_some,Bool.and_eq_true,Bool.not_eq_true',Option.bind_eq_some_iff,req_some] at h5;obtain⟨⟨hfz,hpr,hlo⟩,hh,hhh,hb,σ',h6,h7⟩:=h5;subst hfz
        have hlo:lo=none:=by simpa using hlo
        subst hlo;have hrun:=qgU (P:=P) (a:=a) hu hinf ho ev (l:=0) (.inl ⟨rfl,rfl⟩) (qco r (qj σ) hhh) hb hcap w;simp only[qM,Bool.and_eq_true,decide_eq_true_eq] at hb
        have hhl:hh.toNat≤xs.length:=by omega
        have hv:(Value.slice (if cap=(0:Int).toNat then ao else ao.map (·.add ((0:Int).toNat*inf.size))) (hh.toNat-(0:Int).toNat) (cap-(0:Int).toNat)) = .slice ao hh.toNat cap:=by
          have:(if cap=(0:Int).toNat then ao else ao.map (·.add ((0:Int).toNat*inf.size)))=ao:=by
            split
            · rfl
            · cases ao<;>simp[Addr.add]
          rw[this];simp
        rw[hv] at hrun
        have htl:(xs.take hh.toNat).length=hh.toNat:=by simp;omega
        refine EfR.toA hrun (qjM (M0:=(γ p).2.toList) (M':=(γ p).2.toList) (us:=us.take (hh.toNat*e.size)) (w':=w) r (.yes p _ hob rfl hpr) (Chg.refl _ _) (.inl rfl) ?_ (hrep.take (Rep.slen e) hh.toNat) hrun (by simpa using h6) h7);rw[htl];rw[←e1] at hown;rw[ev] at hown;rcases hown with ⟨h8,⟨ao2,h9⟩,h10,h11⟩ | ⟨b,cap2,cur,h8,h9,h10,h11,h12,h13,h14⟩
        · simp only[Value.slice.injEq] at h9;refine .inl ⟨h8,⟨ao,?_⟩,by omega,by rw[h11];simp⟩;rw[show hh.toNat=0 by omega,h9.2.2]
        · simp only[Value.slice.injEq] at h9;obtain⟨rfl,_,rfl⟩:=h9;refine .inr ⟨b,cap,cur,h8,rfl,h10,by omega,h12,h13,?_⟩;rw[←h14,List.take_take];congr 1;exact(Nat.min_eq_left (Nat.mul_le_mul_right _ hhl)).symm
    | _=>simp at h4
  | ptr p off =>
    simp only[Option.bind_eq_some_iff] at h3;obtain⟨ar,har,τ,hτ,ob,hob,h4⟩:=h3;have hu:=qsa har
    cases ob with
    | box cs =>
      simp only[chk_some,Bool.and_eq_true,Bool.not_eq_true',Option.bind_eq_some_iff] at h4;obtain⟨⟨hlo,hhi,hpr,hfl,hc,hfit⟩,xs,hxs,σ',h6,h7⟩:=h4
      have hlo:lo=none:=by simpa using hlo
      have hhi:hi=none:=by simpa using hhi
      subst hlo;subst hhi;have hfit:=Nat.le_of_ble_eq_true hfit;obtain⟨inf,hinf,hsz⟩:=qaA hc;obtain⟨hlt,b,hgb,e1⟩:=qg r (qj σ) h1;obtain⟨b',T,cells,hg,hheap,hvl⟩:=r.o.rep p _ hob
      have hbb:b'=b:=by rw[hg] at hgb;simpa using hgb
      subst hbb;have hm:Mut σ.objs p:=⟨_,hob,rfl⟩;have hdead:¬Mut (σ.objs.set p (.fbx cs)) p:=by
        rintro ⟨ob2,h8,h9⟩
        rw[List.getElem?_set_self hlt] at h8;cases h8;cases h9
      have hmu:∀o',Mut (σ.objs.set p (.fbx cs)) o'→Mut σ.objs o'∧o'≠p:=fun o' hm'=>by
        have hne:o'≠p:=fun e=>hdead (e▸hm');obtain⟨ob2,h8,h9⟩:=hm';rw[List.getElem?_set,if_neg (fun e=>hne e.symm)] at h8;exact⟨⟨ob2,h8,h9⟩,hne⟩
      have himm:Imm (σ.objs.set p (.fbx cs)) γ w b':=⟨qel hheap,r.o.up b' (r.o.own p b' hm hgb),fun o' hm' hb=>by
        obtain⟨h8,h9⟩:=hmu o' hm'
        exact h9 (r.o.inj o' p b' h8 hm hb hgb),r.o.bo p b' hm hgb⟩
      obtain⟨hor,K⟩:=qkY (ob := .fbx cs) (w':=w) (Chg.refl _ _) r.o hm hgb (fun _ _ _ e=>by cases e) (fun K=>⟨b',T,cells,hg,hheap,VRL.keep K hvl.below hvl,himm⟩);have hcl:cells.toList.length=cs.length:=hvl.length;obtain⟨hxl,hrep⟩:=qlM (S:=Imm (σ.objs.set p (.fbx cs)) γ w) r.o K.imm hfl hxs (hvl.drop off) (by rw[List.length_drop];omega);have hrun:(execOp a.eval o).run P w = .ok (.value (.slice (some ⟨b',off,none⟩) ar.1 ar.1)) w:=by
        have hal:P.arrayLen t=ar.1:=by simp[Program.arrayLen,hu]
        have hel:P.elem t=ar.2:=by simp[Program.elem,hu]
        have hsr:(sizeOf ar.2).run P w = .ok inf.size w:=by simp[sizeOf,typeInfo,hinf,go_sem]
        have hs:=run_sliceAt_array_all (P:=P) w t ⟨b',off,none⟩ (by rw[hal,hel];exact hu);rw[hel,hsr,hal] at hs;simp only[Result.andThen_ok,slicedAt,Nat.sub_zero] at hs;have ead:(if ar.1=0 then(⟨b',off,none⟩:Addr) else Addr.add ⟨b',off,none⟩ (0*inf.size))=⟨b',off,none⟩:=by
          split
          · rfl
          · simp[Addr.add]
        rw[ead] at hs;obtain⟨dst,op',type,pos,after,guard⟩:=o;simp only at ho;subst ho;simp only[execOp,e1,Option.map_none,Sem.run_bind,hs,Result.andThen_ok,Sem.run_pure]
      obtain⟨g1,g2⟩:=qqB r K hor (fun o' _ hp=>qA (fun e=>by subst e;rw[hpr] at hp;cases hp)) h6
        (v := .slice (some ⟨b',off,none⟩) ar.1 ar.1) ⟨rfl,some ⟨b',off,none⟩,ar.1,_,by rw[hxl],by omega,hrep,fun _=>⟨_,rfl,himm,CellsAt.take (qb3 hheap off) _⟩⟩
      exact EfA.val hrun (Chg.refl _ _) h7 g1 g2
    | _=>simp at h4
  | _=>simp at h3

theorem qfK {objs:List OB} {p:Nat} {ti:TypeId} {e:Ty} {xs ys:List (D e)} {f g:Bool} (h:objs[p]?=some (.arr ti e xs f)) (hl:ys.length=xs.length):SameLen objs (objs.set p (.arr ti e ys g)):=fun o ti' e' xs' fz hx hlt=>by
  rw[List.getElem?_set] at hx;by_cases e2:p=o
  · subst e2;rw[if_pos rfl,if_pos hlt] at hx;cases hx;exact⟨_,_,_,_,h,hl.symm⟩
  · rw[if_neg e2] at hx;exact⟨_,_,_,_,hx,rfl⟩
theorem ef_clear (r:Rel F σ γ a w) {args:Array Operand} {ats:Array TypeId} {x:Operand} {t:TypeId} (ho:o.op = .call ⟨.builtin .clear,args,ats⟩) (ha:args.toList=[x]) (hat:ats.toList=[t]) (h:clearE P σ o x t k=some res):EfR P F σ γ a w o k res Q:=by
  have ha':args = #[x]:=by rw[←Array.toList_inj,ha]
  have hat':ats = #[t]:=by rw[←Array.toList_inj,hat]
  subst ha';subst hat';simp only[clearE,Option.bind_eq_some_iff] at h;obtain⟨i,hu,pv,h1,h2⟩:=h;have hu:=qG hu;split at h2
  · rename_i p sz lo n;simp only[Option.bind_eq_some_iff] at h2;obtain⟨ob,hob,h3⟩:=h2
    cases ob with
    | arr ti e xs fz =>
      cases fz with
      | true=>simp at h3
      | false =>
      simp only[chk_some,Bool.and_eq_true,Bool.not_eq_true',Option.bind_eq_some_iff] at h3;obtain⟨⟨hpr,hsz⟩,z,hz,σ',h4,h5⟩:=h3;have hsz:=Nat.eq_of_beq_eq_true hsz;subst hsz;obtain⟨inf,zv,hi,hzv,hisz,hzs,hpos,hzr⟩:=qbi hz;obtain⟨hlt,ao0,n0,c0,ao,cap,hg,hlo,e1,hcap,hne,_⟩:=qg r (qj σ) h1;obtain⟨us,hown,hrep⟩:=r.o.rep p _ hob;have hn0:n0=xs.length:=by
        rcases hown with ⟨_,⟨ao1,h10⟩,h11,_⟩ | ⟨b1,cap1,cur,_,h10,_⟩
        · rw[hg] at h10;simp only[Value.slice.injEq] at h10;omega
        · rw[hg] at h10;simp only[Value.slice.injEq] at h10;exact h10.2.1
      have hxl:(xs.take lo++(List.replicate n z++xs.drop (lo+n))).length=xs.length:=by simp;omega
      have hbase:∀w',(Builtin.clear_ #[t] o.type #[.slice ao n cap]).run P w = .ok (.tuple #[]) w'→(execOp a.eval o).run P w = .ok (.value (.tuple #[])) w':=fun w' hr=>by
        obtain⟨dst,op,type,pos,after,guard⟩:=o;simp only at ho;subst ho;rw[BigFrame.execOp_builtin,BigFrame.builtin_clear]
        have:(#[x].map a.eval) = #[.slice ao n cap]:=by simp only[List.map_toArray,List.map_cons,List.map_nil,e1]
        rw[this];simp only[Sem.run_bind,hr,Result.andThen_ok,Sem.run_pure]
      have hget:a.eval x = .slice ao n cap:=e1;by_cases hn:n=0
      · subst hn
        have hrun:=hbase w (by cases ao<;>simp[Builtin.clear_,run_underlying hu])
        have hsame:σ.objs.set p (.arr ti e (xs.take lo++(List.replicate 0 z++xs.drop (lo+0))) false)=σ.objs:=by
          rw[List.replicate_zero,List.nil_append,Nat.add_zero,List.take_append_drop];apply List.ext_getElem?;intro j;rw[List.getElem?_set];by_cases hj:p=j
          · subst hj;rw[if_pos rfl,if_pos hlt,hob]
          · rw[if_neg hj]
        rw[hsame] at h4;obtain⟨g1,g2⟩:=qbm r (Keep.refl _ _ _) r.o (fun o ti e xs fz h _=>⟨ti,e,xs,fz,h,rfl⟩) (fun _ _ _=>rfl) h4 (v := .tuple #[]) ⟨#[],rfl,rfl⟩;exact EfR.val hrun h5 g1 g2
      · obtain⟨b,hg2,rfl⟩:=hne (by omega);rcases hown with ⟨h8,_⟩ | ⟨b1,cap1,cur1,h8,h9,h10,h11,h12,h13,h14⟩
        · rw[hg2] at h8;cases h8
        have hb1:b1=b:=by
          have:=toList_some h8;rw[this] at hg2;simpa using hg2
        subst hb1;have hzc:(Builtin.zeroCells zv.cells n).toList=(List.replicate n zv.cells.toList).flatten:=by
          rw[←qdF _ (by rw[hzs];exact hpos) n];rfl
        have hzl:((List.replicate n zv.cells.toList).flatten).length=n*e.size:=by simp[hzs]
        have hle:(lo+n)*e.size≤xs.length*e.size:=Nat.mul_le_mul_right _ (by omega)
        have hcl:xs.length*e.size≤cur1.size:=by rw[h13];exact Nat.mul_le_mul_right _ h11
        rw[Nat.add_mul] at hle;have hone:∀u∈(List.replicate n zv.cells.toList).flatten,u.oneCell'=true:=fun u hu'=>by
          obtain⟨l,hl,hul⟩:=List.mem_flatten.1 hu';rw[List.eq_of_mem_replicate hl] at hul;exact Rep.one e (hzr w ⟨fun _=>True,fun _=>none⟩) u hul
        have hst:=qf5 (P:=P) h10 (lo*e.size) ((List.replicate n zv.cells.toList).flatten) (by rw[hzl];omega) hone
        have hzv':(zeroValue i).run P w = .ok zv w:=by simp[zeroValue,typeInfo,hi,hzv,go_sem]
        have hrun:=hbase (w.setRow b1 (cur1.toList.take (lo*e.size)++(List.replicate n zv.cells.toList).flatten++cur1.toList.drop (lo*e.size+((List.replicate n zv.cells.toList).flatten).length)).toArray) (by
          obtain⟨m,rfl⟩:∃m,n=m+1:=⟨n-1,by omega⟩;rw[←hzc] at hst ⊢;generalize hcs:zv.cells=zc at hst ⊢;simp[Builtin.clear_,run_underlying hu,hzv',hcs];rw[hst]
          simp)
        have hrep':RepL (fun x c=>Rep w (Imm σ.objs γ w) e x [] c) (xs.take lo++(List.replicate n z++xs.drop (lo+n))) (us.take (lo*e.size)++((List.replicate n zv.cells.toList).flatten++us.drop ((lo+n)*e.size))) :=
          (hrep.take (Rep.slen e) lo).append ((RepL.replicate (R:=fun x c=>Rep w (Imm σ.objs γ w) e x [] c) (hzr w _) n).append (hrep.drop (Rep.slen e) (lo+n)))
        obtain⟨hor,K⟩:=qik (ob := .arr ti e (xs.take lo++(List.replicate n z++xs.drop (lo+n))) false) (cs:=(cur1.toList.take (lo*e.size)++(List.replicate n zv.cells.toList).flatten++cur1.toList.drop (lo*e.size+((List.replicate n zv.cells.toList).flatten).length)).toArray) r.o ⟨_,hob,rfl⟩ hg2 rfl (fun K=>by
          refine⟨_,.inr ⟨b1,cap1,_,h8,?_,h10.set _ (by simp only[List.size_toArray,List.length_append,List.length_take,List.length_drop,Array.length_toList,hzl];omega),?_,h12,?_,?_⟩,RepL.keep K hrep'⟩
          · rw[h9,hxl]
          · rw[hxl];exact h11
          · simp only[List.size_toArray,List.length_append,List.length_take,List.length_drop,Array.length_toList,hzl];omega
          · rw[hxl,hzl,←h14,List.toList_toArray,List.append_assoc,List.take_append,List.take_append]
            have l1:(List.take (lo*e.size) cur1.toList).length=lo*e.size:=by simp;omega
            rw[l1,hzl,List.take_of_length_le (by rw[l1];omega),List.take_of_length_le (l:=(List.replicate n zv.cells.toList).flatten) (by rw[hzl];omega),List.take_take,Nat.min_eq_left (by omega)];congr 2;rw[List.drop_take,Nat.add_mul];congr 1
            omega)
        obtain⟨g1,g2⟩:=qbm r K hor (qfK hob hxl) (fun o' _ hp'=>qA (fun e=>by subst e;rw[hpr] at hp';cases hp')) h4 (v := .tuple #[]) ⟨#[],rfl,rfl⟩;exact EfR.val hrun h5 g1 g2
    | _=>simp at h3
  · cases h2

theorem qrN {P:Program} {w:World} {dT sT ty elem:TypeId} {g o dLen dCap:Nat} {a:Addr} {sLen sCap k:Nat} {cur:Array Value} {t:TypeId} {cs:List Value}
    (hu:P.underlying dT=some (.slice elem)) {inf:TypeInfo} (hi:P.info? elem=some inf) (hk:inf.size=k) (hg:Row w g cur t) (hn:cs.length=Nat.min sLen dLen*k)
    (hsrc:CellsAt w a cs) (hfit:o+cs.length≤cur.size) (h1:∀v∈cs,v.oneCell'=true) :
    (Builtin.copy_ #[dT,sT] ty #[.slice (some ⟨g,o,none⟩) dLen dCap,.slice (some a) sLen sCap]).run P w =
      .ok (goInt (Nat.min sLen dLen)) (w.setRow g (cur.toList.take o++cs++cur.toList.drop (o+cs.length)).toArray):=by
  have hl:=run_loadCells_list (P:=P) w a cs hsrc;have hst:=qf5 (P:=P) hg o cs hfit h1;simp[Builtin.copy_,run_underlying hu,Builtin.lenOf,Builtin.firstCells,sizeOf,typeInfo,hi,hk,←hn,hl,hst]
theorem qr5 (r:ORel F σ.objs γ w) {pv:PV} {v:Value} {q:Nat×Nat×Nat} {ti:TypeId} {e:Ty} {xs:List (D e)} {fz:Bool} (h:dstOf σ.objs pv=some q) (hob:σ.objs[q.1]?=some (.arr ti e xs fz)) (hsz:∀p sz lo n,pv = .vw p sz lo n→sz=e.size) (hv:PR σ.objs γ w pv v) (hn:0<q.2.2) :
    q.2.1+q.2.2≤xs.length∧∃b cap,(γ q.1).2=some b∧v = .slice (some ⟨b,q.2.1*e.size,none⟩) q.2.2 cap:=by
  unfold dstOf at h;split at h
  · rename_i p;obtain⟨ob,hob2,h2⟩:=Option.bind_eq_some_iff.1 h
    cases ob with
    | arr ti2 e2 xs2 fz2 =>
      simp only[Option.some.injEq] at h2;subst h2;simp only at hob hn ⊢;rw[hob2] at hob;cases hob;obtain⟨b,cap,us,h3,h4,_⟩:=qjH r hob2 (fun h0=>by rw[h0] at hn;simp at hn);obtain⟨_,e1,_⟩:=hv;exact⟨by omega,b,cap,h3,by rw[e1,h4,Nat.zero_mul]⟩
    | _=>simp at h2
  · rename_i p sz lo n;simp only[Option.some.injEq] at h;subst h;simp only at hob hn ⊢;have hs:=hsz _ _ _ _ rfl;subst hs;obtain⟨hlt,ao0,n0,c0,ao,cap,hg,hlo,e1,hcap,hne,_⟩:=hv;have hn0:=ObR.len (r.rep p _ hob) hg;obtain⟨b,hg2,rfl⟩:=hne hn;exact⟨by omega,b,cap,hg2,e1⟩
  · cases h
theorem qsx (r:ORel F σ.objs γ w) {pv:PV} {v:Value} {e:Ty} {ys:List (D e)} (h:cpyOf σ.objs e pv=some ys) (hv:PR σ.objs γ w pv v) (hn:0<ys.length) :
    ∃ad cap sl us,v = .slice (some ad) sl cap∧sl=ys.length∧CellsAt w ad us∧RepL (fun x c=>Rep w (Imm σ.objs γ w) e x [] c) ys us:=by
  have hne:ys≠[]:=fun h0=>by rw[h0] at hn;simp at hn
  unfold cpyOf at h;split at h
  · obtain⟨ao,cap,us,e1,h1,h2⟩:=srcOf r h hv;obtain⟨ad,rfl,h3⟩:=h2 hne;exact⟨ad,cap,_,us,e1,rfl,h3,h1⟩
  · rename_i q sz lo n;obtain⟨ob,hob,h2⟩:=Option.bind_eq_some_iff.1 h
    cases ob with
    | arr ti e2 xs fz =>
      simp only[chk_some,Option.bind_eq_some_iff,Option.some.injEq] at h2;obtain⟨hs,zs,h3,rfl⟩:=h2;have hs:=Nat.eq_of_beq_eq_true hs;subst hs;obtain⟨rfl,h3⟩:=qaD h3;subst h3;simp only at hn hne ⊢
      have hxs:xs≠[]:=fun h0=>by simp[h0] at hn
      obtain⟨hlt,ao0,n0,c0,ao,cap,hg,hlo,e1,hcap,hne2,_⟩:=hv;have hn0:=ObR.len (r.rep q _ hob) hg;obtain⟨b,cap2,us,h4,h5,h6,h7,h8⟩:=qjH r hob hxs;have hnpos:0<n:=by
        simp only[List.length_take,List.length_drop] at hn;omega
      obtain⟨b2,hg2,rfl⟩:=hne2 hnpos
      have hbb:b2=b:=by rw[h4] at hg2;simpa using hg2.symm
      subst hbb;refine⟨_,cap,n,(us.drop (lo*e2.size)).take (n*e2.size),e1,?_,?_,?_⟩
      · simp only[List.length_take,List.length_drop];omega
      · have:=CellsAt.take (CellsAt.drop h7 (lo*e2.size)) (n*e2.size)
        rwa [show(⟨b2,0,none⟩:Addr).add (lo*e2.size)=⟨b2,lo*e2.size,none⟩ by simp[Addr.add];intro h;exact h.symm] at this
      · exact(h8.drop (Rep.slen e2) lo).take (Rep.slen e2) n
    | _=>simp at h2
  · cases h
theorem ef_copy (r:Rel F σ γ a w) {args:Array Operand} {ats:Array TypeId} {d s:Operand} {t t2:TypeId} (ho:o.op = .call ⟨.builtin .copy,args,ats⟩) (ha:args.toList=[d,s]) (hat:ats.toList=[t,t2]) (h:copyE P σ o d s t k=some res):EfR P F σ γ a w o k res Q:=by
  have ha':args = #[d,s]:=by rw[←Array.toList_inj,ha]
  have hat':ats = #[t,t2]:=by rw[←Array.toList_inj,hat]
  subst ha';subst hat';simp only[copyE,Option.bind_eq_some_iff] at h;obtain⟨i,hu,dv,h1,sv,h2,q,hq,ob,hob,h3⟩:=h;have hu:=qG hu
  cases ob with
  | arr ti e xs fz =>
    cases fz with
    | true=>simp at h3
    | false =>
      simp only[chk_some,req_some,Bool.and_eq_true,Bool.not_eq_true',Option.bind_eq_some_iff] at h3;obtain⟨⟨hpr,hci,hdz⟩,ys,hys,⟨hy0,hq0⟩,σ',h4,h5⟩:=h3;have hy0:0<ys.length:=Nat.le_of_ble_eq_true hy0;have hq0:0<q.2.2:=Nat.le_of_ble_eq_true hq0;obtain⟨inf,hi,hisz⟩:=qaA hci;have hvd:=qg r (qj σ) h1;have hvs:=qg r (qj σ) h2;obtain⟨ad,cap2,sl,us2,es,hsl,hcells,hrep2⟩:=qsx r.o hys hvs hy0;obtain⟨hlo,b,cap,hgb,ed⟩:=qr5 r.o hq hob (fun p sz lo n hh=>by rw[hh] at hdz;exact Nat.eq_of_beq_eq_true hdz) hvd hq0;subst hsl;obtain⟨us,hown,hrep⟩:=r.o.rep q.1 _ hob;rcases hown with ⟨h8,_⟩ | ⟨b1,cap1,cur1,h8,h9,h10,h11,h12,h13,h14⟩
      · rw[hgb] at h8;cases h8
      have hb1:b1=b:=by
        have:=toList_some h8;rw[this] at hgb;simpa using hgb
      subst hb1;obtain⟨m,hm⟩:∃m,min ys.length q.2.2=m:=⟨_,rfl⟩
      have hm1:m≤ys.length:=by omega
      have hm2:m≤q.2.2:=by omega
      have hul:us2.length=ys.length*e.size:=RepL.length (Rep.slen e) hrep2;have hmul:m*e.size≤ys.length*e.size:=Nat.mul_le_mul_right _ hm1
      have hcl:(us2.take (m*e.size)).length=m*e.size:=by rw[List.length_take,hul];omega
      have hle:(q.2.1+m)*e.size≤xs.length*e.size:=Nat.mul_le_mul_right _ (by omega)
      have hcl2:xs.length*e.size≤cur1.size:=by rw[h13];exact Nat.mul_le_mul_right _ h11
      rw[Nat.add_mul] at hle;have hyt:ys.take q.2.2=ys.take m:=by
        rw[←hm];by_cases hc:ys.length≤q.2.2
        · rw[Nat.min_eq_left hc,List.take_of_length_le hc,List.take_length]
        · rw[Nat.min_eq_right (by omega)]
      rw[hm,hyt] at h4
      have hxl:(xs.take q.2.1++(ys.take m++xs.drop (q.2.1+m))).length=xs.length:=by simp;omega
      have hone:∀u∈us2.take (m*e.size),u.oneCell'=true:=fun u hu'=>RepL.all (p:=fun u=>u.oneCell') (fun x c hx u hu=>Rep.one e hx u hu) hrep2 u (List.mem_of_mem_take hu');have hrun0:=qrN (P:=P) (dT:=t) (sT:=t2) (ty:=o.type) (dLen:=q.2.2) (dCap:=cap) (sLen:=ys.length) (sCap:=cap2) (o:=q.2.1*e.size) hu hi hisz h10 (cs:=us2.take (m*e.size)) (by rw[hcl,←hm]) (CellsAt.take hcells (m*e.size)) (by rw[hcl];omega) hone;have hrun:(execOp a.eval o).run P w = .ok (.value (.int .i64 ((m:Nat):Int))) (w.setRow b1 (cur1.toList.take (q.2.1*e.size)++us2.take (m*e.size)++cur1.toList.drop (q.2.1*e.size+(us2.take (m*e.size)).length)).toArray):=by
        obtain⟨dst,op,type,pos,after,guard⟩:=o;simp only at ho;subst ho;rw[BigFrame.execOp_builtin,BigFrame.builtin_copy]
        have:(#[d,s].map a.eval) = #[.slice (some ⟨b1,q.2.1*e.size,none⟩) q.2.2 cap,.slice (some ad) ys.length cap2]:=by simp only[List.map_toArray,List.map_cons,List.map_nil,ed,es]
        rw[this];simp only at hrun0;simp only[Sem.run_bind,hrun0,Result.andThen_ok,Sem.run_pure];rw[show Nat.min ys.length q.2.2=m from hm];rfl
      have hrep':RepL (fun x c=>Rep w (Imm σ.objs γ w) e x [] c) (xs.take q.2.1++(ys.take m++xs.drop (q.2.1+m))) (us.take (q.2.1*e.size)++(us2.take (m*e.size)++us.drop ((q.2.1+m)*e.size))) :=
        (hrep.take (Rep.slen e) q.2.1).append ((hrep2.take (Rep.slen e) m).append (hrep.drop (Rep.slen e) (q.2.1+m)))
      obtain⟨hor,K⟩:=qik (ob := .arr ti e (xs.take q.2.1++(ys.take m++xs.drop (q.2.1+m))) false) (cs:=(cur1.toList.take (q.2.1*e.size)++us2.take (m*e.size)++cur1.toList.drop (q.2.1*e.size+(us2.take (m*e.size)).length)).toArray) r.o ⟨_,hob,rfl⟩ hgb rfl (fun K=>by
        refine⟨_,.inr ⟨b1,cap1,_,h8,?_,h10.set _ (by simp only[List.size_toArray,List.length_append,List.length_drop,Array.length_toList,hcl,List.length_take];omega),?_,h12,?_,?_⟩,RepL.keep K hrep'⟩
        · rw[h9,hxl]
        · rw[hxl];exact h11
        · simp only[List.size_toArray,List.length_append,List.length_drop,Array.length_toList,hcl];rw[List.length_take,Array.length_toList];omega
        · rw[hxl,hcl,←h14,List.toList_toArray,List.append_assoc,List.take_append,List.take_append]
          have l1:(List.take (q.2.1*e.size) cur1.toList).length=q.2.1*e.size:=by simp;omega
          rw[l1,hcl,List.take_of_length_le (by rw[l1];omega),List.take_of_length_le (l:=us2.take (m*e.size)) (by rw[hcl];omega),List.take_take,Nat.min_eq_left (by omega)];congr 2;rw[List.drop_take,Nat.add_mul];congr 1
          omega)
      obtain⟨g1,g2⟩:=qbm r K hor (qfK hob hxl) (fun o' _ hp'=>qA (fun e=>by subst e;rw[hpr] at hp';cases hp')) h4 (v := .int .i64 ((m:Nat):Int)) rfl;exact EfR.val hrun h5 g1 g2
  | _=>simp at h3

theorem qhq {S S':Sp}:∀(τ:Ty) {x:D τ} {M:List Nat} {cs:List Value},τ.flat=true→Rep w S τ x M cs→Rep w S' τ x M cs
  | .int _,_,_,_,_,h=>h
  | .bool,_,_,_,_,h=>h
  | .str,_,_,_,_,h=>h
  | .nil,_,_,_,_,h=>h
  | .sl _,_,_,_,hf,_=>by cases hf
  | .osl _ _,_,_,_,hf,_=>by cases hf
  | .onl _ _,_,_,_,hf,_=>by cases hf
  | .obx _,_,_,_,hf,_=>by cases hf
  | .st f r,x,M,cs,hf,⟨c1,c2,M1,M2,h1,h2,h3,h4⟩=>by
    simp only[Ty.flat,Bool.and_eq_true] at hf;exact⟨c1,c2,M1,M2,h1,h2,qhq f hf.1 h3,qhq r hf.2 h4⟩
theorem qjj {S S':Sp}:∀(τ:Ty) {x:D τ} {M:List Nat} {cs:List Value},τ.fresh=true→Rep w S τ x M cs→Rep w S' τ x M cs
  | .int _,_,_,_,_,h=>h
  | .bool,_,_,_,_,h=>h
  | .str,_,_,_,_,h=>h
  | .nil,_,_,_,_,h=>h
  | .sl _,_,_,_,hf,_=>by cases hf
  | .osl _ e,_,_,_,hf,⟨v,us,h1,h2,h3⟩=>⟨v,us,h1,h2,h3.mono fun _ _ hx=>qhq e hf hx⟩
  | .obx e,_,_,_,hf,⟨b,M',T,cells,h1,h2,h3,h4⟩=>⟨b,M',T,cells,h1,h2,h3,qjj e hf h4⟩
  | .onl _ e,_,_,_,hf,h=>by
    rcases h with h | ⟨xs,v,us,h0,h1,h2,h3⟩
    · exact .inl h
    · exact .inr ⟨xs,v,us,h0,h1,h2,h3.mono fun _ _ hx=>qhq e hf hx⟩
  | .err,_,_,_,_,h=>h
  | .bld _ _,_,_,_,_,h=>h
  | .st f r,x,M,cs,hf,⟨c1,c2,M1,M2,h1,h2,h3,h4⟩=>by
    simp only[Ty.fresh,Bool.and_eq_true] at hf;exact⟨c1,c2,M1,M2,h1,h2,qjj f hf.1 h3,qjj r hf.2 h4⟩
theorem ef_con1 (r:Rel F σ γ a w) {g:FuncId} {bb:Bool} {c:Con} {vs:List PV} {us:List Value} {x:DL c.ps} {y:D c.ρ} {objs1:List OB} {σ':AState} (hc:ConB P g bb c) (hx:(execOp a.eval o).run P w = .ok (.enter g us.toArray) w) (hv:PRL σ.objs γ w vs us)
    (hbb:bb=false∨c.ρ.fresh=true) (h6:argsB σ.objs bb c.ps vs=some x) (h7:(bif c.ρ.fresh then some σ.objs else qaP σ.prO σ.objs (qhO c.ps vs))=some objs1) (h8:c.φ x=some y)
    (h9:AState.putO { σ with objs:=objs1++(resPV c y objs1.length).2 } o.dst [] (resPV c y objs1.length).1=some σ') (h10:k σ'=some res):EfA P F σ γ a w o k res Q:=by
  have hfr:∃S:Sp,Frz F σ.prO σ.objs γ w objs1∧(∀k,S k→k<w.heap.size)∧TabR S w∧ArgsB w S bb c.ps x us∧(c.ρ.fresh=true∨Sp.le S (Imm objs1 γ w)):=by
    by_cases hfre:c.ρ.fresh=true
    · simp only[hfre,cond_true,Option.some.injEq] at h7;subst h7;exact⟨⟨fun k=>k<w.heap.size,γ.m⟩,Frz.refl r.o _,fun k hk=>hk,r.o.tab.mono (fun k hk=>hk.lt) (fun _ _=>rfl),qmR r.o h6 hc.pure hv,.inl hfre⟩
    · have hb0:bb=false:=hbb.resolve_right hfre;subst hb0;simp only[Bool.eq_false_iff.2 hfre,cond_false] at h7;obtain⟨f1,f2⟩:=qaB r.o h7;exact⟨Imm objs1 γ w,f1,fun k hk=>hk.lt,f1.o.tab,qdi r.o f1.keep.imm h6 hc.pure hv (fun o ho b _ hb=>f2 o ho b hb),.inr (Sp.le.refl _)⟩
  obtain⟨S,f1,hSlt,hStab,hargs,hS⟩:=hfr;unfold EfA Oper.wp;rw[hx];rw[Oper.upon_enter];refine(hc.calls w S _ x y hSlt hStab (by simpa using hargs) h8).mono fun e w' hh=>?_;obtain⟨v,rfl,hch,M,cs,hnd,hfresh,hrep,hv⟩:=hh;obtain⟨T,hrepT,hTm,hT⟩:∃T:Sp,Rep w' T c.ρ y M cs∧(∀x b,T.m x=some b→γ.m x=some b)∧∀k,T k→k<w'.heap.size∧(Imm objs1 γ w k∨w.heap.size≤k)∧k∉M:=by
    rcases hS with hS | hS
    · exact⟨⟨fun _=>False,fun _=>none⟩,qjj c.ρ hS hrep,fun _ _ h=>(by cases h),fun k hk=>hk.elim⟩
    · exact⟨_,hrep,hS.m,fun k hk=>⟨hk.1,hk.2.1.imp (hS k) id,hk.2.2⟩⟩
  obtain⟨gs,hgl,hgM,hgp⟩:=qef c.ρ hrepT objs1.length;have hMlt:∀b∈M,b<w'.heap.size:=by
    have:∀(τ:Ty) {x:D τ} {M:List Nat} {cs:List Value} {S:Sp},Rep w' S τ x M cs→∀b∈M,b<w'.heap.size:=by
      intro τ
      induction τ with
      | osl i e _=>intro x M cs S h;obtain⟨v,us,_,h2,_⟩:=h;exact h2.lt
      | onl i e _=>intro x M cs S h b hb;exact onl_lt h b hb
      | hrl i p q j bh _ _=>intro x M cs S h b hb;exact hrl_lt h b hb
      | obx e ih =>
        intro x M cs S h b hb;obtain⟨b',M',T,cells,rfl,_,h3,h4⟩:=h;rcases List.mem_cons.1 hb with rfl | hb
        · exact qel h3
        · exact ih h4 b hb
      | bld tb ib =>
        intro x M cs S h b hb;obtain⟨b',M',p',v',us,rfl,_,h3,_,h5,_⟩:=h;rcases List.mem_cons.1 hb with rfl | hb
        · exact qel h3
        · exact h5.lt b hb
      | st f r ihf ihr =>
        intro x M cs S h b hb;obtain⟨c1,c2,M1,M2,_,rfl,h3,h4⟩:=h;rcases List.mem_append.1 hb with hb | hb
        · exact ihf h3 b hb
        · exact ihr h4 b hb
      | omp k v _ _ =>
        intro x M cs S h b hb;obtain⟨b',rfl,_,_,es,clk,h3,_⟩:=h
        obtain rfl:b=b':=by simpa using hb
        exact qel h3
      | _=>intro x M cs S h b hb;rw[h.1] at hb;cases hb
    exact this c.ρ hrep
  have hnew:Keep objs1 γ w (objs1++(cc c.ρ y objs1.length).2) (upd γ objs1.length gs) w' objs1.length→(VRL (objs1++(cc c.ρ y objs1.length).2) (upd γ objs1.length gs) w' (cc c.ρ y objs1.length).1 cs∧∀(j:Nat) ob g,(cc c.ρ y objs1.length).2[j]?=some ob→gs[j]?=some g→ObR (objs1++(cc c.ρ y objs1.length).2) (upd γ objs1.length gs) w' ob g∧mutOb ob=true):=by
    intro K;refine hgp _ _ ⟨fun k hk=>?_,hTm⟩ (fun j g hj=>qbt hj) (by rw[List.length_append,hgl];exact Nat.le_refl _);obtain⟨h11,h12,h13⟩:=hT k hk;rcases h12 with h12 | h12
    · exact K.imm k h12
    · refine⟨h11,f1.o.up k (.inl (Nat.le_trans f1.o.chg.size h12)),fun o' hm hb=>?_,fun hB=>Nat.not_le_of_lt (f1.o.bl k hB).1 h12⟩;rcases qfq hm with ⟨h14,h15⟩ | ⟨j,ob,rfl,h14⟩
      · rw[qgP h14] at hb;exact Nat.not_le_of_lt (f1.o.lt o' k h14 hb) h12
      · have hj:j<gs.length:=by rw[hgl];exact qz h14
        rw[qbt (List.getElem?_eq_getElem hj)] at hb;refine h13 ?_;rw[hgM];exact List.mem_flatMap.2 ⟨_,List.getElem_mem hj,by simp[hb]⟩
  obtain⟨hor,K⟩:=qdf (news:=(cc c.ρ y objs1.length).2) (gs:=gs) (M:=M) f1.o hch hgl hgM hnd (fun b hb=>⟨hfresh b hb,hMlt b hb⟩) (fun K=>(hnew K).2);have hK:Keep σ.objs γ w (objs1++(cc c.ρ y objs1.length).2) _ _ σ.objs.length:=f1.keep.trans (by rw[←f1.len];exact K);obtain⟨g1,g2⟩:=qbm r hK hor (f1.same.trans qaW (by rw[f1.len];exact Nat.le_refl _)) (fun o' ho' hp=>by rw[List.getElem?_append_left (by rw[f1.len];exact ho')];exact f1.prot o' hp) h9 (qnq hc.wf (hnew K).1);rw[←hv] at g1;exact⟨hch,σ',_,h10,g1,g2⟩
theorem ef_call (hE:EnvOK P env) (r:Rel F σ γ a w) {f:Operand} {args:Array Operand} {ats:Array TypeId} (ho:o.op = .call ⟨.value f,args,ats⟩) (h:callE P env σ o f args k=some res):EfA P F σ γ a w o k res Q:=by
  simp only[callE,Option.bind_eq_some_iff,chk_some,Bool.and_eq_true,Bool.or_eq_true,Bool.not_eq_true'] at h;obtain⟨q,h1,⟨g,caps⟩,h2,h3,⟨bb,c⟩,h4,⟨hbo,hbb⟩,vs,h5,x,h6,objs1,h7,y,h8,σ',h9,h10⟩:=h;simp only at h4 hbb h6 h7 h8 h9
  have hcaps:caps=[]:=by simpa using h3
  subst hcaps;obtain⟨_,l,hfv,hpl⟩:VR σ.objs γ w (.fn g []) (a.eval f):=by
    have:=qg r (qj σ) h1;rw[qbf h2] at this;exact this
  simp only[PtrL] at hpl;subst hpl;have hx:=qcb (ρ:=a.eval) ho hfv;rw[List.append_nil] at hx;exact ef_con1 r (hE.con g bb c h4) (by rw[hx,qas hbo]) (qgQ r (qj σ) h5) hbb h6 h7 h8 h9 h10
theorem ef_sort (hE:EnvOK P env) (r:Rel F σ γ a w) {f:Operand} {args:Array Operand} {ats:Array TypeId} {s:FuncId×Srt} (ho:o.op = .call ⟨.value f,args,ats⟩) (hs:srtOf P env σ f=some s) (h:sortE σ o s.2 args.toList k=some res):EfR P F σ γ a w o k res Q:=by
  obtain⟨g,s⟩:=s;simp only[srtOf,Option.bind_eq_some_iff,chk_some,Option.some.injEq,Prod.mk.injEq] at hs;obtain⟨q,h1,⟨g',caps⟩,h2,h3,s',h4,hbo,e1,e2⟩:=hs;simp only at e1 hbo h4 h3;subst e1;subst e2
  have hcaps:caps=[]:=by simpa using h3
  subst hcaps;have hc:=hE.srt g' s' h4;obtain⟨_,l,hfv,hpl⟩:VR σ.objs γ w (.fn g' []) (a.eval f):=by
    have:=qg r (qj σ) h1;rw[qbf h2] at this;exact this
  simp only[PtrL] at hpl;subst hpl;have hx:=qcb (ρ:=a.eval) ho hfv;rw[List.append_nil] at hx;simp only[sortE] at h;split at h
  · rename_i x rest hal;simp only[Option.bind_eq_some_iff] at h;obtain⟨pv,h5,c,h6,h7⟩:=h;have hcv:=qa7 h6;subst hcv;split at h7
    · rename_i p;simp only[Option.bind_eq_some_iff] at h7;obtain⟨ob,hob,h8⟩:=h7
      cases ob with
      | arr i e xs fz =>
        cases fz with
        | true=>simp at h8
        | false =>
        simp only[chk_some,Bool.and_eq_true,Bool.not_eq_true',Option.bind_eq_some_iff,req_some] at h8;obtain⟨⟨hpr,hi,har⟩,ys,hys,hlen,σ',h9,h10⟩:=h8;have hi:=Nat.eq_of_beq_eq_true hi;subst hi;obtain⟨he,hys⟩:=qaD hys;subst he;simp only at hys;subst hys
        have hlen:xs.length<4611686018427387904:=by simpa[Nat.blt_eq] using hlen
        obtain⟨hlt,hv,_⟩:VR σ.objs γ w (.os p) (a.eval x):=qg r (qj σ) h5;obtain⟨us,hown,hrep⟩:=r.o.rep p _ hob;rw[←hv] at hown;have hargs:(args.toList.map a.eval)=a.eval x::(s'.g.elim [] fun g=>[.func (.func g) #[] #[]]):=by
          rw[hal,List.map_cons];congr 1;unfold srtArgs at har;split at har
          · rw[Option.isNone_iff_eq_none.1 har];rfl
          · rename_i y;split at har
            · rename_i hh gg hyf hgg;simp only[Option.bind_eq_some_iff] at hyf;obtain⟨qy,hy1,hy2⟩:=hyf;obtain⟨_,ly,hfy,hpy⟩:VR σ.objs γ w (.fn hh []) (a.eval y):=by
                have:=qg r (qj σ) hy1;rw[qbf hy2] at this;exact this
              simp only[PtrL] at hpy;subst hpy;rw[Nat.eq_of_beq_eq_true har] at hfy;simp[hgg,hfy]
            · cases har
          · cases har
        unfold EfR Oper.wp;rw[hx,qas hbo];rw[Oper.upon_enter];rw[hargs];refine(hc.calls w _ _ _ xs us hlen hown hrep).mono fun e w' hh=>?_;obtain⟨rfl,hch,us',hown',hrep'⟩:=hh;have hxl:=hc.len xs
        cases hM:(γ p).2 with
        | none =>
          rw[hM] at hch hown';simp only[Option.toList_none] at hch hown';have hnil:xs=[]:=by
            rcases hown' with ⟨_,_,h11,_⟩ | ⟨_,_,_,h11,_⟩
            · exact List.length_eq_zero_iff.1 h11
            · cases h11
          subst hnil;have hnil:s'.f []=[]:=List.length_eq_zero_iff.1 hxl;rw[hnil] at h9;have hsame:σ.objs.set p (.arr s'.i s'.e [] false)=σ.objs:=by
            apply List.ext_getElem?;intro j;rw[List.getElem?_set];by_cases hj:p=j
            · subst hj;rw[if_pos rfl,if_pos hlt,hob]
            · rw[if_neg hj]
          rw[hsame] at h9;obtain⟨g1,g2⟩:=qbm r (Keep.ext hch) (r.o.ext hch) (fun o ti e xs fz h _=>⟨ti,e,xs,fz,h,rfl⟩) (fun _ _ _=>rfl) h9 (v := .tuple #[]) ⟨#[],rfl,rfl⟩;exact⟨σ',_,h10,g1,g2⟩
        | some b =>
          rw[hM] at hch hown';simp only[Option.toList_some] at hch hown'
          obtain⟨hor,K⟩:=qhw (ob := .arr s'.i s'.e (s'.f xs) false) hch r.o ⟨_,hob,rfl⟩ hM rfl (fun K=>by
            refine⟨us',?_,hrep'.mono fun x c hx=>qhq s'.e hc.flat hx⟩;rw[hM,hxl,←hv]
            exact hown')
          obtain⟨g1,g2⟩:=qbm r K hor (qfK hob hxl) (fun o' _ hp'=>qA (fun e=>by subst e;rw[hpr] at hp';cases hp')) h9 (v := .tuple #[]) ⟨#[],rfl,rfl⟩;exact⟨σ',_,h10,g1,g2⟩
      | _=>simp at h8
    · cases h7
  · cases h
theorem memN_spec {o:Nat}:∀ {l:List Nat},memN o l=true↔o∈l
  | []=>by simp[memN]
  | p::r=>by
    simp only[memN,Bool.or_eq_true,List.mem_cons,memN_spec (l:=r)];constructor
    · rintro (h | h)
      · exact .inl (Nat.eq_of_beq_eq_true h).symm
      · exact .inr h
    · rintro (rfl | h)
      · exact .inl (by simp)
      · exact .inr h
theorem qcy:∀ {l:List Nat},qkL l=true→l.Nodup
  | [],_=>List.nodup_nil
  | p::r,h=>by
    simp only[qkL,Bool.and_eq_true,Bool.not_eq_true'] at h;refine List.nodup_cons.2 ⟨fun hm=>?_,qcy h.2⟩;rw[memN_spec.2 hm] at h;cases h.1
theorem qcJ {F:Fr} {objs:List OB} {γ:Gh} {w:World} (r:ORel F objs γ w):∀ {l:List Nat},l.Nodup→(∀o∈l,Mut objs o)→(blocks γ l).Nodup
  | [],_,_=>by simp[blocks]
  | o::l,h,hm=>by
    rw[List.nodup_cons] at h;have ih:=qcJ r h.2 (fun o' ho'=>hm o' (List.mem_cons_of_mem _ ho'));simp only[blocks,List.flatMap_cons,List.nodup_append] at ih ⊢
    refine⟨by cases (γ o).2<;>simp,ih,fun b hb b' hb' e=>?_⟩
    subst e;obtain⟨o',ho',hbo⟩:=List.mem_flatMap.1 hb';have e1:=r.inj o o' b (hm o List.mem_cons_self) (hm o' (List.mem_cons_of_mem _ ho')) (by simpa using hb) (by simpa using hbo);subst e1;exact h.1 ho'
theorem qeC:∀(l:List Nat) (objs:List OB),(killL objs l).length=objs.length
  | [],_=>rfl
  | o::r,objs=>by rw[killL,qeC r];simp
theorem qek:∀(l:List Nat) (objs:List OB) (o:Nat),(o∉l∧(killL objs l)[o]?=objs[o]?)∨(o∈l∧∀ob,(killL objs l)[o]?=some ob→ob = .dead)
  | [],objs,o => .inl ⟨by simp,rfl⟩
  | q::r,objs,o=>by
    rw[killL];rcases qek r (objs.set q .dead) o with ⟨h1,h2⟩ | ⟨h1,h2⟩
    · by_cases e:q=o
      · subst e;refine .inr ⟨by simp,fun ob hob=>?_⟩;rw[h2,List.getElem?_set,if_pos rfl] at hob;split at hob
        · cases hob;rfl
        · cases hob
      · exact .inl ⟨by simp;exact⟨fun h=>e h.symm,h1⟩,by rw[h2,List.getElem?_set,if_neg e]⟩
    · exact .inr ⟨by simp[h1],h2⟩
theorem qhZ {prO:Nat}:∀ {l:List Nat} {objs objs':List OB} {p:Nat} {cs:List Cv},qaP prO objs l=some objs'→objs[p]?=some (.box cs)→objs'[p]?=some (.box cs)
  | [],objs,objs',p,cs,h,hb=>by simp only[qaP,Option.some.injEq] at h;rw[←h];exact hb
  | o::r,objs,objs',p,cs,h,hb=>by
    simp only[qaP,Option.bind_eq_some_iff] at h;obtain⟨objs1,h1,h2⟩:=h;refine qhZ h2 ?_;unfold qlI at h1;simp only[Option.bind_eq_some_iff] at h1;obtain⟨ob,h3,h4⟩:=h1
    cases ob with
    | arr i e xs fz =>
      cases fz with
      | true=>simp only[Option.some.injEq] at h4;rw[←h4];exact hb
      | false =>
        simp only[chk_some,Option.some.injEq] at h4;rw[←h4.2,List.getElem?_set];by_cases e1:o=p
        · subst e1;rw[hb] at h3;cases h3
        · rw[if_neg e1];exact hb
    | _=>simp at h4
theorem qks {prO:Nat}:∀ {l:List Nat} {objs objs':List OB} {p:Nat} {cs:List Cv},qaP prO objs l=some objs'→objs'[p]?=some (.box cs)→objs[p]?=some (.box cs)
  | [],objs,objs',p,cs,h,hb=>by simp only[qaP,Option.some.injEq] at h;rw[h];exact hb
  | o::r,objs,objs',p,cs,h,hb=>by
    simp only[qaP,Option.bind_eq_some_iff] at h;obtain⟨objs1,h1,h2⟩:=h;have hb1:=qks h2 hb;unfold qlI at h1;simp only[Option.bind_eq_some_iff] at h1;obtain⟨ob,h3,h4⟩:=h1
    cases ob with
    | arr i e xs fz =>
      cases fz with
      | true=>simp only[Option.some.injEq] at h4;rw[h4];exact hb1
      | false =>
        simp only[chk_some,Option.some.injEq] at h4;rw[←h4.2,List.getElem?_set] at hb1;by_cases e1:o=p
        · rw[if_pos e1] at hb1;split at hb1
          · cases hb1
          · cases hb1
        · rw[if_neg e1] at hb1;exact hb1
    | _=>simp at h4
theorem ownB_of {objs:List OB} {o:Nat} {l:List Cv} (h:objs[o]?=some (.box l)):ownB objs [.ptr o 0]=some l:=by
  unfold ownB;simp only[h];rfl
theorem qqx {prO:Nat} {l:List Nat} {objs objs':List OB} (h:qaP prO objs l=some objs') (cs:List Cv):ownB objs' cs=ownB objs cs:=by
  cases e:ownB objs' cs with
  | some bl =>
    obtain⟨o,off,rfl,rfl,hob⟩:=qgu e;exact(ownB_of (qks h hob)).symm
  | none =>
    cases e2:ownB objs cs with
    | none=>rfl
    | some bl =>
      obtain⟨o,off,rfl,rfl,hob⟩:=qgu e2;rw[ownB_of (qhZ h hob)] at e;cases e
theorem qly {prO:Nat} {l:List Nat} {objs objs':List OB} (h:qaP prO objs l=some objs'):∀ {τ:Ty} {cs:List Cv},idsD objs' τ cs=idsD objs τ cs:=by
  intro τ
  induction τ with
  | obx e ih=>intro cs;simp only[idsD,qqx h];exact ih
  | st f r ihf ihr=>intro cs;simp only[idsD,ihf,ihr]
  | _=>intro cs;rfl
theorem ef_io (hE:EnvOK P env) (r:Rel F σ γ a w) {f:Operand} {args:Array Operand} {ats:Array TypeId} {s:FuncId×Ioc} (ho:o.op = .call ⟨.value f,args,ats⟩) (hs:iocOf P env σ f=some s) (h:ioE σ o s.2 args.toList k=some res):EfR P F σ γ a w o k res Q:=by
  obtain⟨g,c⟩:=s;simp only[iocOf,Option.bind_eq_some_iff,chk_some,Option.some.injEq,Prod.mk.injEq] at hs;obtain⟨q,h1,⟨g',caps⟩,h2,h3,c',h4,hbo,e1,e2⟩:=hs;simp only at e1 hbo h4 h3;subst e1;subst e2
  have hcaps:caps=[]:=by simpa using h3
  subst hcaps;have hc:=hE.io g' c' h4;obtain⟨_,l,hfv,hpl⟩:VR σ.objs γ w (.fn g' []) (a.eval f):=by
    have:=qg r (qj σ) h1;rw[qbf h2] at this;exact this
  simp only[PtrL] at hpl;subst hpl;have hx:=qcb (ρ:=a.eval) ho hfv;rw[List.append_nil] at hx;simp only[ioE] at h;split at h
  · rename_i x rest hal;simp only[Option.bind_eq_some_iff] at h;obtain⟨pv,h5,cv,h6,h7⟩:=h;have hcv:=qa7 h6;subst hcv;split at h7
    · rename_i p off;simp only[Option.bind_eq_some_iff] at h7;obtain⟨vs,h8,ob,hob,h9⟩:=h7
      cases ob with
      | box cs =>
        simp only[Option.bind_eq_some_iff,chk_some,Bool.and_eq_true,Bool.not_eq_true',List.all_eq_true] at h9;obtain⟨objs1,hfz,y,hy,z,hz,⟨hoff,hpr,hnd,hall⟩,rr,hφ,σ',h10,h11⟩:=h9;have hoff:=Nat.eq_of_beq_eq_true hoff;subst hoff;obtain⟨hlt,b0,hg0,hv0⟩:VR σ.objs γ w (.ptr p 0) (a.eval x):=qg r (qj σ) h5;obtain⟨f1,f2⟩:=qaB r.o hfz;have hob1:=qhZ hfz hob;obtain⟨b,T,cells,hgp,hheap,hvrl⟩:=f1.o.rep p _ hob1
        have hb0:b0=b:=by rw[hgp] at hg0;simpa using hg0.symm
        subst hb0;obtain⟨hbx,hmut⟩:=qaN (S:=Imm objs1 γ w) f1.o (Sp.le.refl _) c'.bx hy hvrl (fun o ho b hb=>f2 o (List.mem_append_left _ (by rw[←qly hfz];exact ho)) b hb);have hargs:=qdi (S:=Imm objs1 γ w) r.o f1.keep.imm hz hc.pure (qgQ r (qj σ) h8) (fun o ho b _ hb=>f2 o (List.mem_append_right _ ho) b hb);have hMmem:∀k∈blocks γ (idsO objs1 c'.bx cs),∃o∈idsO objs1 c'.bx cs,(γ o).2=some k:=fun k hk=>by
          obtain⟨o,ho,hb'⟩:=List.mem_flatMap.1 hk;exact⟨o,ho,by simpa using hb'⟩
        have hpm:Mut objs1 p:=⟨_,hob1,rfl⟩
        have hgpb:(γ p).2=some b0:=by rw[hgp]
        have hbM:b0∉blocks γ (idsO objs1 c'.bx cs):=fun hm=>by
          obtain⟨o',ho',hb'⟩:=hMmem b0 hm;have:=f1.o.inj o' p b0 (hmut o' ho') hpm hb' hgpb;have h12:=(hall o' ho').2;rw[this] at h12;simp at h12
        have hMnd:=qcJ f1.o (qcy hnd) hmut;have hSok:∀k,Imm objs1 γ w k→k<w.heap.size∧k≠b0∧k∉blocks γ (idsO objs1 c'.bx cs):=fun k hk=>⟨hk.lt,fun e=>hk.own p hpm (by rw[e];exact hgpb),fun hm=>by
          obtain⟨o',ho',hb'⟩:=hMmem k hm
          exact hk.own o' (hmut o' ho') hb'⟩
        unfold EfR Oper.wp;rw[hx,qas hbo];rw[Oper.upon_enter];rw[hal,List.map_cons,hv0];refine(hc.calls w (Imm objs1 γ w) b0 T cells _ _ (y,z) rr hSok f1.o.tab hheap hMnd hbM hbx hargs hφ).mono fun e w' hh=>?_;obtain⟨v,rfl,hch,T',cs',M1,M2,cells2,hheap',hnd',hin,hrep1,hrep2,hv⟩:=hh;have hrep:Rep w' ⟨fun k=>k<w'.heap.size∧(Imm objs1 γ w k∨w.heap.size≤k∨k∈blocks γ (idsO objs1 c'.bx cs))∧k∉M1++M2∧k≠b0,γ.m⟩ (.st c'.bx c'.ρ) rr (M1++M2) (cs'.toList++cells2):=⟨_,_,_,_,rfl,rfl,hrep1,hrep2⟩;obtain⟨gs,hgl,hgM,hgp2⟩:=qef (.st c'.bx c'.ρ) hrep objs1.length;obtain⟨q,hq⟩:∃q,cc (.st c'.bx c'.ρ) rr objs1.length=q:=⟨_,rfl⟩;rw[hq] at hgl hgp2 h10;have hl1:cs'.toList.length=c'.bx.size:=Rep.length c'.bx hrep1
        obtain⟨objs0,ho0⟩:∃objs0,(killL objs1 (idsO objs1 c'.bx cs)).set p (.box (q.1.take c'.bx.size))=objs0:=⟨_,rfl⟩;rw[ho0] at h10
        have hlen0:objs0.length=objs1.length:=by rw[←ho0,List.length_set,qeC]
        have hget0:∀o ob,objs0[o]?=some ob→(o=p∧ob = .box (q.1.take c'.bx.size))∨(o≠p∧o∉idsO objs1 c'.bx cs∧objs1[o]?=some ob)∨(o∈idsO objs1 c'.bx cs∧ob = .dead):=fun o ob hob=>by
          rw[←ho0,List.getElem?_set] at hob;by_cases e:p=o
          · subst e;rw[if_pos rfl] at hob;split at hob
            · cases hob;exact .inl ⟨rfl,rfl⟩
            · cases hob
          · rw[if_neg e] at hob;rcases qek (idsO objs1 c'.bx cs) objs1 o with ⟨k1,k2⟩ | ⟨k1,k2⟩
            · rw[k2] at hob;exact .inr (.inl ⟨fun h=>e h.symm,k1,hob⟩)
            · exact .inr (.inr ⟨k1,k2 ob hob⟩)
        have hmu:∀o,Mut objs0 o→Mut objs1 o∧o∉idsO objs1 c'.bx cs:=by
          rintro o ⟨ob,k1,k2⟩
          rcases hget0 o ob k1 with ⟨rfl,rfl⟩ | ⟨k3,k4,k5⟩ | ⟨k3,rfl⟩
          · exact⟨hpm,fun hm=>by have:=(hall o hm).2;simp at this⟩
          · exact⟨⟨ob,k5,k2⟩,k4⟩
          · cases k2
        have hblk:∀o k,o∉idsO objs1 c'.bx cs→o≠p→(Mut objs1 o∨∃i,∃e:Ty,∃xs:List (D e),objs1[o]?=some (.arr i e xs true))→(γ o).2=some k→k∉b0::blocks γ (idsO objs1 c'.bx cs):=fun o k k1 k2 k3 k4 hm=>by
          have:∃o',Mut objs1 o'∧(γ o').2=some k∧o'≠o:=by
            rcases List.mem_cons.1 hm with e | e
            · exact⟨p,hpm,by rw[e];exact hgpb,fun h=>k2 h.symm⟩
            · obtain⟨o',ho',hb'⟩:=hMmem k e;exact⟨o',hmut o' ho',hb',fun h=>k1 (h▸ho')⟩
          obtain⟨o',m1,m2,m3⟩:=this;rcases k3 with k3 | ⟨i,e,xs,k3⟩
          · exact m3 (f1.o.inj o' o k m1 k3 m2 k4)
          · exact(f1.o.frz o i e xs k k3 k4).own o' m1 m2
        have K0:Keep objs1 γ w objs0 γ w' objs1.length:=⟨⟨fun k hk=>⟨Nat.lt_of_lt_of_le hk.lt hch.size,hk.s,fun o hm=>hk.own o (hmu o hm).1,hk.nb⟩,fun _ _ h=>h⟩,fun k hk=>hch.block k hk.lt (by
          intro hm;rcases List.mem_cons.1 hm with e | e
          · exact(hSok k hk).2.1 e
          · exact(hSok k hk).2.2 e),by omega,fun _ _=>rfl,hch.size,rfl,fun _ _ _ _ h=>h⟩
        have hown:∀k∈b0::blocks γ (idsO objs1 c'.bx cs),F.w0.heap.size≤k∨k∈F.M:=fun k hm=>by
          rcases List.mem_cons.1 hm with e | e
          · rw[e];exact f1.o.own p b0 hpm hgpb
          · obtain⟨o',ho',hb'⟩:=hMmem k e;exact f1.o.own o' k (hmut o' ho') hb'
        have hchg:Chg F.M F.w0 w':=by
          have h0:=f1.o.chg;refine⟨hch.os.trans h0.os,hch.tape.trans h0.tape,hch.output.trans h0.output,Nat.le_trans h0.size hch.size,fun k hk hn=>(hch.block k (Nat.lt_of_lt_of_le hk h0.size) fun hm=>?_).trans (h0.block k hk hn),fun e=>Nat.le_trans (h0.drawn e) (hch.drawn e)⟩;rcases hown k hm with h1 | h1
          · omega
          · exact hn h1
        have hM12lt:∀k∈M1++M2,k<w'.heap.size:=by
          have:∀(τ:Ty) {x:D τ} {M:List Nat} {cs:List Value} {S:Sp},Rep w' S τ x M cs→∀b∈M,b<w'.heap.size:=by
            intro τ
            induction τ with
            | osl i e _=>intro x M cs S h;obtain⟨v,us,_,h2,_⟩:=h;exact h2.lt
            | onl i e _=>intro x M cs S h b hb;exact onl_lt h b hb
            | hrl i p q j bh _ _=>intro x M cs S h b hb;exact hrl_lt h b hb
            | obx e ih =>
              intro x M cs S h b hb;obtain⟨b',M',T,cells,rfl,_,h3,h4⟩:=h;rcases List.mem_cons.1 hb with rfl | hb
              · exact qel h3
              · exact ih h4 b hb
            | bld tb ib =>
              intro x M cs S h b hb;obtain⟨b',M',p',v',us,rfl,_,h3,_,h5,_⟩:=h;rcases List.mem_cons.1 hb with rfl | hb
              · exact qel h3
              · exact h5.lt b hb
            | st f r ihf ihr =>
              intro x M cs S h b hb;obtain⟨c1,c2,M1,M2,_,rfl,h3,h4⟩:=h;rcases List.mem_append.1 hb with hb | hb
              · exact ihf h3 b hb
              · exact ihr h4 b hb
            | omp k v _ _ =>
              intro x M cs S h b hb;obtain⟨b',rfl,_,_,es,clk,h3,_⟩:=h
              obtain rfl:b=b':=by simpa using hb
              exact qel h3
            | _=>intro x M cs S h b hb;rw[h.1] at hb;cases hb
          exact this _ hrep
        have hnew:Keep objs1 γ w (objs0++q.2) (upd γ objs1.length gs) w' objs1.length→(VRL (objs0++q.2) (upd γ objs1.length gs) w' q.1 (cs'.toList++cells2)∧∀(j:Nat) ob g,q.2[j]?=some ob→gs[j]?=some g→ObR (objs0++q.2) (upd γ objs1.length gs) w' ob g∧mutOb ob=true):=by
          intro K;refine hgp2 _ _ ⟨fun k hk=>?_,fun _ _ h=>h⟩ (fun j g hj=>qbt hj) (by rw[List.length_append,hlen0,hgl];exact Nat.le_refl _);obtain⟨h12,h13,h14,h15⟩:=hk;refine⟨h12,?_,fun o' hm hb=>?_,fun hb=>?_⟩
          rotate_right
          · rcases h13 with h13 | h13 | h13
            · exact h13.nb hb
            · exact Nat.not_le_of_lt (f1.o.bl k hb).1 h13
            · obtain⟨o',ho',hb'⟩:=hMmem k h13;exact f1.o.bo o' k (hmut o' ho') hb' hb
          · rcases h13 with h13 | h13 | h13
            · exact h13.s
            · exact f1.o.up k (.inl (Nat.le_trans f1.o.chg.size h13))
            · exact f1.o.up k (hown k (List.mem_cons_of_mem _ h13))
          · rcases qfq hm with ⟨h16,h17⟩ | ⟨j,ob,rfl,h16⟩
            · rw[hlen0] at h16;rw[qgP h16] at hb;obtain⟨h18,h19⟩:=hmu o' h17;by_cases e:o'=p
              · subst e;rw[hgpb] at hb;exact h15 (by simpa using hb.symm)
              · rcases h13 with h13 | h13 | h13
                · exact h13.own o' h18 hb
                · exact Nat.not_le_of_lt (f1.o.lt o' k h16 hb) h13
                · exact hblk o' k h19 e (.inl h18) hb (List.mem_cons_of_mem _ h13)
            · have hj:j<gs.length:=by rw[hgl];exact qz h16
              rw[hlen0,qbt (List.getElem?_eq_getElem hj)] at hb;refine h14 ?_;rw[hgM];exact List.mem_flatMap.2 ⟨_,List.getElem_mem hj,by simp[hb]⟩
        obtain⟨hor,K⟩:=qm7 (news:=q.2) (gs:=gs) (M:=M1++M2) f1.o K0 hlen0 hchg hgl hgM hnd' (fun o ob hob=>by
          rcases hget0 o ob hob with ⟨rfl,rfl⟩ | ⟨k3,k4,k5⟩ | ⟨k3,rfl⟩
          · refine .inr (.inr fun K=>⟨b0,T',cs',hgp,hheap',?_⟩);have:=(hnew K).1.take c'.bx.size
            rwa [List.take_left' hl1] at this
          · by_cases hd:ob = .dead
            · exact .inr (.inl hd)
            · by_cases hfx:∃l,ob = .fbx l
              · obtain⟨l,rfl⟩:=hfx;refine .inl ⟨f1.o.rep o _ k5,fun b hb=>hch.block b (f1.o.lt o b (qz k5) hb) fun hm=>?_⟩;obtain⟨b2,_,_,e2,_,_,hi⟩:=f1.o.rep o _ k5;rw[e2] at hb
                obtain rfl:b2=b:=by simpa using hb
                rcases List.mem_cons.1 hm with e | e
                · exact(hSok _ hi).2.1 e
                · exact(hSok _ hi).2.2 e
              by_cases har:isAr ob=true
              · refine .inl ⟨f1.o.rep o ob k5,fun b hb=>?_⟩;have:=f1.o.rep o ob k5
                cases ob<;>first | cases har | skip
                have h9:(γ o).2=none:=this;rw[h9] at hb;cases hb
              refine .inl ⟨f1.o.rep o ob k5,fun b hb=>hch.block b (f1.o.lt o b (qz k5) hb) (hblk o b k4 k3 ?_ hb)⟩
              cases ob with
              | ar=>exact absurd rfl har
              | dead=>exact absurd rfl hd
              | fbx l=>exact absurd ⟨l,rfl⟩ hfx
              | bld _ _=>exact .inl ⟨_,k5,rfl⟩
              | box l=>exact .inl ⟨_,k5,rfl⟩
              | mbr _ _ _=>exact .inl ⟨_,k5,rfl⟩
              | hr _ _ _ _ _ _=>exact .inl ⟨_,k5,rfl⟩
              | nilr=>exact .inl ⟨_,k5,rfl⟩
              | mp _ _ _=>exact .inl ⟨_,k5,rfl⟩
              | arr i e xs fz =>
                cases fz with
                | false=>exact .inl ⟨_,k5,rfl⟩
                | true=>exact .inr ⟨i,e,xs,k5⟩
          · exact .inr (.inl rfl)) (fun o hm=>(hmu o hm).1) (fun o i e xs hob=>by
          rcases hget0 o _ hob with ⟨_,k2⟩ | ⟨_,_,k5⟩ | ⟨_,k2⟩
          · cases k2
          · exact k5
          · cases k2) (fun k hk=>by
          obtain⟨h12,h13⟩:=hin k hk;refine⟨hM12lt k hk,?_,fun o hm hb=>?_,fun hi=>?_⟩
          · rcases h12 with h12 | h12
            · exact hown k (List.mem_cons_of_mem _ h12)
            · exact .inl (Nat.le_trans f1.o.chg.size h12)
          · obtain⟨h18,h19⟩:=hmu o hm;by_cases e:o=p
            · subst e;rw[hgpb] at hb;exact h13 (by simpa using hb.symm)
            · rcases h12 with h12 | h12
              · exact hblk o k h19 e (.inl h18) hb (List.mem_cons_of_mem _ h12)
              · exact Nat.not_le_of_lt (f1.o.lt o k h18.lt hb) h12
          · rcases h12 with h12 | h12
            · exact(hSok k hi).2.2 h12
            · exact Nat.not_le_of_lt hi.lt h12) (fun K=>(hnew K).2) (fun b hb hB=>by
          rcases(hin b hb).1 with h12 | h12
          · obtain⟨o',ho',hb'⟩:=hMmem b h12;exact f1.o.bo o' b (hmut o' ho') hb' hB
          · exact Nat.not_le_of_lt (f1.o.bl b hB).1 h12) (fun k hk=>hch.block k (f1.o.bl k hk).1 fun hm=>by
          rcases List.mem_cons.1 hm with e | e
          · exact f1.o.bo p k hpm (by rw[e];exact hgpb) hk
          · obtain⟨o',ho',hb'⟩:=hMmem k e;exact f1.o.bo o' k (hmut o' ho') hb' hk) (fun o t p' ow xs lent hob=>by
          rcases hget0 o _ hob with ⟨_,k2⟩ | ⟨_,_,k5⟩ | ⟨_,k2⟩
          · cases k2
          · exact k5
          · cases k2)
        have hK:Keep σ.objs γ w (objs0++q.2) _ _ σ.objs.length:=f1.keep.trans (by rw[←f1.len];exact K);have hsame:SameLen σ.objs (objs0++q.2):=fun o' ti e xs fz hob hlt'=>by
          rw[List.getElem?_append_left (by rw[hlen0,f1.len];exact hlt')] at hob;rcases hget0 o' _ hob with ⟨_,k2⟩ | ⟨_,_,k5⟩ | ⟨_,k2⟩
          · cases k2
          · exact f1.same o' ti e xs fz k5 hlt'
          · cases k2
        have hq2:q.1.length=(cs'.toList++cells2).length:=((hnew K).1.length).symm;have hl2:cells2.length=c'.ρ.size:=Rep.length c'.ρ hrep2;have hd:=(hnew K).1.drop c'.bx.size;rw[List.drop_left' hl1] at hd
        have hdl:(q.1.drop c'.bx.size).length=c'.ρ.size:=by rw[←hd.length];exact hl2
        obtain⟨g1,g2⟩:=qbm r hK hor hsame (fun o' ho' hp=>by
          rw[List.getElem?_append_left (by rw[hlen0,f1.len];exact ho')]
          have h20:o'≠p:=fun e=>by rw[e,hpr] at hp;cases hp
          have h21:o'∉idsO objs1 c'.bx cs:=fun hm=>by have:=(hall o' hm).1;rw[hp] at this;cases this
          rw[←ho0,List.getElem?_set,if_neg (fun e=>h20 e.symm)];rcases qek (idsO objs1 c'.bx cs) objs1 o' with ⟨_,k2⟩ | ⟨k1,_⟩
          · rw[k2];exact f1.prot o' hp
          · exact absurd k1 h21) h10 (v:=v) (by
          rw[hv];unfold resIO resV
          cases hc1:c'.one with
          | true=>exact qbA hdl hd
          | false=>exact⟨_,rfl,by simpa using qfz (by rw[hdl,hc.wf hc1]) hd⟩)
        exact⟨σ',_,h11,g1,g2⟩
      | _=>simp at h9
    · cases h7
  · cases h
theorem qqm {us:List PV} {args:List Operand} (hv:PRL σ.objs γ w us (args.map a.eval)) {j:Nat} {q:PV×List PV} (h:qiN j us=some q):∃v vs,qiN j (args.map a.eval)=some (v,vs)∧PR σ.objs γ w q.1 v∧PRL σ.objs γ w q.2 vs:=by
  generalize args.map a.eval=all at hv ⊢
  induction us generalizing j all q with
  | nil=>simp[qiN] at h
  | cons x us ih =>
    obtain⟨u,l,rfl,h1,h2⟩:=hv
    cases j with
    | zero =>
      simp only[qiN,Option.some.injEq] at h;subst h;exact⟨u,l,rfl,h1,h2⟩
    | succ j =>
      simp only[qiN,Option.bind_eq_some_iff,Option.some.injEq] at h;obtain⟨q',h3,rfl⟩:=h;obtain⟨v,vs,h4,h5,h6⟩:=ih h3 l h2;exact⟨v,u::vs,by simp[qiN,h4],h5,⟨u,vs,rfl,h1,h6⟩⟩
theorem ef_ro (hE:EnvOK P env) (r:Rel F σ γ a w) {f:Operand} {args:Array Operand} {ats:Array TypeId} {s:FuncId×Roc} (ho:o.op = .call ⟨.value f,args,ats⟩) (hs:rocOf P env σ f=some s) (h:roE σ o s.2 args.toList k=some res):EfR P F σ γ a w o k res Q:=by
  obtain⟨g,c⟩:=s;simp only[rocOf,Option.bind_eq_some_iff,chk_some,Option.some.injEq,Prod.mk.injEq] at hs;obtain⟨q,h1,⟨g',caps⟩,h2,h3,c',h4,hbo,e1,e2⟩:=hs;simp only at e1 hbo h4 h3;subst e1;subst e2
  have hcaps:caps=[]:=by simpa using h3
  subst hcaps;have hc:=hE.ro g' c' h4;obtain⟨_,l,hfv,hpl⟩:VR σ.objs γ w (.fn g' []) (a.eval f):=by
    have:=qg r (qj σ) h1;rw[qbf h2] at this;exact this
  simp only[PtrL] at hpl;subst hpl;have hx:=qcb (ρ:=a.eval) ho hfv;rw[List.append_nil] at hx;simp only[roE,Option.bind_eq_some_iff] at h;obtain⟨us,h5,⟨q1,q2⟩,h6,cv,h7,h8⟩:=h;obtain⟨v,vs,hpull,hq1,hq2⟩:=qqm (qgQ r (qj σ) h5) h6;simp only at h7 h8 hq1 hq2;have hcv:=qa7 h7;subst hcv;split at h8
  · rename_i p;simp only[Option.bind_eq_some_iff] at h8;obtain⟨objs1,hfz,ob,hob,h9⟩:=h8
    cases ob with
    | arr i e xs fz =>
      cases fz with
      | true=>simp at h9
      | false =>
        simp only[chk_some,Bool.and_eq_true,Bool.not_eq_true',Option.bind_eq_some_iff] at h9;obtain⟨⟨hpr,hi⟩,ys,hys,z,hz,rr,hφ,σ',h10,h11⟩:=h9;have hi:=Nat.eq_of_beq_eq_true hi;subst hi;obtain⟨he,hys⟩:=qaD hys;subst he;simp only at hys;subst hys;obtain⟨f1,f2⟩:=qaB r.o hfz;obtain⟨hlt,hv,_⟩:VR σ.objs γ w (.os p) v:=hq1;have hlt1:p<objs1.length:=qz hob;have hpm:Mut objs1 p:=⟨_,hob,rfl⟩;obtain⟨us1,hown,hrep⟩:=f1.o.rep p _ hob;rw[←hv] at hown;have hargs:=qdi (S:=Imm objs1 γ w) r.o f1.keep.imm hz hc.pure hq2 (fun o ho b _ hb=>f2 o ho b hb);have hSok:∀k,Imm objs1 γ w k→k<w.heap.size∧k∉(γ p).2.toList:=fun k hk=>⟨hk.lt,fun hm=>hk.own p hpm (by simpa using hm)⟩;unfold EfR Oper.wp;rw[hx,qas hbo];rw[Oper.upon_enter]
        refine(hc.calls w (Imm objs1 γ w) v _ us1 vs _ (xs,z) rr hSok f1.o.tab hown hrep hargs hpull hφ).mono fun e w' hh=>?_;obtain⟨rfl,hch,us',hown',hrep'⟩:=hh;have hxl:(List.length (α:=D c'.e) rr.1)=xs.length:=by
          rcases hown with ⟨_,⟨ao1,h12⟩,h13,_⟩ | ⟨b1,cap1,cur,_,h12,_⟩
          · rcases hown' with ⟨_,_,h14,_⟩ | ⟨b2,cap2,cur2,h14,h15,_⟩
            · omega
            · rw[h12] at h15;simp only[Value.slice.injEq] at h15;have:=h15.2.1;omega
          · rcases hown' with ⟨_,⟨ao2,h14⟩,h15,_⟩ | ⟨b2,cap2,cur2,_,h15,_⟩
            · rw[h12] at h14;simp only[Value.slice.injEq] at h14;have:=h14.2.1;omega
            · rw[h12] at h15;simp only[Value.slice.injEq] at h15;exact h15.2.1.symm
        have hfc:=qnX (γ:=γ) (w:=w') (objs:=objs1.set p (.arr c'.i c'.e rr.1 false)) c'.ρ rr.2 0 hc.flatR;have hres:PR (objs1.set p (.arr c'.i c'.e rr.1 false)) γ w' (resRO c' (cc c'.ρ rr.2 0).1) (resV c'.one c'.res c'.ρ (qbK c'.ρ rr.2)):=by
          unfold resRO resV
          cases hc1:c'.one with
          | true=>exact qbA (qd9 _ _ _) hfc.1
          | false=>exact⟨_,rfl,by simpa using qfz (by rw[qd9,hc.wf hc1]) hfc.1⟩
        cases hM:(γ p).2 with
        | none =>
          rw[hM] at hch hown';simp only[Option.toList_none] at hch hown';have hnil:rr.1=([]:List (D c'.e)):=by
            rcases hown' with ⟨_,_,h12,_⟩ | ⟨_,_,_,h12,_⟩
            · exact List.length_eq_zero_iff.1 h12
            · cases h12
          have hnilx:xs=[]:=List.length_eq_zero_iff.1 (by rw[←hxl,hnil];rfl);have hsame:objs1.set p (.arr c'.i c'.e rr.1 false)=objs1:=by
            apply List.ext_getElem?;intro j;rw[List.getElem?_set];by_cases hj:p=j
            · subst hj;rw[if_pos rfl,if_pos hlt1,hob,hnil,hnilx]
            · rw[if_neg hj]
          rw[hsame] at h10 hres;have K1:Keep σ.objs γ w objs1 γ w' σ.objs.length:=f1.keep.trans (by rw[←f1.len];exact Keep.ext hch);obtain⟨g1,g2⟩:=qbm r K1 (f1.o.ext hch) f1.same (fun o' _ hp'=>f1.prot o' hp') h10 hres;exact⟨σ',_,h11,g1,g2⟩
        | some b =>
          rw[hM] at hch hown';simp only[Option.toList_some] at hch hown'
          obtain⟨hor,K⟩:=qhw (ob := .arr c'.i c'.e rr.1 false) hch f1.o hpm hM rfl (fun K=>by
            refine⟨us',?_,hrep'.mono fun x c hx=>qhq c'.e hc.flat hx⟩;rw[hM,←hv]
            exact hown')
          have K1:Keep σ.objs γ w (objs1.set p (.arr c'.i c'.e rr.1 false)) γ w' σ.objs.length:=f1.keep.trans (by rw[←f1.len];exact K)
          obtain⟨g1,g2⟩:=qbm r K1 hor (f1.same.trans (qfK hob hxl) (by rw[f1.len];exact Nat.le_refl _)) (fun o' _ hp'=>by
            rw[qA (fun e=>by subst e;rw[hpr] at hp';cases hp')]
            exact f1.prot o' hp') h10 hres
          exact⟨σ',_,h11,g1,g2⟩
    | _=>simp at h9
  · cases h8
theorem ef_ck (hE:EnvOK P env) (r:Rel F σ γ a w) {f:Operand} {args:Array Operand} {ats:Array TypeId} {s:FuncId×TypeId} (ho:o.op = .call ⟨.value f,args,ats⟩) (hs:ckOf P env σ f=some s) (h:ckE σ o s.2 args.toList k=some res):EfR P F σ γ a w o k res Q:=by
  obtain⟨g,t⟩:=s;simp only[ckOf,Option.bind_eq_some_iff,chk_some,Option.some.injEq,Prod.mk.injEq] at hs;obtain⟨q,h1,⟨g',caps⟩,h2,h3,t',h4,hbo,e1,e2⟩:=hs;simp only at e1 hbo h4 h3;subst e1;subst e2
  have hcaps:caps=[]:=by simpa using h3
  subst hcaps;have hc:=hE.ck g' t' h4;obtain⟨_,l,hfv,hpl⟩:VR σ.objs γ w (.fn g' []) (a.eval f):=by
    have:=qg r (qj σ) h1;rw[qbf h2] at this;exact this
  simp only[PtrL] at hpl;subst hpl;have hx:=qcb (ρ:=a.eval) ho hfv;rw[List.append_nil] at hx;simp only[ckE] at h;split at h
  · rename_i x hal;simp only[Option.bind_eq_some_iff] at h;obtain⟨pv,h5,c,h6,h7⟩:=h;have hcv:=qa7 h6;subst hcv;split at h7
    · rename_i p off;simp only[Option.bind_eq_some_iff] at h7;obtain⟨ob,hob,h8⟩:=h7
      cases ob with
      | bld tb bc =>
        simp only[chk_some,Bool.and_eq_true,Bool.not_eq_true',Option.bind_eq_some_iff] at h8;obtain⟨⟨ho0,htt,hpr⟩,σ',h9,h10⟩:=h8;obtain rfl:=Nat.eq_of_beq_eq_true ho0;obtain rfl:=Nat.eq_of_beq_eq_true htt;obtain⟨hlt,b,hg,hv⟩:VR σ.objs γ w (.ptr p 0) (a.eval x):=qg r (qj σ) h5;obtain⟨b',pp,vv,hgg,hheap,hpp,hvc⟩:=r.o.rep p _ hob
        have hbb:b'=b:=by rw[hgg] at hg;simpa using hg
        subst hbb
        have hargs:(args.toList.map a.eval)=[.pointer (some ⟨b',0,none⟩)]:=by rw[hal];simp[hv]
        unfold EfR Oper.wp;rw[hx,qas hbo,Oper.upon_enter,hargs];refine(hc w b' pp vv hheap hpp.1).mono fun e w' hh=>?_;obtain⟨rfl,hch,hheap'⟩:=hh;have hsame:σ.objs.set p (.bld tb bc)=σ.objs:=by
          apply List.ext_getElem?;intro j;rw[List.getElem?_set];by_cases hj:p=j
          · subst hj;rw[if_pos rfl,if_pos hlt,hob]
          · rw[if_neg hj]
        obtain⟨hor,K⟩:=qhw (ob := .bld tb bc) hch r.o ⟨_,hob,rfl⟩ hg rfl (fun K=>⟨b',_,vv,hgg,hheap',⟨.inr rfl,hpp.2⟩,VR.keep K hvc.below hvc⟩);rw[hsame] at hor K;obtain⟨g1,g2⟩:=qbm r K hor (SameLen.refl _) (fun _ _ _=>rfl) h9 (v := .tuple #[]) ⟨#[],rfl,rfl⟩;exact⟨σ',_,h10,g1,g2⟩
      | _=>simp at h8
    · cases h7
  · cases h
theorem qkk {objs:List OB} {p:Nat}:SameLen objs (objs.set p .dead):=fun o ti e xs fz hx hlt=>by
  rw[List.getElem?_set] at hx;split at hx
  · split at hx
    · cases hx
    · cases hx
  · exact⟨_,_,_,_,hx,rfl⟩
theorem kill_obj {objs:List OB} (r:ORel F objs γ w) (p:Nat):ORel F (objs.set p .dead) γ w∧Keep objs γ w (objs.set p .dead) γ w objs.length:=by
  have hget:∀o ob,(objs.set p .dead)[o]?=some ob→ob=OB.dead∨objs[o]?=some ob:=fun o ob h=>by
    rw[List.getElem?_set] at h;split at h
    · split at h
      · cases h;exact .inl rfl
      · cases h
    · exact .inr h
  have hmu:∀o,Mut (objs.set p .dead) o→Mut objs o:=by
    rintro o ⟨ob,h1,h2⟩
    rcases hget o ob h1 with rfl | h3
    · cases h2
    · exact⟨ob,h3,h2⟩
  have K:Keep objs γ w (objs.set p .dead) γ w objs.length:=⟨⟨fun k hk=>⟨hk.lt,hk.s,fun o hm=>hk.own o (hmu o hm),hk.nb⟩,fun _ _ h=>h⟩,fun _ _=>rfl,by simp,fun _ _=>rfl,Nat.le_refl _,rfl,fun _ _ _ _ h=>h⟩;refine⟨⟨fun o ob h=>?_,fun o1 o2 b h1 h2=>r.inj o1 o2 b (hmu o1 h1) (hmu o2 h2),fun o b h=>r.own o b (hmu o h),fun o b h1 h2=>r.lt o b (by simpa using h1) h2,r.chg,fun o i e xs b h1 h2=>?_,r.up,r.tab.mono K.imm K.heap,r.bl,fun o b hm=>r.bo o b (hmu o hm),fun o t q ow xs lent ho=>(r.ar o t q ow xs lent (SameAr.set objs p rfl o t q ow xs lent ho)).keep K rfl rfl (fun _=>rfl) (fun _ _=>rfl)⟩,K⟩
  · rcases hget o ob h with rfl | h3
    · trivial
    · exact ObR.keep K (fun _ _=>rfl) (r.rep o ob h3)
  · rcases hget o _ h1 with h3 | h3
    · cases h3
    · exact K.imm _ (r.frz o i e xs b h3 h2)
theorem ef_bst (hE:EnvOK P env) (r:Rel F σ γ a w) {f:Operand} {args:Array Operand} {ats:Array TypeId} {s:FuncId×TypeId×TypeId} (ho:o.op = .call ⟨.value f,args,ats⟩) (hs:bsOf P env σ f=some s) (h:bstE σ o s.2.1 s.2.2 args.toList k=some res):EfR P F σ γ a w o k res Q:=by
  obtain⟨g,t,i⟩:=s;simp only[bsOf,Option.bind_eq_some_iff,chk_some,Option.some.injEq,Prod.mk.injEq] at hs;obtain⟨q,h1,⟨g',caps⟩,h2,h3,⟨t',i'⟩,h4,hbo,e1,e2⟩:=hs;simp only[Prod.mk.injEq] at e1 hbo h4 h3 e2;obtain⟨e2,e3⟩:=e2;subst e1;subst e2;subst e3
  have hcaps:caps=[]:=by simpa using h3
  subst hcaps;have hc:=hE.bs g' t' i' h4;obtain⟨_,l,hfv,hpl⟩:VR σ.objs γ w (.fn g' []) (a.eval f):=by
    have:=qg r (qj σ) h1;rw[qbf h2] at this;exact this
  simp only[PtrL] at hpl;subst hpl;have hx:=qcb (ρ:=a.eval) ho hfv;rw[List.append_nil] at hx;simp only[bstE] at h;split at h
  · rename_i x hal;simp only[Option.bind_eq_some_iff] at h;obtain⟨pv,h5,c,h6,h7⟩:=h;have hcv:=qa7 h6;subst hcv;split at h7
    · rename_i p off;simp only[Option.bind_eq_some_iff] at h7;obtain⟨ob,hob,h8⟩:=h7
      cases ob with
      | bld tb bc =>
        simp only[chk_some,Bool.and_eq_true] at h8;obtain⟨⟨ho0,htt⟩,h8⟩:=h8;obtain rfl:=Nat.eq_of_beq_eq_true ho0;obtain rfl:=Nat.eq_of_beq_eq_true htt;obtain⟨hlt,b,hg,hv⟩:VR σ.objs γ w (.ptr p 0) (a.eval x):=qg r (qj σ) h5;obtain⟨b',pp,vv,hgg,hheap,hpp,hvc⟩:=r.o.rep p _ hob
        have hbb:b'=b:=by rw[hgg] at hg;simpa using hg
        subst hbb
        have hargs:(args.toList.map a.eval)=[.pointer (some ⟨b',0,none⟩)]:=by rw[hal];simp[hv]
        unfold EfR Oper.wp;rw[hx,qas hbo,Oper.upon_enter,hargs];split at h8
        · obtain⟨σ',h9,h10⟩:=Option.bind_eq_some_iff.1 h8;have hv0:vv = .slice none 0 0:=hvc;refine(hc w b' pp vv [] [] hheap hpp.2 (.inl ⟨rfl,⟨none,hv0⟩,rfl,rfl⟩) (by simp)).mono fun e w' hh=>?_;obtain⟨rfl,hch⟩:=hh;obtain⟨g1,g2⟩:=qbm r (Keep.ext hch) (r.o.ext hch) (SameLen.refl _) (fun _ _ _=>rfl) h9 (v := .string (strOf [])) rfl;exact⟨σ',_,h10,g1,g2⟩
        · rename_i ro;obtain⟨ob2,hob2,h8⟩:=Option.bind_eq_some_iff.1 h8;split at h8
          · rename_i i2 xs;simp only[chk_some,Bool.and_eq_true,Bool.not_eq_true',Option.bind_eq_some_iff] at h8;obtain⟨⟨hpr,hi2⟩,σ',h9,h10⟩:=h8;obtain rfl:=Nat.eq_of_beq_eq_true hi2;obtain⟨hrl,hrv,_⟩:=hvc;obtain⟨us,hown,hrep⟩:=r.o.rep ro _ hob2;have hus:=u8_rep hrep;subst hus;rw[←hrv] at hown;have hnb:b'∉(γ ro).2.toList:=fun hm=>by
              have hm:(γ ro).2=some b':=by simpa using hm
              have:=r.o.inj p ro b' ⟨_,hob,rfl⟩ ⟨_,hob2,rfl⟩ hg hm;subst this;rw[hob] at hob2;cases hob2
            refine(hc w b' pp vv _ xs hheap hpp.2 hown hnb).mono fun e w' hh=>?_;obtain⟨rfl,hch⟩:=hh
            cases hM:(γ ro).2 with
            | none =>
              rw[hM] at hch;obtain⟨hor,K⟩:=kill_obj r.o ro;have K2:=K.trans ((Keep.ext (objs:=σ.objs.set ro .dead) (γ:=γ) hch).less (by simp));obtain⟨g1,g2⟩:=qbm r K2 (hor.ext hch) qkk (fun o' _ hp'=>qA (fun e=>by subst e;rw[hpr] at hp';cases hp')) h9 (v := .string (strOf xs)) rfl;exact⟨σ',_,h10,g1,g2⟩
            | some rb =>
              rw[hM] at hch;obtain⟨hor,K⟩:=qkY (ob := .dead) hch r.o ⟨_,hob2,rfl⟩ hM (fun _ _ _ h=>by cases h) (fun _=>trivial);obtain⟨g1,g2⟩:=qbm r K hor qkk (fun o' _ hp'=>qA (fun e=>by subst e;rw[hpr] at hp';cases hp')) h9 (v := .string (strOf xs)) rfl;exact⟨σ',_,h10,g1,g2⟩
          · cases h8
        · cases h8
      | _=>simp at h8
    · cases h7
  · cases h
theorem ef_ins (hE:EnvOK P env) (r:Rel F σ γ a w) {f:Operand} {args:Array Operand} {ats:Array TypeId} {s:FuncId×Ins} (ho:o.op = .call ⟨.value f,args,ats⟩) (hs:insOf P env σ f=some s) (h:insE σ o s.2 args.toList k=some res):EfR P F σ γ a w o k res Q:=by
  obtain⟨g,s⟩:=s;simp only[insOf,Option.bind_eq_some_iff,chk_some,Option.some.injEq,Prod.mk.injEq] at hs;obtain⟨q,h1,⟨g',caps⟩,h2,h3,s',h4,hbo,e1,e2⟩:=hs;simp only at e1 hbo h4 h3;subst e1;subst e2
  have hcaps:caps=[]:=by simpa using h3
  subst hcaps;have hc:=hE.ins g' s' h4;obtain⟨_,l,hfv,hpl⟩:VR σ.objs γ w (.fn g' []) (a.eval f):=by
    have:=qg r (qj σ) h1;rw[qbf h2] at this;exact this
  simp only[PtrL] at hpl;subst hpl;have hx:=qcb (ρ:=a.eval) ho hfv;rw[List.append_nil] at hx;simp only[insE] at h;split at h
  · rename_i x y z hal;simp only[Option.bind_eq_some_iff,chk_some,req_some,Bool.and_eq_true,decide_eq_true_eq] at h;obtain⟨pb,h5,bc,h6,pu,h7,⟨kk,j⟩,h8,pv,h9,vc,h10,⟨xs,objs0⟩,h11,ys,h12,hk1,⟨hj0,hj1,hys,hroom⟩,σ',h13,h14⟩:=h
    have hys:0<ys.length:=by simpa[Nat.blt_eq] using hys
    have hroom:=Nat.le_of_ble_eq_true hroom;have hkk:=qaZ hk1;simp only at hkk hj0 hj1 hroom h13 h12;subst hkk;have e6:=qa7 h6;subst e6;have e10:=qa7 h10;subst e10;have hvy:a.eval y = .int .i64 j:=qbv r (qj σ) h7 h8;have hvx:VR σ.objs γ w bc (a.eval x):=qg r (qj σ) h5;have hvz:VR σ.objs γ w vc (a.eval z):=qg r (qj σ) h9;obtain⟨M0,us,hcons,hown,hrep⟩:=qer r h11 hvx;have hM0:∀b∈M0,b<w.heap.size:=by
      cases hcons with
      | no=>intro b hb;cases hb
      | yes p0 ob0 hp0 hm0 hpr=>exact fun b hb=>r.o.lt p0 b (qz hp0) (by simpa using hb)
    cases vc with
    | os p =>
      simp only[rowOf] at h12;obtain⟨ob,hob,h15⟩:=Option.bind_eq_some_iff.1 h12
      cases ob with
      | arr i2 e2 ys2 fz =>
        cases fz with
        | true=>simp at h15
        | false =>
        simp only[chk_some] at h15;obtain⟨hi2,h16⟩:=h15;have hi2:=Nat.eq_of_beq_eq_true hi2;subst hi2;obtain⟨he2,h17⟩:=qaD h16;subst he2;have h17:ys=ys2:=Eq.symm h17;subst h17;have hob1:σ.objs[p]?=some (.arr s'.i s'.e ys false)∧∀b∈M0,b∉(γ p).2.toList:=by
          cases hcons with
          | no=>exact⟨hob,fun b hb=>by cases hb⟩
          | yes p0 ob0 hp0 hm0 hpr =>
            by_cases e3:p0=p
            · subst e3;rw[List.getElem?_set_self (qz hp0)] at hob;cases hob
            · rw[qA e3] at hob;refine⟨hob,fun b hb hb'=>e3 (r.o.inj p0 p b ⟨_,hp0,hm0⟩ ⟨_,hob,rfl⟩ (by simpa using hb) (by simpa using hb'))⟩
        obtain⟨hob2,hdisj⟩:=hob1;obtain⟨vs,hown2,hrep2⟩:=r.o.rep p _ hob2;obtain⟨hpl,hvz2,_⟩:=hvz;rw[←hvz2] at hown2
        have hargs:(args.toList.map a.eval).toArray = #[a.eval x,.int .i64 ((j.toNat:Nat):Int),a.eval z]:=by rw[hal];simp[hvy,Int.toNat_of_nonneg hj0]
        unfold EfR Oper.wp;rw[hx,qas hbo,Oper.upon_enter,hargs];refine(hc.calls w (Imm σ.objs γ w) (a.eval x) (a.eval z) M0 (γ p).2.toList xs ys us vs j.toNat hown hrep hown2 hrep2 hdisj hM0 hys (by omega) hroom).mono fun e w' hh=>?_;obtain⟨v',M',rfl,hch,hM',hown'⟩:=hh;have hlen3:(xs.take j.toNat++(ys++xs.drop j.toNat)).length=xs.length+ys.length:=by
          simp only[List.length_append,List.length_take,List.length_drop];omega
        have hrep3:RepL (fun x c=>Rep w (Imm σ.objs γ w) s'.e x [] c) (xs.take j.toNat++(ys++xs.drop j.toNat)) (us.take (j.toNat*s'.e.size)++(vs++us.drop (j.toNat*s'.e.size))) :=
          (hrep.take (Rep.slen s'.e) j.toNat).append (hrep2.append (hrep.drop (Rep.slen s'.e) j.toNat))
        obtain⟨hor,K⟩:=ql8 r.o hcons hch hM' (by rw[hlen3];exact hown') hrep3
        have hlen:objs0.length=σ.objs.length:=by cases hcons<;>simp
        obtain⟨g1,g2⟩:=qbm r K hor (qeW hcons) (qiT hcons) h13 (v:=v')
          ⟨by simp,by
            have:=qbt (γ:=γ) (n:=σ.objs.length) (j:=0) (gs:=[(v',M'.head?)]) rfl;rw[Nat.add_zero] at this
            rw[hlen,this],by
            rcases hown' with ⟨_,⟨ao,rfl⟩,_⟩ | ⟨b,cap,cur,_,rfl,_⟩
            · exact⟨_,_,_,rfl⟩
            · exact⟨_,_,_,rfl⟩⟩
        exact⟨σ',_,h14,g1,g2⟩
      | _=>simp at h15
    | _=>simp[rowOf] at h12
  · cases h
theorem equal_ptr {t e:TypeId} {j:TypeInfo} {b b':Nat} {ca cb:Array Value} {ta tb:TypeId} (hp:P.underlying t=some (.pointer e)) (he:P.info? e=some j) (hsz:j.size≠0) (ha:w.heap[b]?=some (.cells ca ta (0,0))) (hb:w.heap[b']?=some (.cells cb tb (0,0))) :
    (Op.equal t (.pointer (some ⟨b,0,none⟩)) (.pointer (some ⟨b',0,none⟩))).run P w = .ok (Nat.beq b b') w:=by
  by_cases h:b=b'
  · subst h;have h:∀d:Nat,(Op.equalIn (d+1) t (.pointer (some ⟨b,0,none⟩)) (.pointer (some ⟨b,0,none⟩))).run P w = .ok true w:=fun d=>by
      simp[Op.equalIn,run_underlying hp,sizeOf,typeInfo,he,run_sameAddr_same]
    simp[Op.equal,Op.maxDepth,h 9999]
  · have hn:(⟨b,0,none⟩:Addr)≠⟨b',0,none⟩:=fun e=>h (by simp at e);have h2:∀d:Nat,(Op.equalIn (d+1) t (.pointer (some ⟨b,0,none⟩)) (.pointer (some ⟨b',0,none⟩))).run P w = .ok false w:=fun d=>by
      simp[Op.equalIn,run_underlying hp,sizeOf,typeInfo,he,hsz,run_sameAddr_other w hn ha hb]
    have h3:Nat.beq b b'=false:=Bool.eq_false_iff.2 fun e=>h (Nat.eq_of_beq_eq_true e);rw[h3];simp[Op.equal,Op.maxDepth,h2 9999]
theorem qnG {t e:TypeId} {ad:Addr} (hp:P.underlying t=some (.pointer e)):(Op.equal t (.pointer none) (.pointer (some ad))).run P w = .ok false w:=by
  have h:∀d:Nat,(Op.equalIn (d+1) t (.pointer none) (.pointer (some ad))).run P w = .ok false w:=fun d=>by
    simp[Op.equalIn,run_underlying hp]
  simp[Op.equal,Op.maxDepth,h 9999]
theorem qrK (r:Rel F σ γ a w) {t:TypeId} {x y:Nat} {v u:Value} {p:Nat} (hp:arOf σ.objs=some p) (ht:ptrSz P t=true) (hx:RefR γ.m x [v]) (hy:RefR γ.m y [u]) {w':World} (hch:Chg [] w w'):(Op.equal t v u).run P w' = .ok (Nat.beq x y) w':=by
  obtain⟨e,hu,hsz⟩:∃e,P.underlying t=some (.pointer e)∧sized P e=true:=by
    unfold ptrSz at ht;split at ht
    · rename_i e he;exact⟨e,he,ht⟩
    · cases ht
  obtain⟨j,hj,hj0⟩:∃j,P.info? e=some j∧j.size≠0:=by
    unfold sized at hsz;split at hsz
    · rename_i j hj;refine⟨j,hj,fun e0=>?_⟩;rw[e0] at hsz;simp at hsz
    · cases hsz
  have hu':P.underlying t=some (.pointer (P.pointee t)):=by simp[Program.pointee,hu]
  obtain⟨tn,q,ow,xs,lent,hob⟩:=arOf_get hp;have blk:∀ {z b:Nat},z≠0→γ.m z=some b→∃cells,w'.heap[b]?=some (.cells cells tn (0,0)):=fun hz hb=>by
    obtain⟨_,M,hd,⟨cells,pl,h1,_⟩,hB,_⟩:=qiC r.o hob hz hb;exact⟨cells,(hch.block _ (qel h1) (by simp)).trans h1⟩
  rcases hx with ⟨rfl,hv⟩ | ⟨b,hx0,hxb,hv⟩<;>rcases hy with ⟨rfl,hw⟩ | ⟨b',hy0,hyb,hw⟩<;>simp only[List.cons.injEq,and_true] at hv hw<;>subst hv<;>subst hw
  · exact run_equal_pointer_nil (P:=P) w' t none hu'
  · have:Nat.beq 0 y=false:=Bool.eq_false_iff.2 fun e=>hy0 (Nat.eq_of_beq_eq_true e).symm;rw[this];exact qnG hu
  · have:Nat.beq x 0=false:=Bool.eq_false_iff.2 fun e=>hx0 (Nat.eq_of_beq_eq_true e);rw[this];exact run_equal_pointer_nil (P:=P) w' t (some ⟨b,0,none⟩) hu'
  · obtain⟨c1,h1⟩:=blk hx0 hxb;obtain⟨c2,h2⟩:=blk hy0 hyb;have:=equal_ptr (P:=P) hu hj hj0 h1 h2;rw[this];have hxy:Nat.beq b b'=Nat.beq x y:=by
      by_cases e:x=y
      · subst e;rw[hxb] at hyb;cases hyb;simp
      · have e1:Nat.beq x y=false:=Bool.eq_false_iff.2 fun h=>e (Nat.eq_of_beq_eq_true h);rw[e1];refine Bool.eq_false_iff.2 fun h=>e ?_;have:=Nat.eq_of_beq_eq_true h;subst this;obtain⟨ls,hs,hA,_⟩:=r.o.ar p tn q ow xs lent hob;have hm1:=hA.m (x-1);have hm2:=hA.m (y-1);rw[show x-1+1=x by omega] at hm1;rw[show y-1+1=y by omega] at hm2;have g1:(ls[x-1]?).map Prod.fst=some b:=hm1.symm.trans hxb;have g2:(ls[y-1]?).map Prod.fst=some b:=hm2.symm.trans hyb;obtain⟨q1,g3,g4⟩:=Option.map_eq_some_iff.1 g1;obtain⟨q2,g5,g6⟩:=Option.map_eq_some_iff.1 g2;have:=qdx hA.nd g3 g5 (k:=b) (by rw[←g4];simp) (by rw[←g6];simp);omega
    rw[hxy]
theorem ef_eq (r:Rel F σ γ a w) {op:BinOp} {t t':TypeId} {x y:Operand} (ho:o.op = .binOp op t x y t') {neg:Bool} (hop:op = .eql∧neg=false∨op = .neq∧neg=true) (h:eqE P σ o neg t x y k=some res):EfR P F σ γ a w o k res Q:=by
  simp only[eqE,Option.bind_eq_some_iff,chk_some,Bool.and_eq_true] at h;obtain⟨x1,hx1,y1,hy1,⟨hpo,ht⟩,σ',h1,h2⟩:=h;obtain⟨p,hpo⟩:=Option.isSome_iff_exists.1 hpo;have key:∀ {z:Operand} {z1:Nat},rfOf (ev σ [] z)=some z1→RefR γ.m z1 [a.eval z]:=fun {z z1} hz=>by
    cases hev:ev σ [] z with
    | none=>rw[hev] at hz;cases hz
    | some pv =>
      rw[hev] at hz;unfold rfOf at hz;split at hz
      · rename_i q heq;simp only[Option.some.injEq] at heq hz;subst heq;subst hz;exact qg r (qj σ) hev
      · cases hz
  have he:=qrK (P:=P) r hpo ht (key hx1) (key hy1) (Chg.refl [] w);have hrun:(execOp a.eval o).run P w = .ok (.value (.bool (bif neg then !Nat.beq x1 y1 else Nat.beq x1 y1))) w:=by
    obtain⟨dst,op',type,pos,after,guard⟩:=o;simp only at ho;subst ho;have ptr:∀ {z:Operand} {z1:Nat},RefR γ.m z1 [a.eval z]→∃q,a.eval z = .pointer q:=fun {z z1} hz=>by
      rcases hz with ⟨_,h⟩ | ⟨_,_,_,h⟩<;>simp only[List.cons.injEq,and_true] at h<;>exact⟨_,h⟩
    obtain⟨q1,e1⟩:=ptr (key hx1);obtain⟨q2,e2⟩:=ptr (key hy1);rw[e1,e2] at he;generalize a.eval=ρ at e1 e2 ⊢;rcases hop with ⟨rfl,rfl⟩ | ⟨rfl,rfl⟩
    · simp[execOp,eqGuard,binOp,e1,e2,he,go_sem]
    · simp[execOp,eqGuard,binOp,e1,e2,he,go_sem]
  exact EfR.val hrun h2 (r.putO h1 (fun x hx=>by cases hx) (fun _=>rfl) (fun hn=>absurd (qj _) hn)) (Step.putO h1)
theorem take_spec (r:Rel F σ γ a w) {pv:PV} {c:Cv} {objs':List OB} {v:Value} (h:takeA σ.objs σ.prO pv=some (c,objs')) (hv:PR σ.objs γ w pv v):∃γ',Rel F { σ with objs:=objs' } γ' a w∧Step σ γ w { σ with objs:=objs' } γ' w∧VR objs' γ' w c v:=by
  cases pv with
  | c c' =>
    simp only[takeA,Option.some.injEq,Prod.mk.injEq] at h;obtain⟨rfl,rfl⟩:=h;exact⟨γ,r,Step.refl _ _ _,hv⟩
  | al p y =>
    simp only[takeA,Option.bind_eq_some_iff] at h;obtain⟨ob,hob,h⟩:=h;split at h
    rotate_left
    · cases h
    rename_i t' q i xs;simp only[chk_some,Bool.and_eq_true,Bool.not_eq_true',Option.some.injEq,Prod.mk.injEq] at h;obtain⟨⟨hpr,hpo⟩,rfl,rfl⟩:=h;have hpo:arOf σ.objs=some p:=by
      cases h9:arOf σ.objs with
      | none=>rw[h9] at hpo;cases hpo
      | some j=>rw[h9] at hpo;rw[Nat.eq_of_beq_eq_true hpo]
    obtain⟨hplt,hy,hm,hkcv,_⟩:=hv;obtain⟨ls,hs',hA,hB,hkc,hj⟩:=r.o.ar p _ _ _ _ _ hob;have hAm:∀i,γ.m (i+1)=(ls[i]?).map Prod.fst:=hA.m;obtain⟨b,hb⟩:=Option.isSome_iff_exists.1 hm;obtain⟨M,hls⟩:=ls_of hAm hy hb
    have hlt:y-1<xs.length:=by rw[←hA.len];exact qz hls
    have hlt2:y-1<hs'.length:=by rw[hA.lenH];exact hlt
    obtain⟨cells,pl,n1,n2,n3,v0,n5,n6,n7⟩:=hA.node (y-1) _ _ _ hls (List.getElem?_eq_getElem hlt) (List.getElem?_eq_getElem hlt2);have hv0:v=v0:=by
      have:=hkc (y-1) v0 (by rw[List.getElem?_eq_getElem hlt2,n5]);rw[show y-1+1=y by omega,hkcv] at this;cases this;rfl
    subst hv0;obtain⟨us,hown,hrefs⟩:∃us,OwnR w i Ty.ref.size v M ((qcB xs y).getD []).length us∧RefsL γ.m ((qcB xs y).getD []) us:=by
      have hk:qcB xs y=xs[y-1].2:=by unfold qcB;rw[getE hlt]
      rw[hk];rcases n7 with ⟨n7,_⟩ | ⟨_,⟨n8,n9,n10⟩ | ⟨ks,us,n8,n10,n11⟩⟩
      · cases n7
      · rw[n8];exact⟨[],.inl ⟨n9,⟨none,n10⟩,rfl,rfl⟩,rfl⟩
      · rw[n8];exact⟨us,n10,n11⟩
    generalize (qcB xs y).getD []=ks at *;have hM1:M=(M.head?).toList:=by
      rcases hown with ⟨h,_⟩ | ⟨b,_,_,h,_⟩<;>rw[h]<;>rfl
    have hMB:∀k∈M,k∈γ.B:=fun k hk=>hB k (qaR hls k (List.mem_cons_of_mem _ hk));have hbM:b∉M:=(List.nodup_cons.1 (qhu hA.nd hls)).1
    let B':=γ.B.filter fun k=>!M.elem k
    have hB':∀k,k∈B'↔k∈γ.B∧k∉M:=fun k=>by
      show k∈γ.B.filter _↔_;rw[List.mem_filter];simp
    let kc':Nat→Nat→Option Value:=fun o' z=>if o'=σ.objs.length then γ.kc p z else γ.kc o' z
    have hmut:∀o',Mut (σ.objs.set p .dead) o'→Mut σ.objs o':=by
      rintro o' ⟨ob,g1,g2⟩
      rcases qo g1 with ⟨_,_,rfl⟩ | ⟨_,g1⟩
      · cases g2
      · exact⟨ob,g1,g2⟩
    have K0:Keep σ.objs γ w (σ.objs.set p .dead) (γ.arn γ.m B' kc') w σ.objs.length :=
      ⟨⟨fun k hk=>⟨hk.lt,hk.s,fun o' hm'=>hk.own o' (hmut o' hm'),fun hm'=>hk.nb ((hB' k).1 hm').1⟩,fun _ _ h=>h⟩,fun k hk=>rfl,by simp,fun _ _=>rfl,Nat.le_refl _,rfl,fun o' ho' z u hu=>by
          show(if o'=σ.objs.length then _ else _)=_
          rw[if_neg (by omega)];exact hu⟩
    obtain⟨hor,K⟩:=qcF (news:=[.ar t' q (some i) xs (some (y-1)),.arr i .ref ks false]) (gs:=[(undef,none),(v,M.head?)]) (M:=M) r.o K0 (by simp) r.o.chg rfl (by rw[hM1];simp) (by rw[hM1];cases M.head?<;>simp) (fun o' ob ho'=>by
        rcases qo ho' with ⟨_,_,rfl⟩ | ⟨_,ho'⟩
        · exact .inr (.inl rfl)
        · exact .inl ⟨r.o.rep o' ob ho',fun b' hb'=>rfl⟩) (fun o' hm=>hmut o' hm) (fun o' i e ys ho'=>by
        rcases qo ho' with ⟨_,_,e⟩ | ⟨_,ho'⟩
        · cases e
        · exact ho') (fun k hk=>⟨(r.o.bl k (hMB k hk)).1,(r.o.bl k (hMB k hk)).2,fun o' hm' he=>r.o.bo o' k (hmut o' hm') he (hMB k hk),fun hi=>hi.nb (hMB k hk)⟩) (fun K j ob g hj' hg'=>by
        match j,hj',hg' with
        | 0,hj',hg' =>
          cases hj';cases hg';exact⟨rfl,.inr rfl⟩
        | 1,hj',hg' =>
          cases hj';cases hg';refine⟨⟨us,?_,RepL.mono (fun x c h=>Rep.mono K.imm K.heap .ref h (by simp)) (RepL.mono (fun _ _ h=>⟨rfl,h⟩) hrefs:RepL (fun x c=>Rep w (Imm σ.objs γ w) .ref x [] c) ks us)⟩,.inl rfl⟩;show OwnR w i Ty.ref.size v (M.head?).toList ks.length us;rw[←hM1];exact hown
        | n+2,hj',_=>simp at hj') (fun k hk=>r.o.bl k ((hB' k).1 hk).1) (fun o' b' hm hb' hB1=>r.o.bo o' b' (hmut o' hm) hb' ((hB' b').1 hB1).1) (fun k hk hk'=>((hB' k).1 hk').2 hk) (fun K o' t2 p2 w2 x2 l2 ho'=>by
        by_cases hlt':o'<(σ.objs.set p .dead).length
        · rw[List.getElem?_append_left hlt'] at ho';rcases qo ho' with ⟨_,_,e⟩ | ⟨g,ho'⟩
          · cases e
          · exact absurd (qfr hpo o' t2 p2 w2 x2 l2 ho') g
        rw[List.getElem?_append_right (by omega)] at ho';have ho'':o'=σ.objs.length∧OB.ar t' q (some i) xs (some (y-1))=OB.ar t2 p2 w2 x2 l2:=by
          match h9:o'-(σ.objs.set p .dead).length,ho' with
          | 0,ho' =>
            refine⟨?_,by simpa using ho'⟩;simp only[List.length_set] at h9 hlt';omega
          | 1,ho'=>simp at ho'
          | n+2,ho'=>simp at ho'
        obtain⟨ho'',e⟩:=ho'';cases e;refine⟨ls.set (y-1) (b,[]),hs',ArW.mk (by rw[List.length_set];exact hA.len) hA.lenH hA.m0 (fun z=>?_) (qc9 hls hA.nd List.nodup_nil (fun k hk=>by cases hk)) (fun z q' x' h' g1 g2 g3=>?_),fun k hk=>?_,fun z u hu=>?_,fun z hz=>?_⟩
        · show γ.m (z+1)=_;rw[hAm,List.getElem?_set];by_cases hz:y-1=z
          · subst hz;rw[if_pos rfl,hls,if_pos (qz hls)];rfl
          · rw[if_neg hz]
        · by_cases hz:z=y-1
          · subst hz;rw[List.getElem?_set,if_pos rfl,if_pos (qz hls)] at g1;rw[List.getElem?_eq_getElem hlt] at g2;rw[List.getElem?_eq_getElem hlt2] at g3;cases g1;cases g2;cases g3;exact⟨cells,pl,n1,Rep.mono K.imm K.heap q n2 (by simp),n3,v,n5,n6,.inl ⟨by simp,rfl⟩⟩
          · rw[List.getElem?_set,if_neg (fun e=>hz e.symm)] at g1;have:=hA.node z q' x' h' g1 g2 g3;rw[show((none:Option Nat)==some z)=(some (y-1)==some z) by simp;omega] at this;exact this.mono K.imm K.heap fun k hk=>rfl
        · refine(hB' k).2 ⟨?_,fun hkM=>?_⟩
          · rcases qdb hls hk with hk | hk
            · exact hB k hk
            · cases hk
          · obtain⟨⟨b2,M2⟩,g1,g2⟩:=List.mem_flatMap.1 hk;obtain⟨z,g3⟩:=List.mem_iff_getElem?.1 g1;rcases qo g3 with ⟨_,_,e⟩ | ⟨g4,g5⟩
            · cases e;simp at g2;subst g2;exact hbM hkM
            · exact g4 (qdx hA.nd g5 hls g2 (List.mem_cons_of_mem _ hkM))
        · show(if o'=σ.objs.length then _ else _)=_;rw[if_pos ho''];exact hkc z u hu
        · show(if o'=σ.objs.length then _ else _)=_
          rw[if_pos ho''];exact hj z hz)
    refine⟨_,r.setObjsN K hor,⟨rfl,rfl,rfl,fun _ _ _ h=>h,fun o' ho' hp'=>?_,K⟩,?_⟩
    · show(σ.objs.set p .dead++_)[o']?=_;rw[List.getElem?_append_left (by simpa using ho'),qA (fun e2=>by subst e2;rw[hpr] at hp';cases hp')]
    · refine⟨by simp,?_,?_⟩
      · have:=qbt (γ:=γ.arn γ.m B' kc') (n:=σ.objs.length) (j:=1) (gs:=[(undef,none),(v,M.head?)]) rfl;rw[this]
      · rcases hown with ⟨_,⟨ao,rfl⟩,_⟩ | ⟨b,cap,cur,_,rfl,_⟩
        · exact⟨_,_,_,rfl⟩
        · exact⟨_,_,_,rfl⟩
  | _=>simp[takeA] at h
theorem qqU {S:Sp} {τ:Ty} {y:D τ} {c:List Value} (hy:Rep w S τ y [] c):∀(p:Ty),chainT p=true→∀ {x:D p} {pl:List Value},Rep w S p x [] pl→Rep w S (snocT p τ) (snocD p τ x y) [] (pl++c)
  | .st f r,hc,x,pl,⟨c1,c2,M1,M2,h1,h2,h3,h4⟩=>by
    obtain⟨rfl,rfl⟩:=List.append_eq_nil_iff.1 h2.symm;subst h1;exact⟨c1,c2++c,[],[],by simp,rfl,h3,qqU hy r hc h4⟩
  | .nil,_,x,pl,⟨_,h⟩=>by
    subst h;exact⟨c,[],[],[],by simp,rfl,hy,rfl,rfl⟩
  | .int _,hc,_,_,_=>by cases hc
  | .bool,hc,_,_,_=>by cases hc
  | .str,hc,_,_,_=>by cases hc
  | .sl _,hc,_,_,_=>by cases hc
  | .osl _ _,hc,_,_,_=>by cases hc
  | .obx _,hc,_,_,_=>by cases hc
  | .onl _ _,hc,_,_,_=>by cases hc
  | .err,hc,_,_,_=>by cases hc
  | .bld _ _,hc,_,_,_=>by cases hc
  | .ref,hc,_,_,_=>by cases hc
theorem qlU:∀(ls:List (Nat×List Nat)),(flatB (ls.map fun q=>(q.1,[]))).Sublist (flatB ls)
  | []=>List.Sublist.slnil
  | q::r=>by
    show(q.1::flatB (r.map fun q=>(q.1,[]))).Sublist (q.1::(q.2++flatB r));exact((qlU r).trans (List.sublist_append_right _ _)).cons_cons _
theorem fra_spec (r:Rel F σ γ a w) {objs':List OB} (h:fraO σ.objs σ.prO=some objs'):∃γ',Rel F { σ with objs:=objs' } γ' a w∧Step σ γ w { σ with objs:=objs' } γ' w:=by
  simp only[fraO,Option.bind_eq_some_iff] at h;obtain⟨p,hpo,ob,hob,h⟩:=h;split at h
  rotate_left
  · cases h
  rename_i t' q i xs;simp only[chk_some,Bool.and_eq_true,Bool.not_eq_true',Option.some.injEq] at h;obtain⟨⟨hpr,hch,hpu⟩,rfl⟩:=h;obtain⟨ls,hs',hA,hB,hkc,hj⟩:=r.o.ar p _ _ _ _ _ hob;have hAm:∀i,γ.m (i+1)=(ls[i]?).map Prod.fst:=hA.m
  let KB:=ls.flatMap Prod.snd
  let B':=γ.B.filter fun k=>!KB.elem k
  have hB':∀k,k∈B'↔k∈γ.B∧k∉KB:=fun k=>by
    show k∈γ.B.filter _↔_;rw[List.mem_filter];simp
  have hKB:∀ {z:Nat} {q':Nat×List Nat} {k:Nat},ls[z]?=some q'→k∈q'.2→k∈KB:=fun h1 h2=>List.mem_flatMap.2 ⟨_,List.mem_of_getElem? h1,h2⟩;have hmut:∀o',Mut (σ.objs.set p .dead) o'→Mut σ.objs o':=by
    rintro o' ⟨ob,g1,g2⟩
    rcases qo g1 with ⟨_,_,rfl⟩ | ⟨_,g1⟩
    · cases g2
    · exact⟨ob,g1,g2⟩
  let kc':Nat→Nat→Option Value:=fun o' z=>if o'=σ.objs.length then none else γ.kc o' z
  have K0:Keep σ.objs γ w (σ.objs.set p .dead) (γ.arn γ.m B' kc') w σ.objs.length :=
    ⟨⟨fun k hk=>⟨hk.lt,hk.s,fun o' hm'=>hk.own o' (hmut o' hm'),fun hm'=>hk.nb ((hB' k).1 hm').1⟩,fun _ _ h=>h⟩,fun k hk=>rfl,by simp,fun _ _=>rfl,Nat.le_refl _,rfl,fun o' ho' z u hu=>by
        show(if o'=σ.objs.length then _ else _)=_
        rw[if_neg (by omega)];exact hu⟩
  obtain⟨hor,K⟩:=qcF (news:=[.ar t' (snocT q (.sl .ref)) none (xs.map fun x=>(snocD q (.sl .ref) x.1 (x.2.getD []),none)) none]) (gs:=[(undef,none)]) (M:=[]) r.o K0 (by simp) r.o.chg rfl rfl List.nodup_nil (fun o' ob ho'=>by
      rcases qo ho' with ⟨_,_,rfl⟩ | ⟨_,ho'⟩
      · exact .inr (.inl rfl)
      · exact .inl ⟨r.o.rep o' ob ho',fun b' hb'=>rfl⟩) (fun o' hm=>hmut o' hm) (fun o' i e ys ho'=>by
      rcases qo ho' with ⟨_,_,e⟩ | ⟨_,ho'⟩
      · cases e
      · exact ho') (fun k hk=>by cases hk) (fun K j ob g hj' hg'=>by
      obtain⟨_,rfl⟩:=qcT hj';obtain⟨_,rfl⟩:=qcT hg';exact⟨rfl,.inr rfl⟩) (fun k hk=>r.o.bl k ((hB' k).1 hk).1) (fun o' b' hm hb' hB1=>r.o.bo o' b' (hmut o' hm) hb' ((hB' b').1 hB1).1) (fun k hk hk'=>by cases hk) (fun K o' t2 p2 w2 x2 l2 ho'=>by
      by_cases hlt':o'<(σ.objs.set p .dead).length
      · rw[List.getElem?_append_left hlt'] at ho';rcases qo ho' with ⟨_,_,e⟩ | ⟨g,ho'⟩
        · cases e
        · exact absurd (qfr hpo o' t2 p2 w2 x2 l2 ho') g
      rw[List.getElem?_append_right (by omega)] at ho';obtain⟨h0,e⟩:=qcT ho';have ho'':o'=σ.objs.length:=by
        simp only[List.length_set] at h0 hlt';omega
      cases e;have himm:∀k,k∈γ.B→k∈KB→Imm (σ.objs.set p .dead++[.ar t' (snocT q (.sl .ref)) none (xs.map fun x=>(snocD q (.sl .ref) x.1 (x.2.getD []),none)) none]) (upd (γ.arn γ.m B' kc') σ.objs.length [(undef,none)]) w k:=fun k hk hk2=>by
        refine⟨(r.o.bl k hk).1,r.o.up k (r.o.bl k hk).2,fun o2 hm2 he=>?_,fun hm2=>((hB' k).1 hm2).2 hk2⟩;obtain⟨ob2,g1,g2⟩:=hm2;by_cases hl2:o2<(σ.objs.set p .dead).length
        · rw[List.getElem?_append_left hl2] at g1;rw[qgP (by simpa using hl2)] at he;exact r.o.bo o2 k (hmut o2 ⟨ob2,g1,g2⟩) he hk
        · rw[List.getElem?_append_right (by omega)] at g1;obtain⟨_,e⟩:=qcT g1;subst e;cases g2
      refine⟨ls.map fun q=>(q.1,[]),List.replicate ls.length none,ArW.mk (by simp[hA.len]) (by simp[hA.len]) hA.m0 (fun z=>?_) (hA.nd.sublist (qlU ls)) (fun z q' x' h' g1 g2 g3=>?_),fun k hk=>?_,fun z u hu=>?_,fun z hz=>?_⟩
      · show γ.m (z+1)=_;rw[hAm,List.getElem?_map,Option.map_map];rfl
      · rw[List.getElem?_map] at g1 g2;obtain⟨q0,g4,rfl⟩:=Option.map_eq_some_iff.1 g1;obtain⟨x0,g5,rfl⟩:=Option.map_eq_some_iff.1 g2;have g6:h'=none:=by
          rw[List.getElem?_replicate] at g3;split at g3
          · exact(Option.some.inj g3).symm
          · cases g3
        subst g6
        have hlt2:z<hs'.length:=by rw[hA.lenH];exact qz g5
        obtain⟨cells,pl,n1,n2,n3,v,n5,n6,n7⟩:=hA.node z _ _ _ g4 g5 (List.getElem?_eq_getElem hlt2);rw[n5] at n3;have n3:cells.toList=pl++[v]:=n3;have hkid:∀k∈q0.2,Imm (σ.objs.set p .dead++[.ar t' (snocT q (.sl .ref)) none (xs.map fun x=>(snocD q (.sl .ref) x.1 (x.2.getD []),none)) none]) (upd (γ.arn γ.m B' kc') σ.objs.length [(undef,none)]) w k:=fun k hk=>himm k (hB k (qaR g4 k (List.mem_cons_of_mem _ hk))) (hKB g4 hk);refine⟨cells,pl++[v],n1,qqU (τ := .sl .ref) ?_ q hch (Rep.mono K.imm K.heap q n2 (by simp)),by rw[n3];simp,rfl,rfl,rfl⟩;rcases n7 with ⟨n7,_⟩ | ⟨_,⟨n8,n9,n10⟩ | ⟨ks,us,n8,n10,n11⟩⟩
        · simp at n7
        · rw[n8,n10];exact⟨rfl,none,0,[],rfl,Nat.le_refl _,rfl,fun hn=>absurd rfl hn⟩
        · rw[n8];have hrep:RepL (fun x c=>Rep w (Imm (σ.objs.set p .dead++[.ar t' (snocT q (.sl .ref)) none (xs.map fun x=>(snocD q (.sl .ref) x.1 (x.2.getD []),none)) none]) (upd (γ.arn γ.m B' kc') σ.objs.length [(undef,none)]) w) .ref x [] c) ks us:=RepL.mono (fun _ _ h=>⟨rfl,h⟩) n11;rcases n10 with ⟨k1,⟨ao,k2⟩,k3,k4⟩ | ⟨b,cap,cur,k1,k2,k3,k4,k5,k6,k7⟩
          · have:ks=[]:=List.eq_nil_of_length_eq_zero k3;subst this;rw[k2];exact⟨rfl,ao,0,[],rfl,Nat.le_refl _,rfl,fun hn=>absurd rfl hn⟩
          · rw[k2];refine⟨rfl,_,cap,us,rfl,k4,hrep,fun hn=>⟨_,rfl,hkid b (by rw[k1];simp),?_⟩⟩;have hown:OwnR w i 1 v q0.2 ks.length us := .inr ⟨b,cap,cur,k1,k2,k3,k4,k5,k6,k7⟩;obtain⟨b',cap',e1,e2,_,hcell⟩:=hown.cells (fun hl=>hn (List.eq_nil_of_length_eq_zero hl));rw[k1] at e1;simp only[List.cons.injEq,and_true] at e1;subst e1;exact hcell
      · obtain⟨⟨b2,M2⟩,g1,g2⟩:=List.mem_flatMap.1 hk;obtain⟨q0,g3,g4⟩:=List.mem_map.1 g1;cases g4;simp at g2;subst g2;refine(hB' _).2 ⟨?_,fun hkM=>?_⟩
        · obtain⟨z,g5⟩:=List.mem_iff_getElem?.1 g3;exact hB _ (qaR g5 _ (by simp))
        · obtain⟨q1,g5,g6⟩:=List.mem_flatMap.1 hkM;obtain⟨z,g7⟩:=List.mem_iff_getElem?.1 g3;obtain⟨z1,g8⟩:=List.mem_iff_getElem?.1 g5;have:=qdx hA.nd g7 g8 (k:=q0.1) (by simp) (List.mem_cons_of_mem _ g6);subst this;rw[g7] at g8;cases g8;exact(List.nodup_cons.1 (qhu hA.nd g7)).1 g6
      · rw[List.getElem?_replicate] at hu;split at hu
        · cases hu
        · cases hu
      · show(if o'=σ.objs.length then _ else _)=_
        rw[if_pos ho''])
  refine⟨_,r.setObjsN K hor,⟨rfl,rfl,rfl,fun _ _ _ h=>h,fun o' ho' hp'=>?_,K⟩⟩;show(σ.objs.set p .dead++_)[o']?=_;rw[List.getElem?_append_left (by simpa using ho'),qA (fun e2=>by subst e2;rw[hpr] at hp';cases hp')]
theorem ef_del (hE:EnvOK P env) (r:Rel F σ γ a w) {f:Operand} {args:Array Operand} {ats:Array TypeId} {s:FuncId×Del} (ho:o.op = .call ⟨.value f,args,ats⟩) (hs:delOf P env σ f=some s) (h:delE σ o s.2 args.toList k=some res):EfR P F σ γ a w o k res Q:=by
  obtain⟨g,s⟩:=s;simp only[delOf,Option.bind_eq_some_iff,chk_some,Option.some.injEq,Prod.mk.injEq] at hs;obtain⟨q,h1,⟨g',caps⟩,h2,h3,s',h4,hbo,e1,e2⟩:=hs;simp only at e1 hbo h4 h3;subst e1;subst e2
  have hcaps:caps=[]:=by simpa using h3
  subst hcaps;have hc:=hE.del g' s' h4;obtain⟨_,l,hfv,hpl⟩:VR σ.objs γ w (.fn g' []) (a.eval f):=by
    have:=qg r (qj σ) h1;rw[qbf h2] at this;exact this
  simp only[PtrL] at hpl;subst hpl;have hx:=qcb (ρ:=a.eval) ho hfv;rw[List.append_nil] at hx;simp only[delE] at h;split at h
  · rename_i x y z hal;simp only[Option.bind_eq_some_iff,chk_some,Bool.and_eq_true] at h;obtain⟨pb,h5,pu,h7,⟨kk,i⟩,h8,pv,h9,⟨kl,j⟩,h10,⟨hk1,hk2⟩,⟨bc,objs1⟩,h11,h⟩:=h;have hkk:=qaZ hk1;have hkl:=qaZ hk2;simp only at hkk hkl;subst hkk;subst hkl;have hvy:a.eval y = .int .i64 i:=qbv r (qj σ) h7 h8;have hvz:a.eval z = .int .i64 j:=qbv r (qj σ) h9 h10;obtain⟨γ1,r1,s1,hvx⟩:=take_spec r h11 (qg r (qj σ) h5);simp only[delE1,Option.bind_eq_some_iff,req_some,Bool.and_eq_true,decide_eq_true_eq] at h;obtain⟨⟨xs,objs0⟩,h12,⟨hi0,hij,hjn⟩,σ',h13,h14⟩:=h;simp only at hi0 hij hjn h13;obtain⟨M0,us,hcons,hown,hrep⟩:=qer r1 h12 hvx
    have hargs:(args.toList.map a.eval).toArray = #[a.eval x,.int .i64 ((i.toNat:Nat):Int),.int .i64 ((j.toNat:Nat):Int)]:=by rw[hal];simp[hvy,hvz,Int.toNat_of_nonneg hi0,Int.toNat_of_nonneg (Int.le_trans hi0 hij)]
    unfold EfR Oper.wp;rw[hx,qas hbo,Oper.upon_enter,hargs];refine(hc.calls w (Imm objs1 γ1 w) (a.eval x) M0 xs us i.toNat j.toNat hown hrep (by omega) (by omega)).mono fun e w' hh=>?_;obtain⟨v',rfl,hch,hown'⟩:=hh;have hlen3:(xs.take i.toNat++xs.drop j.toNat).length=xs.length-(j.toNat-i.toNat):=by
      simp only[List.length_append,List.length_take,List.length_drop];omega
    have hrep3:RepL (fun x c=>Rep w (Imm objs1 γ1 w) s'.e x [] c) (xs.take i.toNat++xs.drop j.toNat) (us.take (i.toNat*s'.e.size)++us.drop (j.toNat*s'.e.size)) :=
      (hrep.take (Rep.slen s'.e) i.toNat).append (hrep.drop (Rep.slen s'.e) j.toNat)
    obtain⟨hor,K⟩:=ql8 r1.o hcons hch (.inl rfl) (by rw[hlen3];exact hown') hrep3
    have hlen:objs0.length=objs1.length:=by cases hcons<;>simp
    obtain⟨g1,g2⟩:=qbm r1 K hor (qeW hcons) (qiT hcons) h13 (v:=v')
      ⟨by simp,by
        have:=qbt (γ:=γ1) (n:=objs1.length) (j:=0) (gs:=[(v',M0.head?)]) rfl;rw[Nat.add_zero] at this
        rw[hlen,this],by
        rcases hown' with ⟨_,⟨ao,rfl⟩,_⟩ | ⟨b,cap,cur,_,rfl,_⟩
        · exact⟨_,_,_,rfl⟩
        · exact⟨_,_,_,rfl⟩⟩
    exact⟨σ',_,h14,g1,s1.trans g2⟩
  · cases h
theorem qmG {objs:List OB}:∀ {l r:List PV} {us vs:List Value},PRL objs γ w l us→PRL objs γ w r vs→PRL objs γ w (l++r) (us++vs)
  | [],_,_,_,h,g=>by simp only[PRL] at h;subst h;exact g
  | _::_,_,_,vs,⟨v,q,e,h1,h2⟩,g=>⟨v,q++vs,by simp[e],h1,qmG h2 g⟩
theorem qmW {objs:List OB}:∀ {caps:List (Nat×Nat)} {l:List Value},capsLt objs.length caps→PtrL γ caps l→PRL objs γ w (ptrs caps) l
  | [],_,_,h=>h
  | (o,off)::r,_,hb,⟨b,q,e,h1,h2⟩=>⟨_,q,e,⟨hb.1,b,h1,rfl⟩,qmW hb.2 h2⟩
theorem topOB_mut {ob:OB}:∀(tp:Ty) (x:D tp) (n:Nat),ob∈(topOB tp x n).1→mutOb ob=true
  | .obx e,x,n,h=>by simp only[topOB,List.mem_singleton] at h;subst h;rfl
  | .osl i e,x,n,h=>by simp only[topOB,List.mem_singleton] at h;subst h;rfl
  | .nil,_,_,h=>by simp[topOB] at h
  | .int _,_,_,h=>by simp[topOB] at h
  | .bool,_,_,h=>by simp[topOB] at h
  | .str,_,_,h=>by simp[topOB] at h
  | .sl _,_,_,h=>by simp[topOB] at h
  | .onl _ _,_,_,h=>by simp[topOB] at h
  | .err,_,_,h=>by simp[topOB] at h
  | .bld _ _,_,_,h=>by simp[topOB] at h
  | .st _ _,_,_,h=>by simp[topOB] at h
theorem rep_lt {w:World}:∀(τ:Ty) {x:D τ} {M:List Nat} {cs:List Value} {S:Sp},Rep w S τ x M cs→∀b∈M,b<w.heap.size:=by
  intro τ
  induction τ with
  | osl i e _=>intro x M cs S h;obtain⟨v,us,_,h2,_⟩:=h;exact h2.lt
  | onl i e _=>intro x M cs S h b hb;exact onl_lt h b hb
  | hrl i p q j bh _ _=>intro x M cs S h b hb;exact hrl_lt h b hb
  | obx e ih =>
    intro x M cs S h b hb;obtain⟨b',M',T,cells,rfl,_,h3,h4⟩:=h;rcases List.mem_cons.1 hb with rfl | hb
    · exact qel h3
    · exact ih h4 b hb
  | bld tb ib =>
    intro x M cs S h b hb;obtain⟨b',M',p',v',us,rfl,_,h3,_,h5,_⟩:=h;rcases List.mem_cons.1 hb with rfl | hb
    · exact qel h3
    · exact h5.lt b hb
  | st f r ihf ihr =>
    intro x M cs S h b hb;obtain⟨c1,c2,M1,M2,_,rfl,h3,h4⟩:=h;rcases List.mem_append.1 hb with hb | hb
    · exact ihf h3 b hb
    · exact ihr h4 b hb
  | omp k v _ _ =>
    intro x M cs S h b hb;obtain⟨b',rfl,_,_,es,clk,h3,_⟩:=h
    obtain rfl:b=b':=by simpa using hb
    exact qel h3
  | _=>intro x M cs S h b hb;rw[h.1] at hb;cases hb
theorem qok {objs:List OB}:∀ {sg:List Nat} {vs:List PV} {q:List Cv×List Cv×List PV} {us:List Value},unweave sg vs=some q→PRL objs γ w vs us →
    ∃va vb vc,VRL objs γ w q.1 va∧VRL objs γ w q.2.1 vb∧PRL objs γ w q.2.2 vc∧weave (fun g=>Value.func (.func g) #[] #[]) sg va vb vc=some us:=by
  intro sg
  induction sg with
  | nil =>
    intro vs q us h hv
    cases vs with
    | nil =>
      simp only[unweave,Option.some.injEq] at h;subst h;simp only[PRL] at hv;subst hv;exact⟨[],[],[],rfl,rfl,rfl,rfl⟩
    | cons v vs=>simp[unweave] at h
  | cons n sg ih =>
    intro vs q us h hv
    cases vs with
    | nil=>cases n with
      | zero=>simp[unweave] at h
      | succ n=>cases n with
        | zero=>simp[unweave] at h
        | succ n=>cases n<;>simp[unweave] at h
    | cons v vs =>
      obtain⟨u,us',rfl,h1,h2⟩:=hv
      match n,h with
      | 0,h =>
        simp only[unweave,Option.bind_eq_some_iff,Option.some.injEq] at h;obtain⟨c,hc,q',hq,rfl⟩:=h;rw[qa7 hc] at h1;obtain⟨va,vb,vc,a1,a2,a3,a4⟩:=ih hq h2;exact⟨u::va,vb,vc,⟨u,va,rfl,h1,a1⟩,a2,a3,by simp[weave,a4]⟩
      | 1,h =>
        simp only[unweave,Option.bind_eq_some_iff,Option.some.injEq] at h;obtain⟨c,hc,q',hq,rfl⟩:=h;rw[qa7 hc] at h1;obtain⟨va,vb,vc,a1,a2,a3,a4⟩:=ih hq h2;exact⟨va,u::vb,vc,a1,⟨u,vb,rfl,h1,a2⟩,a3,by simp[weave,a4]⟩
      | 2,h =>
        simp only[unweave,Option.bind_eq_some_iff,Option.some.injEq] at h;obtain⟨q',hq,rfl⟩:=h;obtain⟨va,vb,vc,a1,a2,a3,a4⟩:=ih hq h2;exact⟨va,vb,u::vc,a1,a2,⟨u,vc,rfl,h1,a3⟩,by simp[weave,a4]⟩
      | n+3,h =>
        simp only[unweave,Option.bind_eq_some_iff,chk_some,Bool.and_eq_true,Option.some.injEq] at h;obtain⟨⟨g,caps⟩,hg,⟨hgn,hce⟩,q',hq,rfl⟩:=h;have hgn:=Nat.eq_of_beq_eq_true hgn;simp only at hgn hce;subst hgn
        have hce:caps=[]:=by simpa using hce
        subst hce;rw[qbf hg] at h1;obtain⟨_,l,rfl,hl⟩:=h1;simp only[PtrL] at hl;subst hl;obtain⟨va,vb,vc,a1,a2,a3,a4⟩:=ih hq h2;exact⟨va,vb,vc,a1,a2,a3,by simp[weave,a4]⟩
theorem qsm (objs:List OB) (t:List Nat) (l:List OB):(qld objs t l).length=objs.length:=by
  unfold qld
  split<;>simp
theorem qrJ {objs1:List OB} {w':World} {S:Sp} {tp:Ty} {la:List Cv} {va:List Value} {t M:List Nat} {x:D tp} (n:Nat) (r:ORel F objs1 γ w) (ht:topId objs1 tp la=some t) (hl:VRL objs1 γ w la va) (h:Rep w' S tp x M va) (ho:∀i e,tp = .osl i e→M=blocks γ t) :
    la.length=tp.size∧t ⊆ idsO objs1 tp la∧(∀p∈t,Mut objs1 p)∧((t=[]∧(topOB tp x n).1=[])∨∃p ob,t=[p]∧(topOB tp x n).1=[ob]) ∧
    ∃gs:List (Value×Option Nat),gs.length=(topOB tp x n).2.length∧M=blocks γ t++(gs.flatMap fun g=>g.2.toList) ∧
      ∀(objs:List OB) (γ':Gh),Sp.le S (Imm objs γ' w')→(∀j g,gs[j]?=some g→γ' (n+j)=g)→n+gs.length≤objs.length →
        (∀p∈t,∀ob∈(topOB tp x n).1,ObR objs γ' w' ob (γ p)∧mutOb ob=true)∧(∀(j:Nat) ob g,(topOB tp x n).2[j]?=some ob→gs[j]?=some g→ObR objs γ' w' ob g∧mutOb ob=true):=by
  cases tp with
  | nil =>
    cases la with
    | nil =>
      simp only[topId,Option.some.injEq] at ht;subst ht;obtain⟨rfl,rfl⟩:=h;refine⟨rfl,by simp,by simp,.inl ⟨rfl,rfl⟩,[],rfl,by simp[blocks],fun objs γ' _ _ _=>⟨by simp,fun j ob g hj=>by simp[topOB] at hj⟩⟩
    | cons c la=>simp[topId] at ht
  | obx e =>
    unfold topId at ht;split at ht
    · rename_i e2 p off he;cases he;simp only[chk_some,Option.bind_eq_some_iff] at ht;obtain⟨hoff,ob,hob,ht⟩:=ht;have hoff:=Nat.eq_of_beq_eq_true hoff;subst hoff
      cases ob with
      | box cs =>
        simp only[Option.some.injEq] at ht;subst ht;obtain⟨v,rfl,h3⟩:=hl.one';obtain⟨b,T,cells,hg,hheap,_⟩:=r.rep p _ hob;obtain⟨_,b',hgb,rfl⟩:=h3;rw[hg] at hgb;cases hgb;obtain⟨b2,M',T',cells',rfl,e2,h5,h6⟩:=h;simp only[List.cons.injEq,Value.pointer.injEq,Option.some.injEq,Addr.mk.injEq,and_true,true_and] at e2;subst e2;obtain⟨gs,l1,m1,p1⟩:=qef e h6 n;refine⟨rfl,by simp[idsO,ptrId],fun q hq=>?_,.inr ⟨p,_,rfl,rfl⟩,gs,l1,by simp[blocks,hg,m1],fun objs γ' hS hgs hn=>?_⟩
        · simp only[List.mem_singleton] at hq;subst hq;exact⟨_,hob,rfl⟩
        · obtain⟨p2,p3⟩:=p1 objs γ' hS hgs hn;refine⟨fun q hq ob hob2=>?_,p3⟩;simp only[List.mem_singleton] at hq;subst hq;simp only[topOB,List.mem_singleton] at hob2;subst hob2;exact⟨⟨b,T',cells',hg,h5,p2⟩,rfl⟩
      | _=>simp at ht
    · rename_i he;cases he
    · rename_i he;cases he
    · cases ht
  | osl i e =>
    unfold topId at ht;split at ht
    · rename_i he;cases he
    · rename_i i2 e2 p he;cases he;simp only[Option.bind_eq_some_iff] at ht;obtain⟨ob,hob,ht⟩:=ht
      cases ob with
      | arr i' e' xs fz =>
        cases fz with
        | true=>simp at ht
        | false =>
          simp only[Option.some.injEq] at ht;subst ht;obtain⟨v,rfl,_,rfl,_⟩:=hl.one';obtain⟨v',us,e2,h5,h6⟩:=h;simp only[List.cons.injEq,and_true] at e2;subst e2;have hM:=ho i e rfl;refine⟨rfl,by simp[idsO,cv1,osId],fun q hq=>?_,.inr ⟨p,_,rfl,rfl⟩,[],rfl,by simp[hM],fun objs γ' hS hgs hn=>⟨fun q hq ob hob2=>?_,fun j ob g hj=>by simp[topOB] at hj⟩⟩
          · simp only[List.mem_singleton] at hq;subst hq;exact⟨_,hob,rfl⟩
          · simp only[List.mem_singleton] at hq;subst hq;simp only[topOB,List.mem_singleton] at hob2;subst hob2;refine⟨⟨us,?_,h6.mono fun x c hx=>Rep.mono hS (fun _ _=>rfl) _ hx (by simp)⟩,rfl⟩;rw[show(γ q).2.toList=M by rw[hM];simp[blocks]];exact h5
      | _=>simp at ht
    · rename_i he;cases he
    · cases ht
  | _ =>
    unfold topId at ht;split at ht
    · rename_i he;cases he
    · rename_i he;cases he
    · rename_i he;cases he
    · cases ht
theorem qqD (r:Rel F σ γ a w) {f:Operand} {args:List Operand} {us:List PV} (h:qrb σ f args=some us):∃g l,a.eval f = .func (.func g) #[] l.toArray∧PRL σ.objs γ w us (args.map a.eval++l)∧∃q,ev σ [] f=some q∧∃caps,asFn q=some (g,caps):=by
  simp only[qrb,Option.bind_eq_some_iff,Option.some.injEq] at h;obtain⟨q,h1,⟨g,caps⟩,h2,vs,h3,rfl⟩:=h;obtain⟨hlt,l,hfv,hpl⟩:VR σ.objs γ w (.fn g caps) (a.eval f):=by
    have:=qg r (qj σ) h1;rw[qbf h2] at this;exact this
  refine⟨g,l,hfv,?_,q,h1,caps,h2⟩;have hp:=qgQ r (qj σ) h3;have hq:=qmW (w:=w) hlt hpl;exact qmG hp hq
theorem ArG.nodup {w:World} {S:Sp}:∀ {a:Option (TypeId×Ty×Option TypeId)} {x:D (arT a)} {M:List Nat},ArG w S a x M→M.Nodup
  | none,_,_,h=>by rw[show _=[] from h];exact List.nodup_nil
  | some (_,_,_),_,_,⟨_,_,e,h⟩=>by rw[e];exact h.nd
theorem ArG.non {w:World} {S:Sp} {a:Option (TypeId×Ty×Option TypeId)} (ha:a=none) {x:D (arT a)} {M:List Nat} (h:ArG w S a x M):M=[]:=by subst ha;exact h
theorem ArG.lt {w:World} {S:Sp}:∀ {a:Option (TypeId×Ty×Option TypeId)} {x:D (arT a)} {M:List Nat},ArG w S a x M→∀k∈M,k<w.heap.size
  | none,_,_,h,k,hk=>by rw[show _=[] from h] at hk;cases hk
  | some (_,_,ow),xs,_,⟨ls,hs,e,h⟩,k,hk=>by
    rw[e] at hk;obtain⟨q,hq,hk⟩:=List.mem_flatMap.1 hk;obtain⟨i,hi⟩:=List.mem_iff_getElem?.1 hq
    have hlt:i<List.length (α:=_×Option (List Nat)) xs:=by rw[←h.len];exact qz hi
    have hlt2:i<hs.length:=by rw[h.lenH];exact hlt
    obtain⟨cells,pl,h1,h2,h3,h4⟩:=h.node i q _ _ hi (List.getElem?_eq_getElem hlt) (List.getElem?_eq_getElem hlt2);rcases List.mem_cons.1 hk with rfl | hk
    · exact qel h1
    · cases ow with
      | none=>rw[h4.2.1] at hk;cases hk
      | some j =>
        obtain⟨v,_,_,h7⟩:=h4;rcases h7 with ⟨_,h7⟩ | ⟨_,⟨_,h7,_⟩ | ⟨ks,us,_,h8,_⟩⟩
        · rw[h7] at hk;cases hk
        · rw[h7] at hk;cases hk
        · exact h8.lt k hk
theorem qsc:∀ {a:Option (TypeId×Ty×Option TypeId)} {x:D (arT a)} {aq:List OB},arRes a x=aq→(∀ob∈aq,isAr ob=true)∧(a=none→aq=[])
  | none,_,_,h=>by subst h;exact⟨fun ob hb=>(by cases hb),fun _=>rfl⟩
  | some (_,_,_),_,_,h=>by
    subst h;refine⟨fun ob hb=>?_,fun h=>by cases h⟩;rw[arRes,List.mem_singleton] at hb;subst hb;rfl
theorem arRes_len:∀ {a:Option (TypeId×Ty×Option TypeId)} {x:D (arT a)} {aq:List OB},arRes a x=aq→aq.length≤1
  | none,_,_,h=>by subst h;exact Nat.zero_le _
  | some (_,_,_),_,_,h=>by subst h;exact Nat.le_refl _
theorem arG_res {w:World} {S:Sp}:∀ {a:Option (TypeId×Ty×Option TypeId)} {x:D (arT a)} {M:List Nat},ArG w S a x M→∃kc0:Nat→Option Value,∀(objs:List OB) (γ':Gh) (o:Nat),Sp.le S (Imm objs γ' w)→γ'.m=S.m→(∀k∈M,k∈γ'.B)→(∀x,γ'.kc o x=kc0 x) →
    ∀t p ow xs lent,arRes a x=[.ar t p ow xs lent]→ArO objs γ' w o t p ow xs lent
  | none,_,_,h=>⟨fun _=>none,fun _ _ _ _ _ _ _ t p ow xs lent h=>by cases h⟩
  | some (t,p,ow),xs,_,⟨ls,hs,e,h⟩=>by
    refine⟨fun x=>(hs[x-1]?).join,fun objs γ' o hS hm hB hk t1 p1 ow1 xs1 lent1 he=>?_⟩;cases he;refine⟨ls,hs,h.mono hS hm (fun _ _=>rfl) (fun _ _=>rfl),fun k hk=>hB k (by rw[e];exact hk),fun i v hv=>?_,fun x hx=>?_⟩
    · rw[hk];show(hs[i+1-1]?).join=_;rw[Nat.add_sub_cancel,hv];rfl
    · rw[hk];show(hs[x-1]?).join=_;rw[List.getElem?_eq_none (by rw[h.lenH];omega)];rfl
theorem qso {objs1:List OB} {prO:Nat} (r:ORel F objs1 γ w):∀ {a:Option (TypeId×Ty×Option TypeId)} {ar:List Nat×D (arT a)},arArg objs1 prO a=some ar →
    ∃Ma,ArG w (Imm objs1 γ w) a ar.2 Ma∧(∀k∈Ma,k∈γ.B)∧(∀o∈ar.1,bitB prO o=false∧o<objs1.length∧∃t,∃p:Ty,∃ow,∃xs:Ents p,∃lent,objs1[o]?=some (.ar t p ow xs lent)) ∧
      (a≠none→∀(o:Nat) (t:TypeId) (p:Ty) (ow:Option TypeId) (xs:Ents p) (lent:Option Nat),objs1[o]?=some (.ar t p ow xs lent)→o∈ar.1)
  | none,ar,h=>by
    cases h;exact⟨[],rfl,fun k hk=>(by cases hk),fun o ho=>(by cases ho),fun h=>absurd rfl h⟩
  | some (t,p,ow),ar,h=>by
    simp only[arArg] at h;split at h
    · rename_i o hq;obtain⟨ob,hob,h⟩:=Option.bind_eq_some_iff.1 h
      cases ob with
      | ar t' p' ow' xs lent =>
        simp only[chk_some,Bool.and_eq_true,Bool.not_eq_true',Option.bind_eq_some_iff,Option.some.injEq] at h;obtain⟨⟨h1,h2,h3,h4⟩,ys,h5,h6⟩:=h;subst h6;have h1:=Nat.eq_of_beq_eq_true h1;subst h1;have h2:ow=ow':=by
          cases ow<;>cases ow'<;>first | rfl | cases h2 | skip
          rw[Nat.eq_of_beq_eq_true h2]
        subst h2
        cases lent with
        | some _=>cases h3
        | none =>
        unfold castE at h5;split at h5
        · rename_i e;subst e;cases h5;obtain⟨ls,hs,hA,hB,_⟩:=r.ar o _ _ _ _ _ hob;refine⟨flatB ls,⟨ls,hs,rfl,hA⟩,hB,fun o' ho'=>?_,fun _ o' t2 p2 w2 x2 l2 h9=>?_⟩
          · simp only[List.mem_singleton] at ho';subst ho';exact⟨h4,qz hob,_,_,_,_,_,hob⟩
          · have:=(qfL objs1 0 o').2 ⟨t2,p2,w2,x2,l2,Nat.zero_le _,by simpa using h9⟩;rw[hq] at this;exact this
        · cases h5
      | _=>simp at h
    · cases h
theorem clOk_spec {objs:List OB} (r:ORel F objs γ w):∀ {cl:Option FuncId} {la lcl:List Cv} {va vcl:List Value},clOk objs cl la lcl=true→VRL objs γ w la va→VRL objs γ w lcl vcl→ClR w (Imm objs γ w) cl va vcl
  | none,la,lcl,va,vcl,h,_,hv=>by
    have:lcl=[]:=by simpa[clOk] using h
    subst this;have:=hv.length;exact List.length_eq_zero_iff.1 (by simpa using this)
  | some f,la,lcl,va,vcl,h,h1,h2=>by
    unfold clOk at h;split at h
    · rename_i e;cases e
    · rename_i f0 p off n off2 e;cases e;split at h
      · rename_i f' a x b y hob;simp only[Bool.and_eq_true] at h;obtain⟨g1,g2,g3,g4,g5,g6,g7⟩:=h;have g1:=Nat.eq_of_beq_eq_true g1;have g2:=Nat.eq_of_beq_eq_true g2;have g3:=Nat.eq_of_beq_eq_true g3;have g4:=Nat.eq_of_beq_eq_true g4;have g5:=Nat.eq_of_beq_eq_true g5;have g6:=Nat.eq_of_beq_eq_true g6;have g7:=Nat.eq_of_beq_eq_true g7;subst g1;subst g2;subst g3;subst g4;subst g5;subst g6;subst g7;obtain⟨v1,e1,_,b1,hb1,e2⟩:=h1.one';obtain⟨v2,e3,_,b2,hb2,e4⟩:=h2.one';obtain⟨b3,T,cs,hg,hheap,hvl,himm⟩:=r.rep _ _ hob;obtain⟨v3,e5,_,l,e6,c1,q1,e7,hc1,c2,q2,e8,hc2,e9⟩:=hvl.one';rw[hg] at hb2 hc2;cases hb2;cases hc2;rw[hb1] at hc1;cases hc1;subst e9;subst e8;subst e7;subst e6;subst e2;subst e4;refine⟨_,_,T,e1,e3,himm,?_⟩;rw[hheap,show cs = #[_] from Array.ext' e5]
      · cases h
    · cases h
theorem qrQ (r:Rel F σ γ a w):∀ {cl:Option FuncId} {l:List Cv} {objs:List OB},clPre σ.objs σ.prO cl l=some objs→Rel F { σ with objs:=objs } γ a w∧Step σ γ w { σ with objs:=objs } γ w∧SameLen σ.objs objs
  | none,l,objs,h=>by
    cases h;exact⟨r,Step.refl _ _ _,SameLen.refl _⟩
  | some f,l,objs,h=>by
    unfold clPre at h;split at h
    · rename_i e;cases e
    · rename_i n _ e;obtain⟨ob,hob,h⟩:=Option.bind_eq_some_iff.1 h
      cases ob with
      | fbx _ =>
        cases h;exact⟨r,Step.refl _ _ _,SameLen.refl _⟩
      | box cs =>
        simp only[chk_some,Bool.not_eq_true',Option.some.injEq] at h;obtain⟨hpr,rfl⟩:=h;obtain⟨b',T,cells,hg,hheap,hvl⟩:=r.o.rep n _ hob;have hm:Mut σ.objs n:=⟨_,hob,rfl⟩
        have hgb:(γ n).2=some b':=by rw[hg]
        have hmu:∀o',Mut (σ.objs.set n (.fbx cs)) o'→Mut σ.objs o'∧o'≠n:=by
          rintro o' ⟨ob2,h8,h9⟩
          rcases qo h8 with ⟨_,_,rfl⟩ | ⟨h10,h8⟩
          · cases h9
          · exact⟨⟨ob2,h8,h9⟩,h10⟩
        have himm:Imm (σ.objs.set n (.fbx cs)) γ w b':=⟨qel hheap,r.o.up b' (r.o.own n b' hm hgb),fun o' hm' hb=>by
          obtain⟨h8,h9⟩:=hmu o' hm'
          exact h9 (r.o.inj o' n b' h8 hm hb hgb),r.o.bo n b' hm hgb⟩
        obtain⟨hor,K⟩:=qkY (ob := .fbx cs) (w':=w) (Chg.refl _ _) r.o hm hgb (fun _ _ _ e=>by cases e) (fun K=>⟨b',T,cells,hg,hheap,VRL.keep K hvl.below hvl,himm⟩);have hp:∀o',o'<σ.objs.length→bitB σ.prO o'=true→(σ.objs.set n (.fbx cs))[o']?=σ.objs[o']?:=fun o' _ hp=>by
          rw[qA (fun e2=>by subst e2;rw[hpr] at hp;cases hp)]
        exact⟨r.setObjsN K hor,⟨rfl,rfl,rfl,fun _ _ _ h=>h,hp,K⟩,fun o ti e xs fz hx _=>by
          rcases qo hx with ⟨_,_,e⟩ | ⟨_,hx⟩
          · cases e
          · exact⟨_,_,_,_,hx,rfl⟩⟩
      | _=>simp at h
    · cases h
theorem qrE {objs objs':List OB} {γ':Gh} {w':World} {n:Nat} (K:Keep objs γ w objs' γ' w' objs.length) (hs:SameLen objs objs'):∀ {l:List PV} {vs:List Value},PRL objs γ w l vs→PRL objs' γ' w' l vs
  | [],_,h=>h
  | _::_,_,⟨v,q,e,h1,h2⟩=>⟨v,q,e,PR.keep K h1.below (.inr hs) h1,qrE (n:=n) K hs h2⟩
theorem ef_go1 (r:Rel F σ γ a w) {σ0:AState} (s1:Step σ0 γ w σ γ w) {f:Operand} {args:Array Operand} {ats:Array TypeId} (ho:o.op = .call ⟨.value f,args,ats⟩) {g':FuncId} {l:List Value} {c':Goc} (hc:GocOK P g' c') (hbo:bodied P g'=true) (hfv:a.eval f = .func (.func g') #[] l.toArray)
    {la lcl lb:List Cv} {lc:List PV} {va vcl vb vc:List Value} (hva0:VRL σ.objs γ w la va) (hcl0:VRL σ.objs γ w lcl vcl) (hvb0:VRL σ.objs γ w lb vb) (hvc0:PRL σ.objs γ w lc vc) (hw:weave (fun g=>Value.func (.func g) #[] #[]) c'.sg (va++vcl) vb vc=some (args.toList.map a.eval++l))
    (h:goE1 σ o c' la lcl lb lc k=some res):EfR P F σ0 γ a w o k res Q:=by
  have hx:=qcb (ρ:=a.eval) ho hfv;simp only[goE1,Option.bind_eq_some_iff,chk_some,Bool.and_eq_true,Bool.not_eq_true',List.all_eq_true] at h;obtain⟨objs1,hfz,t,ht,y,hy,z,hz,ar,har,⟨hclk,hnd,hall⟩,rr,hφ,σ',h10,h11⟩:=h;obtain⟨f1,f2⟩:=qaB r.o hfz;have hva:VRL objs1 γ w la va:=VRL.keep f1.keep hva0.below hva0;have hvb:VRL objs1 γ w lb vb:=VRL.keep f1.keep hvb0.below hvb0;have hClR:=clOk_spec f1.o hclk hva (VRL.keep f1.keep hcl0.below hcl0);simp only[toD,Option.bind_eq_some_iff] at hy;obtain⟨y1,hy1,y2,hy2,hyy⟩:=hy;have hyy:(y1,y2)=y:=Option.some.inj hyy;subst hyy;have hlen:la.length=c'.tp.size:=by
    unfold topId at ht;split at ht
    · rename_i he;rw[he];rfl
    · rename_i he;rw[he];rfl
    · rename_i he;rw[he];rfl
    · cases ht
  rw[List.take_left' hlen] at hy1;rw[List.drop_left' hlen] at hy2;have eids:idsO objs1 (.st c'.tp c'.mv) (la++lb)=idsO objs1 c'.tp la++idsO objs1 c'.mv lb:=by
    simp only[idsO,List.take_left' hlen,List.drop_left' hlen]
  have eidd:idsD objs1 (.st c'.tp c'.mv) (la++lb)=idsD objs1 c'.tp la++idsD objs1 c'.mv lb:=by
    simp only[idsD,List.take_left' hlen,List.drop_left' hlen]
  have hdd:∀o∈idsD objs1 c'.tp la++idsD objs1 c'.mv lb,∀b,(γ o).2=some b→Imm objs1 γ w b:=fun o ho b hb=>f2 o (List.mem_append_left _ (by rw[←qly hfz,eidd];exact ho)) b hb;obtain⟨hr1,hm1⟩:=qaN (S:=Imm objs1 γ w) f1.o (Sp.le.refl _) c'.tp hy1 hva (fun o ho b hb=>hdd o (List.mem_append_left _ ho) b hb);obtain⟨hr2,hm2⟩:=qaN (S:=Imm objs1 γ w) f1.o (Sp.le.refl _) c'.mv hy2 hvb (fun o ho b hb=>hdd o (List.mem_append_right _ ho) b hb);have hargs:=qdi (S:=Imm objs1 γ w) r.o f1.keep.imm hz hc.pure hvc0 (fun o ho b _ hb=>f2 o (List.mem_append_right _ ho) b hb);rw[eids] at h10 hnd hall;obtain⟨ids,hids⟩:∃ids,idsO objs1 c'.tp la++idsO objs1 c'.mv lb=ids:=⟨_,rfl⟩;have hmut:∀o∈ids,Mut objs1 o:=fun o ho=>by
    rw[←hids] at ho;exact(List.mem_append.1 ho).elim (hm1 o) (hm2 o)
  have hMeq:blocks γ (idsO objs1 c'.tp la)++blocks γ (idsO objs1 c'.mv lb)=blocks γ ids:=by rw[←hids];simp[blocks]
  rw[hids] at h10 hnd hall;have hMmem:∀k∈blocks γ ids,∃o∈ids,(γ o).2=some k:=fun k hk=>by
    obtain⟨o,ho,hb'⟩:=List.mem_flatMap.1 hk;exact⟨o,ho,by simpa using hb'⟩
  have hMnd:=qcJ f1.o (qcy hnd) hmut;obtain⟨Ma,hArG,hMaB,har1,harU⟩:=qso f1.o har;have hMnd2:(blocks γ ids++Ma).Nodup:=List.nodup_append.2 ⟨hMnd,ArG.nodup hArG,fun k hk k' hk' e=>by
    subst e;obtain⟨o',ho',hb'⟩:=hMmem k hk
    exact f1.o.bo o' k (hmut o' ho') hb' (hMaB k hk')⟩
  have hSok:∀k,Imm objs1 γ w k→k<w.heap.size∧k∉blocks γ ids++Ma:=fun k hk=>⟨hk.lt,fun hm=>by
    rcases List.mem_append.1 hm with hm | hm
    · obtain⟨o',ho',hb'⟩:=hMmem k hm;exact hk.own o' (hmut o' ho') hb'
    · exact hk.nb (hMaB k hm)⟩
  unfold EfR Oper.wp;rw[hx,qas hbo];rw[Oper.upon_enter];refine(hc.calls w (Imm objs1 γ w) _ _ Ma va vcl vb vc _ (y1,y2,ar.2,z) rr (by rw[hMeq];exact hSok) f1.o.tab (by rw[hMeq];exact hMnd2) hr1 hr2 hArG hClR hargs hw hφ).mono fun e w' hh=>?_;obtain⟨v,rfl,hch,m,M1,M2,M3,cells2,hnd',hin,hosl,hme,hmn,hrep1,hrep2,hArG3,hv⟩:=hh;rw[hMeq] at hch
  have hin:∀k∈M1++M2++M3,k∈blocks γ ids++Ma∨w.heap.size≤k:=fun k hk=>by rw[←hMeq];exact hin k hk
  obtain⟨_,htsub,htm,htc,gs1,hg1l,hg1M,hg1p⟩:=qrJ objs1.length f1.o ht hva hrep1 (fun i e he=>by
    rw[hosl i e he];unfold topId at ht;rw[he] at ht;split at ht
    · rename_i h;cases h
    · rename_i p he2;simp only[Option.bind_eq_some_iff] at ht;obtain⟨ob,hob,ht⟩:=ht;rw[he];split at ht
      · cases ht;rfl
      · cases ht
    · rename_i h;cases h
    · cases ht)
  obtain⟨tq,htq⟩:∃tq,topOB c'.tp rr.1 objs1.length=tq:=⟨_,rfl⟩;rw[htq] at hg1l hg1p htc h10;obtain⟨gs2,hg2l,hg2M,hg2p⟩:=qef c'.ρ hrep2 (objs1.length+tq.2.length);obtain⟨cq,hcq⟩:∃cq,cc c'.ρ rr.2.2 (objs1.length+tq.2.length)=cq:=⟨_,rfl⟩;rw[hcq] at hg2l hg2p h10
  have htids:∀p∈t,p∈ids:=fun p hp=>by rw[←hids];exact List.mem_append_left _ (htsub hp)
  obtain⟨aq,haq⟩:∃aq,arRes c'.ar rr.2.1=aq:=⟨_,rfl⟩;rw[haq] at h10;obtain⟨kc0,hkc0⟩:=arG_res hArG3;rw[haq] at hkc0;obtain⟨haq1,haq2⟩:(∀ob∈aq,isAr ob=true)∧(c'.ar=none→aq=[]):=qsc haq;have hSnd:∀o∈ar.1,¬Mut objs1 o:=fun o ho hm=>by
    obtain⟨_,_,t1,p1,w1,x1,l1,h9⟩:=har1 o ho;obtain⟨ob,g1,g2⟩:=hm;rw[h9] at g1;cases g1;cases g2
  obtain⟨objs0,ho0⟩:∃objs0,qld (killL (killL objs1 ar.1) ids) t tq.1=objs0:=⟨_,rfl⟩;rw[ho0] at h10
  have hlen0:objs0.length=objs1.length:=by rw[←ho0,qsm,qeC,qeC]
  have hget0:∀o ob,objs0[o]?=some ob→(o∈t∧ob∈tq.1)∨((o∉ids∧o∉ar.1)∧objs1[o]?=some ob)∨ob = .dead:=fun o ob hob=>by
    have key:∀ {ob:OB},(killL (killL objs1 ar.1) ids)[o]?=some ob→((o∉ids∧o∉ar.1)∧objs1[o]?=some ob)∨ob = .dead:=fun hob=>by
      rcases qek ids (killL objs1 ar.1) o with ⟨k1,k2⟩ | ⟨k1,k2⟩
      · rw[k2] at hob;rcases qek ar.1 objs1 o with ⟨k3,k4⟩ | ⟨k3,k4⟩
        · rw[k4] at hob;exact .inl ⟨⟨k1,k3⟩,hob⟩
        · exact .inr (k4 _ hob)
      · exact .inr (k2 _ hob)
    rw[←ho0] at hob;rcases htc with ⟨rfl,e1⟩ | ⟨p,ob1,rfl,e1⟩
    · rw[e1] at hob;exact .inr (key hob)
    · rw[e1] at hob ⊢;simp only[qld,List.getElem?_set] at hob;by_cases e:p=o
      · subst e;rw[if_pos rfl] at hob;split at hob
        · cases hob;exact .inl ⟨by simp,by simp⟩
        · cases hob
      · rw[if_neg e] at hob;exact .inr (key hob)
  have hmu:∀o,Mut objs0 o→Mut objs1 o∧(o∉ids∨o∈t):=by
    rintro o ⟨ob,k1,k2⟩
    rcases hget0 o ob k1 with ⟨k3,k4⟩ | ⟨k3,k4⟩ | rfl
    · exact⟨htm o k3,.inr k3⟩
    · exact⟨⟨ob,k4,k2⟩,.inl k3.1⟩
    · cases k2
  have hblk:∀o k,o∉ids→(Mut objs1 o∨∃i,∃e:Ty,∃xs:List (D e),objs1[o]?=some (.arr i e xs true))→(γ o).2=some k→k∉blocks γ ids++Ma:=fun o k k1 k3 k4 hm=>by
    rcases List.mem_append.1 hm with hm | hm
    rotate_left
    · rcases k3 with k3 | ⟨i,e,xs,k3⟩
      · exact f1.o.bo o k k3 k4 (hMaB k hm)
      · exact(f1.o.frz o i e xs k k3 k4).nb (hMaB k hm)
    obtain⟨o',ho',m2⟩:=hMmem k hm;have m1:=hmut o' ho';rcases k3 with k3 | ⟨i,e,xs,k3⟩
    · exact k1 (f1.o.inj o' o k m1 k3 m2 k4▸ho')
    · exact(f1.o.frz o i e xs k k3 k4).own o' m1 m2
  obtain⟨B',kc',hB1,hB2,hB3,hkc1,hkc2⟩:∃(B':List Nat) (kc':Nat→Nat→Option Value),(∀k∈B',(c'.ar=none∧k∈γ.B)∨k∈M3)∧(c'.ar=none→B'=γ.B∧kc'=γ.kc∧M3=[])∧(∀k∈M3,k∈B')∧(∀o,o<objs1.length→∀x,kc' o x=γ.kc o x)∧(c'.ar≠none→∀x,kc' (objs1.length+tq.2.length+cq.2.length) x=kc0 x):=by
    by_cases hn:c'.ar=none
    · have hM3:M3=[]:=ArG.non hn hArG3;exact⟨γ.B,γ.kc,fun k hk => .inl ⟨hn,hk⟩,fun _=>⟨rfl,rfl,hM3⟩,fun k hk=>(by rw[hM3] at hk;cases hk),fun _ _ _=>rfl,fun h=>absurd hn h⟩
    · refine⟨M3,fun o x=>if o=objs1.length+tq.2.length+cq.2.length then kc0 x else γ.kc o x,fun k hk => .inr hk,fun h=>absurd h hn,fun k hk=>hk,fun o ho x=>if_neg (by omega),fun _ x=>if_pos rfl⟩
  have hM3lt:=ArG.lt hArG3;have hM3n:∀k∈M3,k∉M1∧k∉M2:=fun k hk=>by
    have:=(List.nodup_append.1 hnd').2.2;exact⟨fun h=>this k (List.mem_append_left _ h) k hk rfl,fun h=>this k (List.mem_append_right _ h) k hk rfl⟩
  have hImmB:∀k,Imm objs1 γ w k→k∉B':=fun k hk hm=>by
    rcases hB1 k hm with ⟨_,hm⟩ | hm
    · exact hk.nb hm
    · rcases hin k (List.mem_append_right _ hm) with h1 | h1
      · exact(hSok k hk).2 h1
      · exact Nat.not_le_of_lt hk.lt h1
  have K0:Keep objs1 γ w objs0 (γ.arn m B' kc') w' objs1.length:=⟨⟨fun k hk=>⟨Nat.lt_of_lt_of_le hk.lt hch.size,hk.s,fun o hm=>hk.own o (hmu o hm).1,hImmB k hk⟩,hme⟩,fun k hk=>hch.block k hk.lt (hSok k hk).2,by omega,fun _ _=>rfl,hch.size,rfl,fun o ho x v hv=>by
    show kc' o x=_
    rw[hkc1 o ho];exact hv⟩
  have hown:∀k∈blocks γ ids++Ma,F.w0.heap.size≤k∨k∈F.M:=fun k hm=>by
    rcases List.mem_append.1 hm with hm | hm
    rotate_left
    · exact(f1.o.bl k (hMaB k hm)).2
    obtain⟨o',ho',hb'⟩:=hMmem k hm;exact f1.o.own o' k (hmut o' ho') hb'
  have hchg:Chg F.M F.w0 w':=by
    have h0:=f1.o.chg;refine⟨hch.os.trans h0.os,hch.tape.trans h0.tape,hch.output.trans h0.output,Nat.le_trans h0.size hch.size,fun k hk hn=>(hch.block k (Nat.lt_of_lt_of_le hk h0.size) fun hm=>?_).trans (h0.block k hk hn),fun e=>Nat.le_trans (h0.drawn e) (hch.drawn e)⟩;rcases hown k hm with h1 | h1
    · omega
    · exact hn h1
  have hM12lt:∀k∈M1++M2,k<w'.heap.size:=fun k hk=>by
    rcases List.mem_append.1 hk with hk | hk
    · exact rep_lt c'.tp hrep1 k hk
    · exact rep_lt c'.ρ hrep2 k hk
  have hnew:Keep objs1 γ w (objs0++(tq.2++(cq.2++aq))) (upd (γ.arn m B' kc') objs1.length (gs1++(gs2++aq.map fun _=>(undef,none)))) w' objs1.length→((∀p∈t,∀ob∈tq.1,ObR (objs0++(tq.2++(cq.2++aq))) (upd (γ.arn m B' kc') objs1.length (gs1++(gs2++aq.map fun _=>(undef,none)))) w' ob (γ p)∧mutOb ob=true)∧VRL (objs0++(tq.2++(cq.2++aq))) (upd (γ.arn m B' kc') objs1.length (gs1++(gs2++aq.map fun _=>(undef,none)))) w' cq.1 cells2∧(∀(j:Nat) ob g,(tq.2++(cq.2++aq))[j]?=some ob→(gs1++(gs2++aq.map fun _=>(undef,none)))[j]?=some g→ObR (objs0++(tq.2++(cq.2++aq))) (upd (γ.arn m B' kc') objs1.length (gs1++(gs2++aq.map fun _=>(undef,none)))) w' ob g∧(mutOb ob=true∨isAr ob=true))∧(∀k,(k<w'.heap.size∧(Imm objs1 γ w k∨w.heap.size≤k∨k∈blocks γ (idsO objs1 c'.tp la)++blocks γ (idsO objs1 c'.mv lb)++Ma)∧k∉M1++M2++M3)→Imm (objs0++(tq.2++(cq.2++aq))) (upd (γ.arn m B' kc') objs1.length (gs1++(gs2++aq.map fun _=>(undef,none)))) w' k)∧(∀(j:Nat) ob,tq.2[j]?=some ob→mutOb ob=true)∧(∀(j:Nat) ob,cq.2[j]?=some ob→mutOb ob=true)):=by
    intro K;have himm:∀k,(k<w'.heap.size∧(Imm objs1 γ w k∨w.heap.size≤k∨k∈blocks γ (idsO objs1 c'.tp la)++blocks γ (idsO objs1 c'.mv lb)++Ma)∧k∉M1++M2++M3)→Imm (objs0++(tq.2++(cq.2++aq))) (upd (γ.arn m B' kc') objs1.length (gs1++(gs2++aq.map fun _=>(undef,none)))) w' k:=fun k hk=>by
      obtain⟨h12,h13,h14⟩:=hk;rw[hMeq] at h13;refine⟨h12,?_,fun o' hm hb=>?_,fun hb=>?_⟩
      rotate_right
      · rcases hB1 k hb with ⟨hn,hb⟩ | hb
        · rcases h13 with h13 | h13 | h13
          · exact h13.nb hb
          · exact Nat.not_le_of_lt (f1.o.bl k hb).1 h13
          · rcases List.mem_append.1 h13 with h13 | h13
            · obtain⟨o',ho',hb'⟩:=hMmem k h13;exact f1.o.bo o' k (hmut o' ho') hb' hb
            · rw[ArG.non hn hArG] at h13;cases h13
        · exact h14 (List.mem_append_right _ hb)
      · rcases h13 with h13 | h13 | h13
        · exact h13.s
        · exact f1.o.up k (.inl (Nat.le_trans f1.o.chg.size h13))
        · exact f1.o.up k (hown k h13)
      · rcases qfq hm with ⟨h16,h17⟩ | ⟨j,ob,rfl,h16⟩
        · rw[hlen0] at h16;rw[qgP h16] at hb;have hb:(γ o').2=some k:=hb;obtain⟨h18,h19⟩:=hmu o' h17;by_cases e:o'∈t
          · refine h14 (List.mem_append_left _ (List.mem_append_left _ ?_));rw[hg1M];exact List.mem_append_left _ (List.mem_flatMap.2 ⟨o',e,by simp[hb]⟩)
          · have h19:=h19.resolve_right e;rcases h13 with h13 | h13 | h13
            · exact h13.own o' h18 hb
            · exact Nat.not_le_of_lt (f1.o.lt o' k h16 hb) h13
            · exact hblk o' k h19 (.inl h18) hb h13
        · have hj:j<(gs1++(gs2++aq.map fun _=>(undef,none))).length:=by
            have:=qz h16;simp only[List.length_append,List.length_map] at this ⊢;omega
          rw[hlen0,qbt (List.getElem?_eq_getElem hj)] at hb;have hmem:=List.getElem_mem hj;refine h14 (List.mem_append_left _ ?_);rcases List.mem_append.1 hmem with hmem | hmem
          · refine List.mem_append_left _ ?_;rw[hg1M];exact List.mem_append_right _ (List.mem_flatMap.2 ⟨_,hmem,by simp[hb]⟩)
          · rcases List.mem_append.1 hmem with hmem | hmem
            · refine List.mem_append_right _ ?_;rw[hg2M];exact List.mem_flatMap.2 ⟨_,hmem,by simp[hb]⟩
            · obtain⟨_,_,e⟩:=List.mem_map.1 hmem;rw[←e] at hb;cases hb
    obtain⟨p1,p2⟩:=hg1p _ _ ⟨himm,fun _ _ h=>h⟩ (fun j g hj=>qbt (by rw[List.getElem?_append_left (qz hj)];exact hj)) (by rw[List.length_append,List.length_append,List.length_append,hlen0,hg1l];omega)
    obtain⟨p3,p4⟩:=hg2p _ _ ⟨himm,fun _ _ h=>h⟩ (fun j g hj=>by
      rw[Nat.add_assoc]
      exact qbt (by rw[←hg1l,List.getElem?_append_right (by omega),Nat.add_sub_cancel_left,List.getElem?_append_left (qz hj)];exact hj)) (by rw[List.length_append,List.length_append,List.length_append,hlen0,hg2l];omega)
    refine⟨p1,p3,fun j ob g hj hg=>?_,himm,fun j ob hj=>(p2 j ob _ hj (List.getElem?_eq_getElem (by rw[hg1l];exact qz hj))).2,fun j ob hj=>(p4 j ob _ hj (List.getElem?_eq_getElem (by rw[hg2l];exact qz hj))).2⟩;by_cases hlt:j<tq.2.length
    · rw[List.getElem?_append_left hlt] at hj;rw[List.getElem?_append_left (by omega)] at hg;exact⟨(p2 j ob g hj hg).1,.inl (p2 j ob g hj hg).2⟩
    · rw[List.getElem?_append_right (by omega)] at hj;rw[List.getElem?_append_right (by omega),hg1l] at hg;by_cases hlt2:j-tq.2.length<cq.2.length
      · rw[List.getElem?_append_left hlt2] at hj;rw[List.getElem?_append_left (by omega)] at hg;exact⟨(p4 (j-tq.2.length) ob g hj hg).1,.inl (p4 (j-tq.2.length) ob g hj hg).2⟩
      · rw[List.getElem?_append_right (by omega)] at hj;rw[List.getElem?_append_right (by omega),hg2l,List.getElem?_map,hj] at hg;have:=haq1 ob (List.mem_of_getElem? hj);cases hg;refine⟨?_,.inr this⟩
        cases ob<;>first | exact rfl | cases this
  have hflat:((gs1++(gs2++aq.map fun _=>((undef,none):Value×Option Nat))).flatMap fun g=>g.2.toList)=(gs1.flatMap fun g=>g.2.toList)++M2:=by
    have h9:((aq.map fun _=>((undef,none):Value×Option Nat)).flatMap fun g=>g.2.toList)=[]:=by
      rw[List.flatMap_eq_nil_iff];intro g hg;obtain⟨_,_,rfl⟩:=List.mem_map.1 hg;rfl
    rw[List.flatMap_append,List.flatMap_append,←hg2M,h9,List.append_nil]
  have hnd1:((gs1++(gs2++aq.map fun _=>((undef,none):Value×Option Nat))).flatMap fun g=>g.2.toList).Nodup:=by
    rw[hflat];have h9:=(List.nodup_append.1 hnd').1;rw[hg1M,List.append_assoc] at h9;exact(List.nodup_append.1 h9).2.1
  have hsubM:∀k,k∈((gs1++(gs2++aq.map fun _=>((undef,none):Value×Option Nat))).flatMap fun g=>g.2.toList)→k∈M1++M2∧k∉blocks γ t:=fun k hk=>by
    rw[hflat] at hk;have h9:=(List.nodup_append.1 hnd').1;rw[hg1M,List.append_assoc] at h9;refine⟨?_,fun hm=>(List.nodup_append.1 h9).2.2 k hm k hk rfl⟩;rw[hg1M,List.append_assoc];exact List.mem_append_right _ hk
  have hM3own:∀k∈M3,F.w0.heap.size≤k∨k∈F.M:=fun k hk=>by
    rcases hin k (List.mem_append_right _ hk) with h1 | h1
    · exact hown k h1
    · exact .inl (Nat.le_trans f1.o.chg.size h1)
  obtain⟨hor,K⟩:=qcF (news:=tq.2++(cq.2++aq)) (gs:=gs1++(gs2++aq.map fun _=>(undef,none))) (M:=(gs1++(gs2++aq.map fun _=>((undef,none):Value×Option Nat))).flatMap fun g=>g.2.toList) f1.o K0 hlen0 hchg (by simp[hg1l,hg2l]) rfl hnd1 (fun o ob hob=>by
    rcases hget0 o ob hob with ⟨k3,k4⟩ | ⟨k3,k5⟩ | rfl
    · exact .inr (.inr fun K=>((hnew K).1 o k3 ob k4).1)
    · by_cases hd:ob = .dead
      · exact .inr (.inl hd)
      · by_cases hfx:∃l,ob = .fbx l
        · obtain⟨l,rfl⟩:=hfx;refine .inl ⟨f1.o.rep o _ k5,fun b hb=>hch.block b (f1.o.lt o b (qz k5) hb) ?_⟩;obtain⟨b2,_,_,e2,_,_,hi⟩:=f1.o.rep o _ k5;rw[e2] at hb
          obtain rfl:b2=b:=by simpa using hb
          exact(hSok _ hi).2
        by_cases hia:isAr ob=true
        · refine .inl ⟨f1.o.rep o ob k5,fun b hb=>?_⟩;have:=f1.o.rep o ob k5
          cases ob<;>first | cases hia | skip
          have h9:(γ o).2=none:=this;rw[h9] at hb;cases hb
        refine .inl ⟨f1.o.rep o ob k5,fun b hb=>hch.block b (f1.o.lt o b (qz k5) hb) (hblk o b k3.1 ?_ hb)⟩
        cases ob with
        | dead=>exact absurd rfl hd
        | fbx l=>exact absurd ⟨l,rfl⟩ hfx
        | ar=>exact absurd rfl hia
        | arr i e xs fz =>
          cases fz with
          | false=>exact .inl ⟨_,k5,rfl⟩
          | true=>exact .inr ⟨i,e,xs,k5⟩
        | _=>exact .inl ⟨_,k5,rfl⟩
    · exact .inr (.inl rfl)) (fun o hm=>(hmu o hm).1) (fun o i e xs hob=>by
    rcases hget0 o _ hob with ⟨k3,k4⟩ | ⟨_,k5⟩ | k2
    · exfalso;have:mutOb (.arr i e xs true)=true:=by
        rcases htc with ⟨rfl,_⟩ | ⟨p,ob1,rfl,e1⟩
        · cases k3
        · exact(topOB_mut c'.tp rr.1 objs1.length (by rw[htq];exact k4))
      cases this
    · exact k5
    · cases k2) (fun k hk=>by
    obtain⟨hk1,hk2⟩:=hsubM k hk;have h12:=hin k (List.mem_append_left _ hk1);refine⟨hM12lt k hk1,?_,fun o hm hb=>?_,fun hi=>?_⟩
    · rcases h12 with h12 | h12
      · exact hown k h12
      · exact .inl (Nat.le_trans f1.o.chg.size h12)
    · obtain⟨h18,h19⟩:=hmu o hm;rcases h19 with h19 | h19
      · rcases h12 with h12 | h12
        · exact hblk o k h19 (.inl h18) hb h12
        · exact Nat.not_le_of_lt (f1.o.lt o k h18.lt hb) h12
      · exact hk2 (List.mem_flatMap.2 ⟨o,h19,by simp[hb]⟩)
    · rcases h12 with h12 | h12
      · exact(hSok k hi).2 h12
      · exact Nat.not_le_of_lt hi.lt h12) (fun K=>(hnew K).2.2.1) (fun k hk=>by
    rcases hB1 k hk with ⟨_,hk⟩ | hk
    · exact⟨Nat.lt_of_lt_of_le (f1.o.bl k hk).1 hch.size,(f1.o.bl k hk).2⟩
    · exact⟨hM3lt k hk,hM3own k hk⟩) (fun o b hm hb hB=>by
    obtain⟨h18,h19⟩:=hmu o hm;rcases hB1 b hB with ⟨_,hk⟩ | hk
    · exact f1.o.bo o b h18 hb hk
    · rcases h19 with h19 | h19
      · rcases hin b (List.mem_append_right _ hk) with h12 | h12
        · exact hblk o b h19 (.inl h18) hb h12
        · exact Nat.not_le_of_lt (f1.o.lt o b h18.lt hb) h12
      · refine(hM3n b hk).1 ?_;rw[hg1M];exact List.mem_append_left _ (List.mem_flatMap.2 ⟨o,h19,by simp[hb]⟩)) (fun b hb hB=>by
    obtain⟨hk1,_⟩:=hsubM b hb;rcases hB1 b hB with ⟨hn,hk⟩ | hk
    · rcases hin b (List.mem_append_left _ hk1) with h12 | h12
      · rcases List.mem_append.1 h12 with h12 | h12
        · obtain⟨o',ho',hb'⟩:=hMmem b h12;exact f1.o.bo o' b (hmut o' ho') hb' hk
        · rw[ArG.non hn hArG] at h12;cases h12
      · exact Nat.not_le_of_lt (f1.o.bl b hk).1 h12
    · exact(List.mem_append.1 hk1).elim (hM3n b hk).1 (hM3n b hk).2) (fun K o t2 p2 w2 x2 l2 hob=>by
    have h9:=(hnew K).1;by_cases hlt:o<objs0.length
    · rw[List.getElem?_append_left hlt] at hob;rcases hget0 o _ hob with ⟨k3,k4⟩ | ⟨⟨k3,k4⟩,k5⟩ | k2
      · have:=(h9 o k3 _ k4).2;cases this
      · by_cases hn:c'.ar=none
        · obtain⟨rfl,rfl,_⟩:=hB2 hn;have hm:=hmn hn;subst hm;refine(f1.o.ar o t2 p2 w2 x2 l2 k5).keep K rfl rfl (fun _=>rfl) (fun k hk=>hch.block k (f1.o.bl k hk).1 fun hm=>?_);rcases List.mem_append.1 hm with hm | hm
          · obtain⟨o',ho',hb'⟩:=hMmem k hm;exact f1.o.bo o' k (hmut o' ho') hb' hk
          · rw[ArG.non hn hArG] at hm;cases hm
        · exact absurd (harU hn o t2 p2 w2 x2 l2 k5) k4
      · cases k2
    · rw[List.getElem?_append_right (by omega)] at hob;by_cases hlt1:o-objs0.length<tq.2.length
      · rw[List.getElem?_append_left hlt1] at hob;have:=(hnew K).2.2.2.2.1 _ _ hob;cases this
      · rw[List.getElem?_append_right (by omega)] at hob;by_cases hlt2:o-objs0.length-tq.2.length<cq.2.length
        · rw[List.getElem?_append_left hlt2] at hob;have:=(hnew K).2.2.2.2.2 _ _ hob;cases this
        · rw[List.getElem?_append_right (by omega)] at hob
          have hn:c'.ar≠none:=fun hn=>by rw[haq2 hn] at hob;simp at hob
          have hone:aq=[.ar t2 p2 w2 x2 l2]∧o-objs0.length-tq.2.length-cq.2.length=0:=by
            have h8:aq.length≤1:=arRes_len haq
            match aq,h8,hob with
            | [],_,hob=>simp at hob
            | [x],_,hob =>
              match h7:o-objs0.length-tq.2.length-cq.2.length,hob with
              | 0,hob=>exact⟨by simpa using hob,rfl⟩
              | n+1,hob=>simp at hob
            | x::y::r,h8,_=>simp at h8
          have ho':o=objs1.length+tq.2.length+cq.2.length:=by omega
          refine hkc0 _ _ o ⟨(hnew K).2.2.2.1,fun _ _ h=>h⟩ rfl hB3 (fun x=>?_) t2 p2 w2 x2 l2 hone.1;show kc' o x=_;rw[ho']
          exact hkc2 hn x)
  have hK:Keep σ.objs γ w (objs0++(tq.2++(cq.2++aq))) _ _ σ.objs.length:=f1.keep.trans (by rw[←f1.len];exact K);have hl2:cells2.length=c'.ρ.size:=Rep.length c'.ρ hrep2;have hd:=(hnew K).2.1
  have hdl:cq.1.length=c'.ρ.size:=by rw[←hd.length];exact hl2
  obtain⟨g1,g2⟩:=qqB r hK hor (fun o' ho' hp=>by
    rw[List.getElem?_append_left (by rw[hlen0,f1.len];exact ho')]
    have h21:o'∉ids:=fun hm=>by have:=hall o' hm;rw[hp] at this;cases this
    have h20:o'∉t:=fun hm=>h21 (htids o' hm)
    have h22:o'∉ar.1:=fun hm=>by have:=(har1 o' hm).1;rw[hp] at this;cases this
    rw[←ho0];have e0:(qld (killL (killL objs1 ar.1) ids) t tq.1)[o']?=(killL (killL objs1 ar.1) ids)[o']?:=by
      rcases htc with ⟨rfl,e1⟩ | ⟨p,ob1,rfl,e1⟩
      · rw[e1];rfl
      · rw[e1];simp only[qld,List.getElem?_set];rw[if_neg (fun e=>h20 (by simp[e]))]
    rw[e0];rcases qek ids (killL objs1 ar.1) o' with ⟨_,k2⟩ | ⟨k1,_⟩
    · rw[k2];rcases qek ar.1 objs1 o' with ⟨_,k2⟩ | ⟨k1,_⟩
      · rw[k2];exact f1.prot o' hp
      · exact absurd k1 h22
    · exact absurd k1 h21) h10 (v:=v) (by
    rw[hv];unfold resGO resV
    cases hc1:c'.one with
    | true=>exact qbA hdl hd
    | false=>exact⟨_,rfl,by simpa using qfz (by rw[hdl,hc.wf hc1]) hd⟩)
  exact⟨σ',_,h11,g1,s1.trans g2⟩
theorem ef_go (hE:EnvOK P env) (r:Rel F σ γ a w) {f:Operand} {args:Array Operand} {ats:Array TypeId} {s:FuncId×Goc} {us:List PV} (ho:o.op = .call ⟨.value f,args,ats⟩) (hs:gocOf P env σ f=some s) (hu:qrb σ f args.toList=some us) (h:goE σ o s.2 us k=some res):EfR P F σ γ a w o k res Q:=by
  obtain⟨g,c⟩:=s;simp only[gocOf,Option.bind_eq_some_iff,chk_some,Option.some.injEq,Prod.mk.injEq] at hs;obtain⟨q,h1,⟨g',caps⟩,h2,c',h4,hbo,e1,e2⟩:=hs;simp only at e1 hbo h4;subst e1;subst e2;have hc:=hE.go g' c' h4;obtain⟨g2,l,hfv,hprl,q2,hq2,caps2,hfn⟩:=qqD r hu;rw[h1] at hq2;cases hq2;rw[h2] at hfn;cases hfn;simp only[goE,Option.bind_eq_some_iff] at h;obtain⟨⟨lall,lb,lc⟩,hun,objs,hpre,h⟩:=h;obtain⟨vall,vb,vc,hva0,hvb0,hvc0,hw⟩:=qok hun hprl;simp only at hva0 hvb0 hvc0 hpre h;obtain⟨r1,s1,hsame⟩:=qrQ r hpre;refine ef_go1 r1 s1 ho hc hbo hfv (vc:=vc) (va:=vall.take c'.tp.size) (vcl:=vall.drop c'.tp.size) (VRL.keep s1.keep (hva0.take _).below (hva0.take _)) (VRL.keep s1.keep (hva0.drop _).below (hva0.drop _)) (VRL.keep s1.keep hvb0.below hvb0) ?_ ?_ h
  · exact qrE (n:=0) s1.keep hsame hvc0
  · rw[List.take_append_drop];exact hw
theorem mp_of {pv:PV} {p:Nat} (h:asMp pv=some p):pv = .c (.mp p):=by
  unfold asMp at h;split at h
  · simp only[Option.some.injEq] at h;rw[h]
  · cases h
theorem ef_newM (r:Rel F σ γ a w) {t:TypeId} (ho:o.op = .makeMap t none) (h:newM P σ o t k=some res):EfA P F σ γ a w o k res Q:=by
  simp only[newM,Option.bind_eq_some_iff] at h;obtain⟨⟨et,kt,vt⟩,h1,σ',h2,h3⟩:=h;obtain⟨kid,d,u1,u2,hk,u3,hd⟩:=qmk h1;have hc:=qb4 w (.map #[] 0);have hnew:=heap_alloc_new w (.map #[] 0)
  obtain⟨ho',K⟩:=qdf (news:=[.mp kt vt []]) (gs:=[(.map (some w.heap.size),some w.heap.size)]) (M:=[w.heap.size]) r.o hc rfl (by simp) (by simp) (fun b hb=>by
      simp at hb;subst hb;exact⟨Nat.le_refl _,by rw[qbu];omega⟩) (fun K j ob g hj hg=>by
      obtain⟨rfl,rfl⟩:=qcT hj;obtain⟨_,rfl⟩:=qcT hg
      exact⟨⟨_,rfl,hk,#[],0,hnew,rfl⟩,rfl⟩)
  obtain⟨g1,g2⟩:=qbm r K ho' qaW (fun o ho _=>by rw[List.getElem?_append_left ho]) h2 (v := .map (some w.heap.size))
    ⟨by simp,w.heap.size,by have:=qbt (γ:=γ) (n:=σ.objs.length) (j:=0) (gs:=[(.map (some w.heap.size),some w.heap.size)]) rfl;rw[Nat.add_zero] at this;rw[this],rfl⟩
  refine EfA.val ?_ hc h3 g1 g2;obtain⟨dst,op,type,pos,after,guard⟩:=o;simp only at ho;subst ho;simp only[execOp,Sem.run_bind,Instr.makeMap,newObj];rfl
theorem ef_lenM (r:Rel F σ γ a w) {x:Operand} {t:TypeId} {args:Array Operand} {ats:Array TypeId} (ho:o.op = .call ⟨.builtin .len,args,ats⟩) (ha:args.toList=[x]) (hat:ats.toList=[t]) (h:lenM P σ o x t k=some res):EfA P F σ γ a w o k res Q:=by
  simp only[lenM,Option.bind_eq_some_iff] at h;obtain⟨⟨kt,et⟩,h1,pv,h2,p,h3,ob,hob,h4⟩:=h;have hu:=qjN h1
  cases ob with
  | mp k' v' xs =>
    obtain⟨σ',h5,h6⟩:=Option.bind_eq_some_iff.1 h4;obtain rfl:=mp_of h3;obtain⟨_,b,hg,ex⟩:=qg r (qj σ) h2;obtain⟨b',hg',hk,es,clk,hh,hents⟩:=r.o.rep p _ hob;rw[hg'] at hg;cases hg;have hsz:∀ {xs:List (D k'×D v')} {es:List MapEntry},EntsR k' v' xs es→es.length=xs.length:=by
      intro xs
      induction xs with
      | nil=>intro es h;have h:es=[]:=h;rw[h];rfl
      | cons y ys ih=>intro es h;obtain⟨e,q,rfl,_,_,h3⟩:=h;simp[ih h3]
    have hsz:=hsz hents;have hput:=h5;obtain⟨g1,g2⟩:=qbm (v := .int .i64 (xs.length:Int)) r (Keep.ext (Chg.refl [] w)) r.o (fun _ _ _ _ _ hx _=>⟨_,_,_,_,hx,rfl⟩) (fun _ _ _=>rfl) hput rfl;refine EfA.val ?_ (Chg.refl [] w) h6 g1 g2;obtain⟨dst,op,type,pos,after,guard⟩:=o;simp only at ho;subst ho
    have e1:args = #[x]:=by rw[←Array.toList_inj,ha]
    have e2:ats = #[t]:=by rw[←Array.toList_inj,hat]
    subst e1;subst e2;generalize a.eval=ρ at ex ⊢
    have hsz':es.size=xs.length:=by rw[←hsz,Array.length_toList]
    simp[execOp,resolve,invoke,builtin,Builtin.len_,run_underlying hu,ex,qka hh,hsz',goInt,go_sem]
  | _=>cases h4
theorem qsi {objs:List OB} {p:Nat} {k v:Ty} {l:List (D k×D v)}:SameLen objs (objs.set p (.mp k v l)):=fun o ti e xs fz hx hlt=>by
  rw[List.getElem?_set] at hx;split at hx
  · split at hx
    · cases hx
    · cases hx
  · exact⟨_,_,_,_,hx,rfl⟩
theorem eqI_self (a:Int):eqI a a=true:=by simp[eqI]
theorem ef_putM (r:Rel F σ γ a w) {t:TypeId} {m i x:Operand} (ho:o.op = .mapUpdate t m i x) (h:putM P σ o t m i x k=some res):EfR P F σ γ a w o k res Q:=by
  simp only[putM,Option.bind_eq_some_iff] at h;obtain⟨⟨et,kt,vt⟩,h1,pv,h2,p,h3,ob,hob,h4⟩:=h
  cases ob with
  | mp k' v' xs =>
    simp only[Option.bind_eq_some_iff,chk_some,Bool.and_eq_true,Bool.not_eq_true'] at h4;obtain⟨ys,h5,pu,h6,c,h7,y,h8,pw,h9,d,h10,z,h11,e,h12,⟨hpr,hd⟩,h13⟩:=h4;obtain⟨rfl,rfl,h14⟩:=qhi h5;subst h14;obtain⟨kid,dd,u1,u2,hk,u3,hdd⟩:=qmk h1
    have hd:o.dst=none:=by simpa using hd
    obtain rfl:=mp_of h3;obtain⟨_,b,hg,ex⟩:=qg r (qj σ) h2;have ei:a.eval i=valF k' y:=toD_key hk h8 (by have:=qg r (qj σ) h6;rw[qa7 h7] at this;exact this);have ez:a.eval x=valF v' z:=qrH h11 h12 (by have:=qg r (qj σ) h9;rw[qa7 h10] at this;exact this);obtain⟨b',hg',hk2,es,clk,hh,hents⟩:=r.o.rep p _ hob;rw[hg'] at hg;cases hg;have hgm:=qka (P:=P) hh;have hck:∀em,(Instr.checkKey em 10000 kid (valF k' y)).run P w = .ok () w:=fun em=>by
      rcases hdd with ⟨kk,rfl,rfl⟩ | ⟨rfl,rfl⟩<;>(unfold Instr.checkKey;simp[run_underlying u3])
    have hset:∀ob',(setObj b ob').run P w = .ok () { w with heap:=w.heap.setIfInBounds b ob' }:=fun ob'=>by simp[setObj,Sem.run,hh]
    have hbt:b<w.heap.size:=qel hh;have hch:∀ob',Chg [b] w { w with heap:=w.heap.setIfInBounds b ob' }:=fun ob'=>⟨rfl,rfl,rfl,by simp,fun j hj hn=>by
      have:b≠j:=fun e=>hn (by simp[e])
      simp[Array.getElem?_setIfInBounds,this],fun _=>Nat.le_refl _⟩
    have hnh:∀ob',({ w with heap:=w.heap.setIfInBounds b ob' }:World).heap[b]?=some ob':=fun ob'=>by simp[hbt]
    have fin:∀es' clk',EntsR k' v' (mpSet (keyB k') ys y z) es'.toList→(execOp a.eval o).run P w = .ok .skip { w with heap:=w.heap.setIfInBounds b (.map es' clk') }→EfR P F σ γ a w o k res Q:=fun es' clk' he hrun=>by
      obtain⟨hor,K⟩:=qhw (ob := .mp k' v' (mpSet (keyB k') ys y z)) (hch (.map es' clk')) r.o ⟨_,hob,rfl⟩ (by rw[hg']) rfl (fun K=>⟨b,hg',hk,es',clk',hnh _,he⟩);exact EfR.skip hd hrun h13 (r.setObjs K qsi hor) (qdE K fun o' _ hp'=>qA (fun e=>by subst e;rw[hpr] at hp';cases hp'))
    have hfk0:=qjs hdd y z 0 hents;rcases hfk0 with ⟨g1,g2,g3⟩ | ⟨j,u,g1,g2,⟨e',g4,g5⟩,g6⟩
    · refine fin (es.push ⟨valF k' y,valF v' z,clk⟩) (clk+1) (by rw[Array.toList_push];exact g3 clk) ?_
      have hfk:(Instr.findKey kid (valF k' y) es.toList).run P w = .ok none w:=by simp[Instr.findKey,run_underlying u3,g1]
      obtain⟨dst,op,type,pos,after,guard⟩:=o;simp only at ho;subst ho;generalize a.eval=ρ at ex ei ez ⊢;simp[execOp,Instr.mapUpdate,run_underlying u1,ex,ei,ez,hgm,hck,hfk,hset,go_sem]
    · refine fin (es.modify j fun e=>{ e with key:=valF k' y,val:=valF v' z }) clk (by rw[Array.toList_modify];exact g6) ?_
      have hfk:(Instr.findKey kid (valF k' y) es.toList).run P w = .ok (some (j,valF v' u)) w:=by simp[Instr.findKey,run_underlying u3,g1]
      have g4':es[j]?=some e':=by simpa using g4
      have hst:(Instr.keyThatStays (valF k' y) (valF k' y)).run P w = .ok (valF k' y) w:=by
        have:Instr.sameBits 10000 (valF k' y) (valF k' y)=true:=by
          rcases hdd with ⟨kk,rfl,rfl⟩ | ⟨rfl,rfl⟩
          · show(kk==kk&&eqI y y)=true;simp;exact eqI_self y
          · show((_:ByteArray)==_)=true;exact beq_bytes _
        simp[Instr.keyThatStays,this,go_sem]
      obtain⟨dst,op,type,pos,after,guard⟩:=o;simp only at ho;subst ho;generalize a.eval=ρ at ex ei ez ⊢;simp[execOp,Instr.mapUpdate,run_underlying u1,ex,ei,ez,hgm,hck,hfk,hset,g4',g5,hst,go_sem]
  | _=>cases h4
theorem ef_inv (hE:EnvOK P env) (r:Rel F σ γ a w) {rc:Operand} {nm:String} {args:Array Operand} {ats:Array TypeId} (ho:o.op = .call ⟨.invoke rc nm,args,ats⟩) (h:invE P env σ o rc nm args k=some res):EfA P F σ γ a w o k res Q:=by
  simp only[invE,Option.bind_eq_some_iff] at h;obtain⟨pv,h1,h⟩:=h;split at h
  · rename_i t τ d;simp only[Option.bind_eq_some_iff,chk_some,Bool.and_eq_true,Bool.or_eq_true,Bool.not_eq_true'] at h;obtain⟨g,hm,⟨bb,c⟩,h4,⟨hfl,hbo,hbb⟩,vs,h5,x,h6,objs1,h7,y,h8,σ',h9,h10⟩:=h;simp only at h4 hbb h6 h7 h8 h9;have ev:a.eval rc = .iface t (valF τ d):=qg r (qj σ) h1;have hrun:(callMethod (.iface t (valF τ d)) nm (args.map a.eval)).run P w = .ok (.enter g (#[valF τ d]++args.map a.eval)) w:=by
      unfold methF at hm;rcases qe0 hm with ⟨_,hm⟩ | ⟨hptr,hm⟩
      · cases hm
      · simp only[Option.bind_eq_some_iff,chk_some] at hm;obtain⟨inf,hi,me,hme,hpath,⟨f,bp⟩,hf,hm⟩:=hm
        cases bp with
        | true=>cases hm
        | false =>
          obtain rfl:f=g:=by simpa using hm
          have hu:∃du,P.underlying t=some du∧∀u,du ≠ .pointer u:=by
            cases hu:P.underlying t with
            | none=>simp[hu] at hptr
            | some du =>
              refine⟨du,rfl,fun u e=>?_⟩;subst e;simp[ptrTy,hu] at hptr
          obtain⟨du,hu,hdu⟩:=hu;have hra:∀wr,(receiverAt t (.val (valF τ d)) false wr).run P w = .ok (valF τ d) w:=fun wr=>by
            cases du<;>first | exact absurd rfl (hdu _) | simp[receiverAt,run_underlying hu,Place.get]
          have hp:me.path.toList=[]:=by simpa using hpath
          have hmth:(method (P.types.size+Made.depth) t (valF τ d) nm).run P w = .ok (f,valF τ d) w:=by
            have hd0:0<Made.depth:=by decide
            have:P.types.size+Made.depth=(P.types.size+Made.depth-1)+1:=by omega
            rw[this];simp only[method];simp[typeInfo,hi,hme,hp,follow,hf,hra]
          simp only[callMethod];have hmth:(method (P.types.size+100) t (valF τ d) nm).run P w = .ok (f,valF τ d) w:=hmth;simp[hmth,qas hbo,go_sem]
    refine ef_con1 (vs:=qda τ.isAgg (cellsOf τ d)::vs) (us:=valF τ d::args.toList.map a.eval) r (hE.con g bb c h4) ?_ ⟨_,_,rfl,valF_pr τ d hfl,qgQ r (qj σ) h5⟩ hbb h6 h7 h8 h9 h10;obtain⟨dst,op,type,pos,after,guard⟩:=o;simp only at ho;subst ho;generalize a.eval=ρ at ev hrun ⊢;have e9:(valF τ d::args.toList.map ρ).toArray = #[valF τ d]++args.map ρ:=by
      rw[←Array.toList_inj];simp
    rw[e9,←hrun]
    have e8:(#[Value.iface t (valF τ d)]++args.map ρ)[0]?=some (.iface t (valF τ d)):=by rw[Array.getElem?_append];simp
    have e7:(args.map ρ).extract 0 args.size=args.map ρ:=by simp
    simp[execOp,resolve,invoke,ev,e8,e7]
  · cases h
theorem Rel.pushDefer (r:Rel F σ γ a w) {d:Deferred} (hd:DfR d):Rel F σ γ { a with defers:=d::a.defers } w :=
  ⟨r.size,fun e he=>(List.mem_cons.1 he).elim (fun h=>h▸hd) (r.defers e),r.slots,r.off,r.gs,r.known,r.o⟩
theorem ef_defer (r:Rel F σ γ a w) {f:Operand} {args:Array Operand} {ats:Array TypeId} (ho:o.op = .defer ⟨.value f,args,ats⟩) (h:deferE σ o f args k=some res):EfR P F σ γ a w o k res Q:=by
  simp only[deferE,Option.bind_eq_some_iff,chk_some,Bool.and_eq_true] at h;obtain⟨q,h1,⟨g,caps⟩,h2,d,h3,⟨hg,hcl,hae,hdst⟩,h4⟩:=h;obtain rfl:=Nat.eq_of_beq_eq_true hg;have hcl:=Nat.eq_of_beq_eq_true hcl;obtain⟨⟨co,off⟩,rfl⟩:∃c,caps=[c]:=List.length_eq_one_iff.1 hcl;obtain⟨_,l,hfv,hpl⟩:VR σ.objs γ w (.fn g [(co,off)]) (a.eval f):=by
    have:=qg r (qj σ) h1;rw[qbf h2] at this;exact this
  obtain⟨b,q',e,_,hq⟩:=hpl;simp only[PtrL] at hq;subst hq;subst e
  have hd:o.dst=none:=by simpa using hdst
  have ha:args = #[]:=by simpa using hae
  subst ha;unfold EfR Oper.wp;have hrun:(execOp a.eval o).run P w = .ok (.defer ⟨.fn (.func g) #[.pointer (some ⟨b,off,none⟩)],#[]⟩) w:=by
    obtain⟨dst,op,type,pos,after,guard⟩:=o;simp only at ho;subst ho;generalize a.eval=ρ at hfv ⊢;simp[execOp,resolve,hfv,Deferred.ofValue,go_sem]
  rw[hrun,Oper.upon_defer,hd];exact⟨σ,γ,h4,r.pushDefer ⟨g,_,h3,rfl⟩,Step.refl _ _ _⟩
theorem qlZ (hE:EnvOK P env) (r:Rel F σ γ a w) {own vw:Bool} (h:stepE P env own vw σ o k=some res):EfR P F σ γ a w o k res Q:=by
  unfold stepE at h;split at h
  · exact(qqQ r ‹_› h).toR
  · exact(qro r ‹_› h).toR
  · exact ef_store r ‹_› h
  · exact(ef_newM r ‹_› h).toR
  · exact ef_putM r ‹_› h
  · exact ef_defer r ‹_› h
  · split at h
    · rename_i ho _ _ _ _ ha hat;exact(ef_lenM r ho ha hat h).toR
    · cases h
  · exact(ef_inv hE r ‹_› h).toR
  · exact ef_eq r ‹_› (.inl ⟨rfl,rfl⟩) h
  · exact ef_eq r ‹_› (.inr ⟨rfl,rfl⟩) h
  · rename_i ho;rcases qe0 h with ⟨_,h2⟩ | ⟨_,h2⟩
    · exact(qoZ r ho h2).toR
    · exact(qrt r ho h2).toR
  · exact(ef_make r ‹_› h).toR
  · rename_i ho;rcases qe0 h with ⟨_,h2⟩ | ⟨_,h2⟩
    · exact ef_bytes r ho h2
    · exact ef_mark r ho h2
  · split at h
    · rename_i ho _ _ _ _ _ _ ha hat;rcases qe0 h with ⟨h1,h2⟩ | ⟨h1,h2⟩
      · have h1:=Nat.eq_of_beq_eq_true h1;subst h1;exact ef_append r ho ha hat h2
      · rcases qe0 h2 with ⟨h3,h4⟩ | ⟨h3,h4⟩
        · exact qr9 r ho ha hat h3 h4
        · exact qrO r ho ha hat h4
    · cases h
  · split at h
    · rename_i ho _ _ _ _ ha hat;exact ef_clear r ho ha hat h
    · cases h
  · split at h
    · rename_i ho _ _ _ _ _ _ ha hat;exact ef_copy r ho ha hat h
    · cases h
  · exact(qrk r ‹_› h).toR
  · split at h
    · rename_i ho _ _ hs;exact ef_sort hE r ho hs h
    · rename_i ho _ _;split at h
      · rename_i hs;exact ef_io hE r ho hs h
      · split at h
        · rename_i hs;exact ef_ro hE r ho hs h
        · split at h
          · rename_i hs;exact ef_ck hE r ho hs h
          · split at h
            · rename_i hs;exact ef_bst hE r ho hs h
            · split at h
              · rename_i hs;exact ef_ins hE r ho hs h
              · split at h
                · rename_i hs;obtain⟨us,hu,h2⟩:=Option.bind_eq_some_iff.1 h;exact ef_go hE r ho hs hu h2
                · split at h
                  · rename_i hs;exact ef_del hE r ho hs h
                  · exact(ef_call hE r ho h).toR
  · cases h
theorem qqp (hE:EnvOK P env) (r:Rel F σ γ a w) {own vw:Bool} (ha:(qdd o||conOp env σ o)=true) (h:stepE P env own vw σ o k=some res):EfA P F σ γ a w o k res Q:=by
  by_cases hco:conOp env σ o=true
  · unfold conOp at hco;split at hco
    · rename_i f args ats ho;split at hco
      · rename_i g hg;obtain⟨q,hq1,hq2⟩:=Option.bind_eq_some_iff.1 hg;obtain⟨e,he⟩:=Option.isSome_iff_exists.1 hco;have key:∀ {β:Type} {x:Option β} (y:Ent→Option β),(∀c,y (.con c)=none)→(∀c,y (.rd c)=none)→((env.find g).bind y)=none:=fun y y1 y2=>by
          unfold Env.cb at he;obtain⟨en,h1,h2⟩:=Option.bind_eq_some_iff.1 he;rw[h1]
          cases en with
          | con c=>exact y1 c
          | rd c=>exact y2 c
          | _=>cases h2
        have n1:srtOf P env σ f=none:=by
          have:env.srt g=none:=key (x:=none) _ (fun _=>rfl) (fun _=>rfl);simp[srtOf,hq1,hq2,this,chk]
        have n2:iocOf P env σ f=none:=by
          have:env.io g=none:=key (x:=none) _ (fun _=>rfl) (fun _=>rfl);simp[iocOf,hq1,hq2,this,chk]
        have n3:rocOf P env σ f=none:=by
          have:env.ro g=none:=key (x:=none) _ (fun _=>rfl) (fun _=>rfl);simp[rocOf,hq1,hq2,this,chk]
        have n4:ckOf P env σ f=none:=by
          have:env.ck g=none:=key (x:=none) _ (fun _=>rfl) (fun _=>rfl);simp[ckOf,hq1,hq2,this,chk]
        have n5:bsOf P env σ f=none:=by
          have:env.bs g=none:=key (x:=none) _ (fun _=>rfl) (fun _=>rfl);simp[bsOf,hq1,hq2,this,chk]
        have n6:insOf P env σ f=none:=by
          have:env.ins g=none:=key (x:=none) _ (fun _=>rfl) (fun _=>rfl);simp[insOf,hq1,hq2,this,chk]
        have n7:gocOf P env σ f=none:=by
          have:env.go g=none:=key (x:=none) _ (fun _=>rfl) (fun _=>rfl);simp[gocOf,hq1,hq2,this,chk]
        have n8:delOf P env σ f=none:=by
          have:env.del g=none:=key (x:=none) _ (fun _=>rfl) (fun _=>rfl);simp[delOf,hq1,hq2,this,chk]
        unfold stepE at h;rw[ho] at h;simp only[n1,n2,n3,n4,n5,n6,n7,n8] at h;exact ef_call hE r ho h
      · cases hco
    · cases hco
  have ha:qdd o=true:=by simpa[Bool.eq_false_iff.2 hco] using ha
  unfold stepE at h;split at h
  · exact qqQ r ‹_› h
  · exact qro r ‹_› h
  · rename_i ho;simp[qdd,ho] at ha
  · rename_i ho;simp[qdd,ho] at ha
  · rename_i ho;simp[qdd,ho] at ha
  · rename_i ho;simp[qdd,ho] at ha
  · rename_i ho;simp[qdd,ho] at ha
  · rename_i ho;simp[qdd,ho] at ha
  · rename_i ho;simp[qdd,ho] at ha
  · rename_i ho;simp[qdd,ho] at ha
  · rename_i ho;rcases qe0 h with ⟨_,h⟩ | ⟨_,h⟩
    · exact qoZ r ho h
    · exact qrt r ho h
  · exact ef_make r ‹_› h
  all_goals first | exact qrk r ‹_› h | cases h | (rename_i ho;simp[qdd,ho] at ha;done) | skip
  all_goals (rename_i ho;simp[qdd,ho] at ha)
end
end Go.Den

