/- Several texts in one: Base, InsC, NimsumHeapsC. -/
import Derived.Test.YtcifaoaepbidoaaProg
import Derived.Test.YtcifaoaepbidoaaMAD
import Derived.Shelf.Spec.SlicesInsertGrow
import Derived.Test.YtcifaoaepbidoaaMAA
namespace Go.Proofs.Ytcifaoaepbidoaa
theorem mixed:Try.prog.follows .mixedOrders=true:=by kernel_rfl
end Go.Proofs.Ytcifaoaepbidoaa
namespace Go.Proofs.Ytcifaoaepbidoaa
open Go Go.Proofs Go.RowKit Go.Shelf Go.Lib Go.Den Go.Eng
set_option linter.unusedVariables false
set_option linter.unusedSimpArgs false
theorem qfT:(Try.prog.info? 5).map (·.size)=some 1:=by kernel_rfl
theorem insZero:∃i z,Try.prog.info? 5=some i∧i.zero=some z∧i.size=1∧i.bytes=1∧z.cells.size=1:=by
  have h:(Try.prog.info? 5).bind (fun i=>i.zero.map (fun z=>(i.size,i.bytes,z.cells.size)))=some (1,1,1):=by kernel_rfl
  obtain⟨i,h1,h2⟩:=Option.bind_eq_some_iff.1 h;obtain⟨z,h3,h4⟩:=Option.map_eq_some_iff.1 h2;simp only[Prod.mk.injEq] at h4;exact⟨i,z,h1,h3,h4.1,h4.2.1,h4.2.2⟩
theorem ins_list {A:Type} (C cs vs:List A) (a q N:Nat) (ha:a≤N) (hN:cs.length=N) (hq:vs.length=q) (hC:C.take N=cs) :
    (((C.take (a+q)++cs.drop a++C.drop (a+q+(cs.drop a).length)).take a++vs++(C.take (a+q)++cs.drop a++C.drop (a+q+(cs.drop a).length)).drop (a+vs.length)).take (N+q))=cs.take a++(vs++cs.drop a)∨C.length<a+q:=by
  by_cases hl:C.length<a+q
  · exact .inr hl
  · left
    have e1:(C.take (a+q)).length=a+q:=by rw[List.length_take];omega
    have e2:(C.take (a+q)++cs.drop a++C.drop (a+q+(cs.drop a).length)).take a=cs.take a:=by
      rw[List.append_assoc,List.take_append_of_le_length (by omega),List.take_take,←hC,List.take_take];congr 1;omega
    have e3:(C.take (a+q)++cs.drop a++C.drop (a+q+(cs.drop a).length)).drop (a+vs.length)=cs.drop a++C.drop (a+q+(cs.drop a).length):=by
      rw[hq,List.append_assoc,List.drop_append,List.drop_of_length_le (by omega),e1];simp
    rw[e2,e3,List.append_assoc,←List.append_assoc vs,←List.append_assoc]
    have e4:(cs.take a++(vs++cs.drop a)).length=N+q:=by simp only[List.length_append,List.length_take,List.length_drop,hN,hq];omega
    rw[←e4,List.take_left]
theorem qdQ {w:World} {b k:Nat} {cur:Array Value} {T:TypeId} (h:w.heap[b]?=some (.cells cur T (0,0))):w.cell? ⟨b,k,none⟩=cur.toList[k]?:=by
  simp[World.cell?,h]
set_option maxHeartbeats 4000000 in
set_option maxRecDepth 100000 in
/-- there is room, ahead of the end -/
theorem ins_shift (b n c i vb m vc:Nat) (cs vs:List Value) (cur vcur:Array Value) (w:World) (hi:i<n) (hm:0<m) (hroom:n+m≤c) (hc63:c≤9223372036854775807) (hvb:vb≠b)
    (hb:w.heap[b]?=some (.cells cur 5 (0,0))) (hcur:cur.size=c*1) (hcs:cs.length=n*1) (hpre:cur.toList.take (n*1)=cs)
    (hv:w.heap[vb]?=some (.cells vcur 5 (0,0))) (hvl:vs.length=m*1) (hvs:vcur.toList.take (m*1)=vs) (h1c:∀v∈cs,v.oneCell'=true) (h1v:∀v∈vs,v.oneCell'=true) :
    Calls Try.prog 179 #[.slice (some ⟨b,0,none⟩) n c,.int .i64 i,.slice (some ⟨vb,0,none⟩) m vc] w fun e w' =>
      e = .returned (.slice (some ⟨b,0,none⟩) (n+m) c)∧∃cur',w'=w.drew.setRow b cur'∧cur'.size=c*1∧cur'.toList.take ((n+m)*1)=cs.take (i*1)++(vs++cs.drop (i*1)):=by
  have hz1:¬((m:Int)=0):=by omega
  have hz2:¬((i:Int)=(n:Int)):=by omega
  have hcl:cur.toList.length=c*1:=by rw[Array.length_toList,hcur]
  have hvcl:m*1≤vcur.toList.length:=by rw[←hvl,←hvs,List.length_take];omega
  have hov:∀lb cb,(callFunc 181 #[.slice (some ⟨vb,0,none⟩) m vc,.slice (some ⟨b,(i+m)*1,none⟩) lb cb]).run Try.prog w = .ok (.value (.bool false)) w:=fun lb cb=>by
    rw[run_callFunc_extern Try.func181 (by kernel_rfl) (by kernel_rfl) (by kernel_rfl) (e:=Extern.SlicesOverlaps.overlaps #[66,66] #[4]) (by kernel_rfl),
      Lib.run_overlaps_apart w 66 4 5 Try.underlying66 1 Try.sizeOf5 ⟨vb,0,none⟩ ⟨b,(i+m)*1,none⟩ m vc lb cb hvb 5 5 vcur.size cur.size (by simp[World.shape?,hv]) (by simp[World.shape?,hb]) (by rw[hcur];omega) (by simp[World.frozen?,hv]) (by simp[World.frozen?,hv])]
    rfl
  have hdl:(cs.drop (i*1)).length=(n-i)*1:=by rw[List.length_drop,hcs];omega
  have hcp1:∀ty dc sc,(Builtin.copy_ #[66,66] ty #[.slice (some ⟨b,(i+m)*1,none⟩) (n+m-(i+m)) dc,.slice (some ⟨b,i*1,none⟩) (n+m-i) sc]).run Try.prog w.drew =
      .ok (goInt (Nat.min (n+m-i) (n+m-(i+m)))) (w.drew.setRow b (cur.toList.take ((i+m)*1)++cs.drop (i*1)++cur.toList.drop ((i+m)*1+(cs.drop (i*1)).length)).toArray):=fun ty dc sc =>
    qbx Try.prog w.drew 66 66 ty 5 b ((i+m)*1) (n+m-(i+m)) dc ⟨b,i*1,none⟩ (n+m-i) sc 1 cur 5 (cs.drop (i*1)) Try.underlying66 qfT hb
      (by rw[hdl];simp only[Nat.min_def];split<;>omega)
      (fun j v hj=>by
        have hb':w.drew.heap[b]?=some (.cells cur 5 (0,0)):=hb;rw[List.getElem?_drop,←hpre,List.getElem?_take] at hj;split at hj
        · rw[Addr.add_lit,qdQ hb'];exact hj
        · cases hj)
      (by rw[hdl,hcur];omega) (fun v hv=>h1c v (List.mem_of_mem_drop hv))
  obtain⟨cur1,hcur1⟩:∃cur1,cur1=(cur.toList.take ((i+m)*1)++cs.drop (i*1)++cur.toList.drop ((i+m)*1+(cs.drop (i*1)).length)).toArray:=⟨_,rfl⟩;have hs1:cur1.size=c*1:=by
    rw[hcur1];simp only[List.size_toArray,List.length_append,List.length_take,List.length_drop,hcl,hcs];omega
  rw[←hcur1] at hcp1;have hb1:(w.drew.setRow b cur1).heap[b]?=some (.cells cur1 5 (0,0)):=setRow_heap w.drew b cur cur1 5 (0,0) hb
  have hv1:(w.drew.setRow b cur1).heap[vb]?=some (.cells vcur 5 (0,0)):=by rw[setRow_other w.drew b vb cur1 hvb];exact hv
  have hcp2:∀ty dc,(Builtin.copy_ #[66,66] ty #[.slice (some ⟨b,i*1,none⟩) (n+m-i) dc,.slice (some ⟨vb,0,none⟩) m vc]).run Try.prog (w.drew.setRow b cur1) =
      .ok (goInt (Nat.min m (n+m-i))) (w.drew.setRow b (cur1.toList.take (i*1)++vs++cur1.toList.drop (i*1+vs.length)).toArray):=fun ty dc=>by
    have:=qbx Try.prog (w.drew.setRow b cur1) 66 66 ty 5 b (i*1) (n+m-i) dc ⟨vb,0,none⟩ m vc 1 cur1 5 vs Try.underlying66 qfT hb1
      (by rw[hvl];simp only[Nat.min_def];split<;>omega)
      (fun j v hj=>by
        rw[←hvs,List.getElem?_take] at hj;split at hj
        · rw[Addr.add_lit,qdQ hv1,Nat.zero_add];exact hj
        · cases hj)
      (by rw[hvl,hs1];omega) h1v
    rw[this,setRow_setRow]
  have hfin:∃cur',w.drew.setRow b (cur1.toList.take (i*1)++vs++cur1.toList.drop (i*1+vs.length)).toArray=w.drew.setRow b cur'∧cur'.size=c*1∧cur'.toList.take ((n+m)*1)=cs.take (i*1)++(vs++cs.drop (i*1)):=by
    refine⟨_,rfl,?_,?_⟩
    · simp only[List.size_toArray,List.length_append,List.length_take,List.length_drop,Array.length_toList,hs1,hvl];omega
    · rcases ins_list cur.toList cs vs (i*1) (m*1) (n*1) (by omega) hcs hvl hpre with h | h
      · rw[Nat.add_mul,←h,hcur1,Nat.add_mul]
      · rw[hcl] at h;omega
  have mixed:=mixed
  have hw1:IntKind.i64.wrap ((i:Int)+(m:Int))=(i:Int)+(m:Int):=by rw[IntKind.wrap_i64];omega
  have hq1:(0:Int)≤(i:Int)+(m:Int):=by omega
  have hin:i≤n:=by omega
  have htn:((i:Int)+(m:Int)).toNat=i+m:=by omega
  have hq2:¬(c=i+m):=by omega
  have hq3:(i:Int)≤(n:Int)+(m:Int):=by omega
  have hq4:¬(c=i):=by omega
  clear hcur1 hcl hvcl hs1 hb1 hv1 hdl hcs hpre hvl hvs h1c h1v hcur hb hv
  try simp only[Nat.mul_one] at hov
  try simp only[Nat.mul_one] at hcp1
  try simp only[Nat.mul_one] at hcp2
  try simp only[Nat.mul_one] at hfin
  go_enter Try.func179,Try.ntmps179
  go_wp2_with (simp only[hov])
  go_region_law_o (refine step_copy_runI rfl _ _ 66 66 rfl _ _ (by simp[Act.eval,Act.put]) (by simp[Act.eval,Act.put]) (hcp1 _ _ _) ?_)
  go_wp2_with (at_builtin;refine wpList_copy_runI _ rfl _ _ 66 66 rfl _ _ rfl rfl (hcp2 _ _) ?_)
  go_ret
  rw[List.append_assoc] at hfin
  first | exact⟨rfl,hfin⟩ | (simp only[Nat.mul_one];exact⟨rfl,hfin⟩)
set_option maxHeartbeats 4000000 in
set_option maxRecDepth 100000 in
/-- at the end -/
theorem ins_end (base:Option Addr) (n c vb m vc:Nat) (w w':World) (r:Value) (hm:0<m) (hnc:n≤c) (hc63:c≤9223372036854775807) (hnil:base=none→n=0)
    (hrun:∀ty,(Builtin.append_ #[66,66] ty #[.slice base n c,.slice (some ⟨vb,0,none⟩) m vc]).run Try.prog w = .ok r w') :
    Calls Try.prog 179 #[.slice base n c,.int .i64 n,.slice (some ⟨vb,0,none⟩) m vc] w fun e w2=>e = .returned r∧w2=w':=by
  have hz1:¬((m:Int)=0):=by omega
  have mixed:=mixed
  go_enter Try.func179,Try.ntmps179
  cases base with
  | none =>
    have h0:=hnil rfl;subst h0
    go_wp2_with (at_builtin;refine Lib.wpList_append_run _ rfl _ _ _ _ rfl _ _ rfl rfl _ _ (hrun _) ?_)
    go_ret
    exact⟨rfl,rfl⟩
  | some a =>
    obtain⟨ab,ao,asp⟩:=a
    go_wp2_with (at_builtin;refine Lib.wpList_append_run _ rfl _ _ _ _ rfl _ _ rfl rfl _ _ (hrun _) ?_)
    all_goals (go_ret;exact⟨rfl,rfl⟩)
set_option maxHeartbeats 4000000 in
set_option maxRecDepth 100000 in
/-- no room, ahead of the end -/
theorem ins_grow (b n c i vb m vc:Nat) (cs vs:List Value) (cur vcur:Array Value) (w:World) (hi:i<n) (hm:0<m) (hnc:n≤c) (hroom:c<n+m) (hc63:c≤9223372036854775807) (hbig:(n+m)*1≤140737488355328)
    (hb:w.heap[b]?=some (.cells cur 5 (0,0))) (hcur:cur.size=c*1) (hcs:cs.length=n*1) (hpre:cur.toList.take (n*1)=cs)
    (hv:w.heap[vb]?=some (.cells vcur 5 (0,0))) (hvl:vs.length=m*1) (hvs:vcur.toList.take (m*1)=vs) (h1c:∀v∈cs,v.oneCell'=true) (h1v:∀v∈vs,v.oneCell'=true) :
    Calls Try.prog 179 #[.slice (some ⟨b,0,none⟩) n c,.int .i64 i,.slice (some ⟨vb,0,none⟩) m vc] w fun e w' =>
      ∃G cur',e = .returned (.slice (some ⟨w.heap.size,0,none⟩) (n+m) G)∧n+m≤G∧G≤maxLen∧Go.Eng.Chg [] w w'∧w'.heap[w.heap.size]?=some (.cells cur' 5 (0,0))∧cur'.size=G*1∧cur'.toList.take ((n+m)*1)=cs.take (i*1)++(vs++cs.drop (i*1)):=by
  obtain⟨i0,z0,hi0,hz0,hzs,hzb,hzc⟩:=insZero
  have hz1:¬((m:Int)=0):=by omega
  have hz2:¬((i:Int)=(n:Int)):=by omega
  have hz3:(c:Int)<(n:Int)+(m:Int):=by omega
  have hbw:b<w.heap.size:=(Array.getElem?_eq_some_iff.1 hb).1;have hvw:vb<w.heap.size:=(Array.getElem?_eq_some_iff.1 hv).1
  have hkk:(n:Int)+(m:Int)-(i:Int)=((n+m-i:Nat):Int):=by omega
  have hik:i+(n+m-i)=n+m:=by omega
  have htl:(cs.take (i*1)).length=i*1:=by rw[List.length_take,hcs];omega
  have hdl:(cs.drop (i*1)).length=(n-i)*1:=by rw[List.length_drop,hcs];omega
  have hold:(Builtin.firstCells i0.size i (.slice (some ⟨b,0,none⟩) i c)).run Try.prog w.drew = .ok (cs.take (i*1)).toArray w.drew:=by
    rw[hzs];refine run_firstCells_some w.drew 1 i ⟨b,0,none⟩ i c (cs.take (i*1)) htl (fun j v hj=>?_);have hb':w.drew.heap[b]?=some (.cells cur 5 (0,0)):=hb;rw[Addr.add_lit,qdQ hb',Nat.zero_add];rw[List.getElem?_take] at hj;split at hj
    · rw[←hpre,List.getElem?_take] at hj;split at hj
      · exact hj
      · cases hj
    · cases hj
  have hrz:∀ty,(Builtin.append_ #[66,3] ty #[.slice (some ⟨b,0,none⟩) i c,.int .i64 ((n:Int)+(m:Int)-(i:Int))]).run Try.prog w =
      .ok (.slice (some ⟨w.heap.size,0,none⟩) (n+m) (grownCap w (n+m) c 5)) (w.drew.alloc (.cells ((cs.take (i*1)).toArray++Builtin.zeroCells z0.cells (n+m-i)++Builtin.zeroCells z0.cells (grownCap w (n+m) c 5-(n+m))) 5)):=fun ty=>by
    have h:=Lib.run_append_grow_zeros (P:=Try.prog) w 66 3 ty 5 i0 z0 .i64 .i64 Try.underlying66 Try.underlying3 hi0 hz0 (some ⟨b,0,none⟩) i c (cs.take (i*1)) hold (n+m-i) (by omega) (by omega) (by omega) (by omega) (by rw[hzb];omega) (by rw[hzb,hik];exact growslice_fits hroom hbig);rw[hik] at h;rw[hkk];exact h
  have hGn:n+m≤grownCap w (n+m) c 5:=grownCap_ge w _ _ _;have hGm:grownCap w (n+m) c 5≤maxLen:=grownCap_le_maxLen w (n+m) c 5 (by unfold maxLen;omega);obtain⟨G,hG⟩:∃G,G=grownCap w (n+m) c 5:=⟨_,rfl⟩;rw[←hG] at hrz hGn hGm
  have hG63:G≤9223372036854775807:=by unfold maxLen at hGm;omega
  obtain⟨ROW,hROW⟩:∃ROW:Array Value,ROW=(cs.take (i*1)).toArray++Builtin.zeroCells z0.cells (n+m-i)++Builtin.zeroCells z0.cells (G-(n+m)):=⟨_,rfl⟩;rw[←hROW] at hrz;have hRs:ROW.size=G*1:=by
    rw[hROW];simp only[Array.size_append,List.size_toArray,size_zeroCells,hzc,htl,←Nat.add_mul];congr 1;omega
  have hRl:ROW.toList.length=G*1:=by rw[Array.length_toList,hRs]
  have hRt:ROW.toList.take (i*1)=cs.take (i*1):=by
    rw[hROW,Array.toList_append,Array.toList_append,List.append_assoc];simp only[List.toList_toArray];rw[List.take_append_of_le_length (by omega),List.take_of_length_le (by omega)]
  obtain⟨R1,hR1⟩:∃R1,R1=(ROW.toList.take (i*1)++vs++ROW.toList.drop (i*1+vs.length)).toArray:=⟨_,rfl⟩;have hs1:R1.size=G*1:=by
    rw[hR1];simp only[List.size_toArray,List.length_append,List.length_take,List.length_drop,hRl,hvl];omega
  obtain⟨R2,hR2⟩:∃R2,R2=(R1.toList.take ((i+m)*1)++cs.drop (i*1)++R1.toList.drop ((i+m)*1+(cs.drop (i*1)).length)).toArray:=⟨_,rfl⟩;have hs2:R2.size=G*1:=by
    rw[hR2];simp only[List.size_toArray,List.length_append,List.length_take,List.length_drop,Array.length_toList,hs1,hcs];omega
  have hfin:R2.toList.take ((n+m)*1)=cs.take (i*1)++(vs++cs.drop (i*1)):=by
    have e1:R1.toList.take ((i+m)*1)=cs.take (i*1)++vs:=by
      rw[hR1];simp only[List.toList_toArray]
      have:(ROW.toList.take (i*1)++vs).length=(i+m)*1:=by rw[hRt,List.length_append,htl,hvl,Nat.add_mul]
      rw[←this,List.take_left,hRt]
    rw[hR2];simp only[List.toList_toArray];rw[e1,List.append_assoc]
    have:(cs.take (i*1)++vs++cs.drop (i*1)).length=(n+m)*1:=by rw[List.length_append,List.length_append,htl,hvl,hdl];omega
    rw[←List.append_assoc,←this,List.take_left,List.append_assoc]
  have hcpA:∀(W:World),W.heap[w.heap.size]?=some (.cells ROW 5 (0,0))→W.heap[vb]?=some (.cells vcur 5 (0,0))→∀ty dc,(Builtin.copy_ #[66,66] ty #[.slice (some ⟨w.heap.size,i*1,none⟩) (n+m-i) dc,.slice (some ⟨vb,0,none⟩) m vc]).run Try.prog W =
      .ok (goInt (Nat.min m (n+m-i))) (W.setRow w.heap.size R1):=fun W h1 h2 ty dc=>by
    rw[hR1];exact qbx Try.prog W 66 66 ty 5 w.heap.size (i*1) (n+m-i) dc ⟨vb,0,none⟩ m vc 1 ROW 5 vs Try.underlying66 qfT h1
      (by rw[hvl];simp only[Nat.min_def];split<;>omega)
      (fun j v hj=>by
        rw[←hvs,List.getElem?_take] at hj;split at hj
        · rw[Addr.add_lit,qdQ h2,Nat.zero_add];exact hj
        · cases hj)
      (by rw[hvl,hRs];omega) h1v
  have hcpB:∀(W:World),W.heap[w.heap.size]?=some (.cells R1 5 (0,0))→W.heap[b]?=some (.cells cur 5 (0,0))→∀ty dc sc,(Builtin.copy_ #[66,66] ty #[.slice (some ⟨w.heap.size,(i+m)*1,none⟩) (n+m-(i+m)) dc,.slice (some ⟨b,i*1,none⟩) (n-i) sc]).run Try.prog W =
      .ok (goInt (Nat.min (n-i) (n+m-(i+m)))) (W.setRow w.heap.size R2):=fun W h1 h2 ty dc sc=>by
    rw[hR2];exact qbx Try.prog W 66 66 ty 5 w.heap.size ((i+m)*1) (n+m-(i+m)) dc ⟨b,i*1,none⟩ (n-i) sc 1 R1 5 (cs.drop (i*1)) Try.underlying66 qfT h1
      (by rw[hdl];simp only[Nat.min_def];split<;>omega)
      (fun j v hj=>by
        rw[List.getElem?_drop,←hpre,List.getElem?_take] at hj;split at hj
        · rw[Addr.add_lit,qdQ h2];exact hj
        · cases hj)
      (by rw[hdl,hs1];omega) (fun v hv=>h1c v (List.mem_of_mem_drop hv))
  have hA1:(w.drew.alloc (.cells ROW 5)).heap[w.heap.size]?=some (.cells ROW 5 (0,0)):=heap_alloc_new w.drew _;have hA2:∀k x,w.heap[k]?=some x→(w.drew.alloc (.cells ROW 5)).heap[k]?=some x:=fun k x h=>by
    have:=qab w.drew (.cells ROW 5);rw[this.block k (Array.getElem?_eq_some_iff.1 h).1 (by simp)];exact h
  have hA3:=hA2 vb _ hv;have hA4:=hA2 b _ hb;obtain⟨W1,hW1⟩:∃W1,W1=((w.alloc (.cells ROW 5)).drew):=⟨_,rfl⟩;have hE:w.drew.alloc (.cells ROW 5)=(w.alloc (.cells ROW 5)).drew:=rfl;have hB1:((w.alloc (.cells ROW 5)).drew).heap[w.heap.size]?=some (.cells ROW 5 (0,0)):=hA1;have hB3:((w.alloc (.cells ROW 5)).drew).heap[vb]?=some (.cells vcur 5 (0,0)):=hA3;have hC1:((((w.alloc (.cells ROW 5)).drew).setRow w.heap.size R1).drew).heap[w.heap.size]?=some (.cells R1 5 (0,0)):=setRow_heap ((w.alloc (.cells ROW 5)).drew) w.heap.size ROW R1 5 (0,0) hB1;have hC2:((((w.alloc (.cells ROW 5)).drew).setRow w.heap.size R1).drew).heap[b]?=some (.cells cur 5 (0,0)):=(setRow_other ((w.alloc (.cells ROW 5)).drew) w.heap.size b R1 (by omega)).trans hA4
  have hD:∃G' cur',Value.slice (some ⟨w.heap.size,0,none⟩) (n+m) G = .slice (some ⟨w.heap.size,0,none⟩) (n+m) G'∧n+m≤G'∧G'≤maxLen∧Go.Eng.Chg [] w (((((w.alloc (.cells ROW 5)).drew).setRow w.heap.size R1).drew).setRow w.heap.size R2) ∧
      (((((w.alloc (.cells ROW 5)).drew).setRow w.heap.size R1).drew).setRow w.heap.size R2).heap[w.heap.size]?=some (.cells cur' 5 (0,0))∧cur'.size=G'*1∧cur'.toList.take ((n+m)*1)=cs.take (i*1)++(vs++cs.drop (i*1)):=by
    refine⟨G,R2,rfl,hGn,hGm,?_,setRow_heap _ w.heap.size R1 R2 5 (0,0) hC1,hs2,hfin⟩;have hch:=qab w.drew (.cells ROW 5);refine⟨rfl,rfl,rfl,?_,fun k hk _=>?_,fun _=>?_⟩
    · simp[World.setRow]
    · rw[setRow_other _ w.heap.size k R2 (by omega)];exact(setRow_other ((w.alloc (.cells ROW 5)).drew) w.heap.size k R1 (by omega)).trans (hch.block k hk (by simp))
    · show w.drawn≤w.drawn+1+1;omega
  have mixed:=mixed
  have hGi:¬(G=i):=by omega
  have hGim:¬(G=i+m):=by omega
  have hci:¬(c=i):=by omega
  have hw1:IntKind.i64.wrap ((i:Int)+(m:Int))=(i:Int)+(m:Int):=by rw[IntKind.wrap_i64];omega
  have hq1:(0:Int)≤(i:Int)+(m:Int):=by omega
  have hin:i≤n:=by omega
  have htn:((i:Int)+(m:Int)).toNat=i+m:=by omega
  have hq3:(i:Int)≤(n:Int):=by omega
  clear hkk hik hold hROW hG hRl hR1 hR2 hRs hRt hdl htl hcs hpre hvl hvs h1c h1v hcur hb hv hA2 hz0 hi0 hzs hzb hzc hs1;have hcpA1:=hcpA _ hB1 hB3;have hcpB1:=hcpB _ hC1 hC2;clear hcpA hcpB hA1 hA3 hA4 hB1 hB3 hC1 hC2 hE hW1
  try simp only[Nat.mul_one] at hrz
  try simp only[Nat.mul_one] at hcpA1
  try simp only[Nat.mul_one] at hcpB1
  try simp only[Nat.mul_one] at hD
  go_enter Try.func179,Try.ntmps179
  go_wp2_with (at_builtin;refine Lib.wpList_append_run _ rfl _ _ _ _ rfl _ _ rfl rfl _ _ (hrz _) ?_)
  go_region_law_o (refine step_copy_runI rfl _ _ 66 66 rfl (.slice (some ⟨w.heap.size,(i+m),none⟩) (n+m-(i+m)) (G-(i+m))) (.slice (some ⟨b,i,none⟩) (n-i) (c-i)) (by simp[Act.eval,Act.put]) (by simp[Act.eval,Act.put]) (hcpB1 3 (G-(i+m)) (c-i)) ?_)
  go_wp2
  go_ret
  obtain⟨G',cur',e1,hr⟩:=hD
  first | exact⟨G',cur',congrArg Ending.returned e1,hr⟩ | (simp only[Nat.mul_one];exact⟨G',cur',congrArg Ending.returned e1,hr⟩)
def insByte_ins:Ins:=⟨5,(.int .u8),1⟩
theorem qia:InsOK Try.prog 179 insByte_ins:=by
  refine⟨fun w S v vv M Mv xs ys us vs j hown hrep hown2 hrep2 hdis hM hys hj hroom=>?_⟩;have hul:us.length=xs.length*1:=hrep.length (Rep.slen insByte_ins.e);have hvl:vs.length=ys.length*1:=hrep2.length (Rep.slen insByte_ins.e);have h1u:∀u∈us,u.oneCell'=true:=RepL.all (fun x c hx=>Rep.one insByte_ins.e hx) hrep;have h1v:∀u∈vs,u.oneCell'=true:=RepL.all (fun x c hx=>Rep.one insByte_ins.e hx) hrep2;have hsz:insByte_ins.e.size=1:=rfl;have hroom':(xs.length+ys.length)*1≤140737488355328:=hroom;rcases hown2 with ⟨_,_,h0,_⟩ | ⟨vb,vc,vcur,rfl,rfl,hvr,hv1,hv2,hv3,hv4⟩
  · omega
  have hvh:=hvr.plain (show memN 5 Ctx.bytes=false from rfl);have hcellv:CellsAt w ⟨vb,0,none⟩ vs:=by
    have:=CellsAt.take (hvr.blk 0) (ys.length*1);rw[List.drop_zero] at this;rw[hsz] at hv4;rw[hv4] at this;exact this
  have hne:ys≠[]→∃ad,(some (⟨vb,0,none⟩:Addr))=some ad∧CellsAt w ad vs:=fun _=>⟨_,rfl,hcellv⟩;obtain⟨i0,z0,hi0,hz0,hzs,hzb,hzc⟩:=insZero;have happ:∃v' w' M',(∀ty,(Builtin.append_ #[66,66] ty #[v,.slice (some ⟨vb,0,none⟩) ys.length vc]).run Try.prog w = .ok v' w')∧OwnR w' 5 1 v' M' (xs.length+ys.length) (us++vs)∧Chg M w w'∧(M'=M∨M'=[w.heap.size]∧w.heap.size<w'.heap.size):=by
    have key:=fun ty=>qc8 (P:=Try.prog) (S:=S) (t:=66) (ty:=ty) (τ:=insByte_ins.e) (ys:=ys) Try.underlying66 hi0 hz0 hzs hzc hown hul hrep2 (cap:=vc) hne (by rw[hzb];exact hroom') (by omega);obtain⟨v',w',M',h1,h2⟩:=key 0;refine⟨v',w',M',fun ty=>?_,h2⟩;obtain⟨v2,w2,M2,h3,_⟩:=key ty;have:(Builtin.append_ #[66,66] ty #[v,.slice (some ⟨vb,0,none⟩) ys.length vc])=(Builtin.append_ #[66,66] 0 #[v,.slice (some ⟨vb,0,none⟩) ys.length vc]):=rfl;rw[this];exact h1
  by_cases hjn:j=xs.length
  · subst hjn;obtain⟨v',w',M',hrun,hown',hch,hM'⟩:=happ;have hlist:us.take (xs.length*insByte_ins.e.size)++(vs++us.drop (xs.length*insByte_ins.e.size))=us++vs:=by
      rw[hsz,List.take_of_length_le (by omega),List.drop_of_length_le (by omega),List.append_nil]
    rcases hown with ⟨hM0,⟨ao,rfl⟩,hn0,hu0⟩ | ⟨b,cap,cur,hM0,rfl,hh,h4,h5,h6,h7⟩
    · obtain rfl:xs=[]:=List.length_eq_zero_iff.1 hn0;refine(ins_end ao 0 0 vb ys.length vc w w' v' hys (by omega) (by omega) (fun _=>rfl) hrun).mono ?_
      rintro e w2 ⟨rfl,rfl⟩
      exact⟨v',M',rfl,hch,hM',by rw[hlist];exact hown'⟩
    · refine(ins_end (some ⟨b,0,none⟩) xs.length cap vb ys.length vc w w' v' hys h4 (by unfold maxLen at h5;omega) (fun h=>by cases h) hrun).mono ?_
      rintro e w2 ⟨rfl,rfl⟩
      exact⟨v',M',rfl,hch,hM',by rw[hlist];exact hown'⟩
  · have hjl:j<xs.length:=by omega
    rcases hown with ⟨_,_,hn0,_⟩ | ⟨b,cap,cur,hM0,rfl,hh,h4,h5,h6,h7⟩
    · omega
    have hbh:=hh.plain (show memN 5 Ctx.bytes=false from rfl);have hvb:vb≠b:=fun e=>hdis b (by simp[hM0]) (by simp[e])
    have hc63:cap≤9223372036854775807:=by unfold maxLen at h5;omega
    by_cases hfit:xs.length+ys.length≤cap
    · refine(ins_shift b xs.length cap j vb ys.length vc us vs cur vcur w hjl hys hfit hc63 hvb hbh h6 hul h7 hvh hvl hv4 h1u h1v).mono ?_
      rintro e w2 ⟨rfl,cur',rfl,hs,ht⟩
      refine⟨_,M,rfl,?_,.inl rfl,.inr ⟨b,cap,cur',hM0,rfl,?_,hfit,h5,hs,ht⟩⟩
      · rw[hM0];have h1:Go.Eng.Chg [b] w w.drew:=(Chg.drewN w 1).mono (by simp);have h2:Go.Eng.Chg [b] w.drew (w.drew.setRow b cur'):=qbE;exact⟨h2.os.trans h1.os,h2.tape.trans h1.tape,h2.output.trans h1.output,Nat.le_trans h1.size h2.size,fun k hk hn=>(h2.block k (Nat.lt_of_lt_of_le hk h1.size) hn).trans (h1.block k hk hn),fun e=>Nat.le_trans (h1.drawn e) (h2.drawn e)⟩
      · exact Row.of (setRow_heap w.drew b cur cur' 5 (0,0) hbh)
    · refine(ins_grow b xs.length cap j vb ys.length vc us vs cur vcur w hjl hys h4 (by omega) hc63 hroom' hbh h6 hul h7 hvh hvl hv4 h1u h1v).mono ?_
      rintro e w2 ⟨G,cur',rfl,hG1,hG2,hch,hheap,hs,ht⟩
      exact⟨_,[w.heap.size],rfl,hch.mono (by simp),.inr ⟨rfl,(Array.getElem?_eq_some_iff.1 hheap).1⟩,.inr ⟨w.heap.size,G,cur',rfl,rfl,Row.of hheap,hG1,hG2,hs,ht⟩⟩
end Go.Proofs.Ytcifaoaepbidoaa
namespace Go.Proofs.Ytcifaoaepbidoaa
open Go.Den
set_option linter.unusedVariables false
set_option maxRecDepth 100000
def qb5:Ann:=(.two .nil (.two .nil (.two .nil (.two (.two .nil (.join ⟨[],[(5,Zt3)],[]⟩ (.two (.loop ⟨[1,2],[(5,Zt3),(6,Zt5)],[]⟩ .nil) .nil))) .nil))))
noncomputable def nimsumHeapNext_con:Con:=⟨[Zt2,Zt5],true,[],Zt3,fun x=>qba x.1 x.2.1,none⟩
noncomputable def qbZ:Env:=[]
theorem qdU (x:DL nimsumHeapNext_con.ps):nimsumHeapNext_con.φ x=denF Try.prog qbZ qb5 Try.f174 nimsumHeapNext_con.ps nimsumHeapNext_con.one nimsumHeapNext_con.res nimsumHeapNext_con.ρ x:=by kernel_rfl
theorem qee:ConOK Try.prog 174 nimsumHeapNext_con :=
  qaP (env:=qbZ) ((EnvOK.nil _)) mixed Try.func174 nimsumHeapNext_con qb5 (by kernel_rfl) (fun h=>by first | rfl | cases h) (fun g hg=>by cases hg) qdU
def qbu:Ann := .nil
noncomputable def slicesClone_byte_con:Con:=⟨[(.sl (.int .u8))],true,[],(.osl 5 (.int .u8)),fun x=>qo x.1,none⟩
noncomputable def qbt:Env:=[]
theorem qdc (x:DL slicesClone_byte_con.ps):slicesClone_byte_con.φ x=denF Try.prog qbt qbu Try.f180 slicesClone_byte_con.ps slicesClone_byte_con.one slicesClone_byte_con.res slicesClone_byte_con.ρ x:=by kernel_rfl
theorem qdm:ConOK Try.prog 180 slicesClone_byte_con :=
  qaP (env:=qbt) ((EnvOK.nil _)) mixed Try.func180 slicesClone_byte_con qbu (by kernel_rfl) (fun h=>by first | rfl | cases h) (fun g hg=>by cases hg) qdc
def qcz:Ann:=(.two .nil (.two (.two (.two .nil (.two (.two .nil (.joinE ⟨[],[],[]⟩ (.two (.loop ⟨[0,1,7],[(8,Zt5)],[]⟩ .nil) .nil))) .nil)) .nil) (.two (.two .nil (.join ⟨[0,3],[(5,Zt5)],[]⟩ .nil)) (.two (.join ⟨[],[(4,(.osl 5 (.int .u8)))],[]⟩ (.any 77 16 (.ord 0 0 .nil (.ord 2 0 .nil (.alt (.ord 1 0 .nil (.ord 3 0 .nil (.ord 4 0 .nil (.ord 5 0 .nil (.ord 6 0 .nil .nil))))) (.ord 3 0 .nil (.alt (.ord 1 0 .nil (.ord 4 0 .nil (.ord 5 0 .nil (.ord 6 0 .nil .nil)))) (.ord 4 0 .nil (.ord 1 0 .nil (.ord 5 0 .nil (.ord 6 0 .nil .nil))))))))))) .nil))))
noncomputable def nimsumInsert_con:Con:=⟨[(.sl (.int .u8)),(.int .u8)],true,[],(.osl 5 (.int .u8)),fun x=>qat x.1 x.2.1,none⟩
noncomputable def qcy:Env:=(179,.ins insByte_ins)::(180,.con slicesClone_byte_con)::(178,.body Try.f178)::(177,.body Try.f177)::[]
theorem qet (x:DL nimsumInsert_con.ps):nimsumInsert_con.φ x=denF Try.prog qcy qcz Try.f176 nimsumInsert_con.ps nimsumInsert_con.one nimsumInsert_con.res nimsumInsert_con.ρ x:=by kernel_rfl
theorem qeG:ConOK Try.prog 176 nimsumInsert_con :=
  qaP (env:=qcy) ((EnvOK.insert (EnvOK.cons (EnvOK.body (EnvOK.body (EnvOK.nil _) Try.func177) Try.func178) qdm) qia)) mixed Try.func176 nimsumInsert_con qcz (by kernel_rfl) (fun h=>by first | rfl | cases h) (fun g hg=>by cases hg) qet
def qbS:Ann:=(.two .nil (.two .nil (.two (.two .nil (.join ⟨[1],[(5,Zt5)],[]⟩ (.two (.loop ⟨[1,12],[(5,Zt5),(13,Zt5)],[]⟩ .nil) .nil))) (.two .nil (.two .nil (.two (.two .nil (.join ⟨[],[(7,Zt4)],[]⟩ (.two (.loop ⟨[1,31],[(7,Zt4),(32,Zt5)],[]⟩ (.two .nil (.two .nil (.two (.join ⟨[1,31,32],[(7,Zt4)],[(1,none)]⟩ (.two (.two .nil (.two (.tail 8 .nil) (.two .nil (.join ⟨[1,31,32],[(7,Zt4)],[(1,none)]⟩ (.two (.loop ⟨[1,8,9,31,32],[(7,Zt4),(10,Zt5)],[(1,none)]⟩ (.two .nil (.two (.two (.join ⟨[1,8,9,10,31,32],[(7,Zt4)],[(2,none)]⟩ (.any 38895 8192 (.ord 0 0 .nil (.ord 1 0 .nil (.ord 2 0 .nil (.ord 3 2023 .nil (.ord 5 0 .nil (.ord 6 0 .nil (.ord 7 0 .nil (.ord 8 0 .nil (.alt (.ord 4 0 .nil (.ord 9 0 .nil (.ord 10 0 .nil (.ord 11 0 .nil (.ord 12 0 .nil (.ord 13 0 .nil (.ord 14 0 .nil (.ord 15 0 .nil .nil)))))))) (.ord 9 0 .nil (.ord 10 0 .nil (.ord 4 0 .nil (.ord 11 0 .nil (.ord 12 0 .nil (.ord 13 0 .nil (.ord 14 0 .nil (.ord 15 0 .nil .nil))))))))))))))))))) .nil) .nil))) .nil))))) .nil)) .nil)))) .nil))) .nil))))))
noncomputable def nimsumSplitNext_con:Con:=⟨[.nil,.str],true,[],Zt4,fun x=>qaX x.1 x.2.1,none⟩
noncomputable def qbP:Env:=(176,.con nimsumInsert_con)::[]
theorem qdq (x:DL nimsumSplitNext_con.ps):nimsumSplitNext_con.φ x=denF Try.prog qbP qbS Try.f175 nimsumSplitNext_con.ps nimsumSplitNext_con.one nimsumSplitNext_con.res nimsumSplitNext_con.ρ x:=by kernel_rfl
theorem qdD:ConOK Try.prog 175 nimsumSplitNext_con :=
  qaP (env:=qbP) ((EnvOK.cons (EnvOK.nil _) qeG)) mixed Try.func175 nimsumSplitNext_con qbS (by kernel_rfl) (fun h=>by first | rfl | cases h) (fun g hg=>by cases hg) qdq
def qaD:Ann:=(.two .nil (.two .nil (.two (.two (.join ⟨[0,1],[(36,.bool)],[]⟩ (.any 1007 0 (.ord 0 0 .nil (.ord 1 0 .nil (.ord 2 0 .nil (.ord 3 487 .nil (.ord 5 0 .nil (.ord 6 0 .nil (.ord 7 0 .nil (.alt (.ord 4 0 .nil (.ord 8 0 .nil (.ord 9 0 .nil .nil))) (.ord 8 0 .nil (.ord 4 0 .nil (.ord 9 0 .nil .nil))))))))))))) .nil) (.two .nil (.two .nil (.two (.two .nil (.joinE ⟨[0,1,8],[],[(0,some (.box (.st (.ifc 62 Zt2) (.st Zt5 (.st (.omp Zt5 Zt5) .nil))))),(1,none),(2,some (.mp Zt5 .bool))]⟩ (.two (.loop ⟨[0,1,8,48,49],[(50,Zt5)],[(0,some (.box (.st (.ifc 62 Zt2) (.st Zt5 (.st (.omp Zt5 Zt5) .nil))))),(1,none),(2,some (.mp Zt5 .bool))]⟩ .nil) .nil))) (.two .nil (.two (.join ⟨[0,1],[(13,Zt5)],[]⟩ (.two (.loop ⟨[0,1,8],[(13,Zt5)],[]⟩ .nil) .nil)) .nil))))))))
noncomputable def qaE:Ioc:=⟨(.st (.ifc 62 Zt2) (.st Zt5 (.st (.omp Zt5 Zt5) .nil))),[Zt5],false,[Zt5,Zt5],Zt1,fun x=>qs x.1 x.2.1⟩
noncomputable def qaG (φ:DL ((.st (.ifc 62 Zt2) (.st Zt5 (.st (.omp Zt5 Zt5) .nil)))::[Zt5])→Option (D (.st (.st (.ifc 62 Zt2) (.st Zt5 (.st (.omp Zt5 Zt5) .nil))) Zt1))):Env:=(87,.io ⟨(.st (.ifc 62 Zt2) (.st Zt5 (.st (.omp Zt5 Zt5) .nil))),[Zt5],false,[Zt5,Zt5],Zt1,φ⟩)::(174,.con nimsumHeapNext_con)::[]
theorem qb8 (φ:DL ((.st (.ifc 62 Zt2) (.st Zt5 (.st (.omp Zt5 Zt5) .nil)))::[Zt5])→Option (D (.st (.st (.ifc 62 Zt2) (.st Zt5 (.st (.omp Zt5 Zt5) .nil))) Zt1))) (x:DL ((.st (.ifc 62 Zt2) (.st Zt5 (.st (.omp Zt5 Zt5) .nil)))::[Zt5])):qd φ x=denIO Try.prog (qaG φ) qaD Try.f87 (.st (.ifc 62 Zt2) (.st Zt5 (.st (.omp Zt5 Zt5) .nil))) [Zt5] false [Zt5,Zt5] Zt1 x:=by kernel_rfl
theorem qcl:IocOK Try.prog 87 qaE :=
  ioc_fix (bx:=(.st (.ifc 62 Zt2) (.st Zt5 (.st (.omp Zt5 Zt5) .nil)))) (ps:=[Zt5]) (ρ:=Zt1) (G:=qd) (by kernel_rfl) (fun h=>by first | rfl | cases h) fun φ hφ =>
  qfv (env:=qaG φ) ((EnvOK.inout (EnvOK.cons (EnvOK.nil _) qee) hφ)) mixed Try.func87 ⟨(.st (.ifc 62 Zt2) (.st Zt5 (.st (.omp Zt5 Zt5) .nil))),[Zt5],false,[Zt5,Zt5],Zt1,qd φ⟩ qaD (by kernel_rfl) (fun h=>by first | rfl | cases h) (qb8 φ)
def qaj:Ann:=(.two .nil (.two .nil (.two (.two (.join ⟨[0,1],[(36,.bool)],[]⟩ (.any 1007 0 (.ord 0 0 .nil (.ord 1 0 .nil (.ord 2 0 .nil (.ord 3 487 .nil (.ord 5 0 .nil (.ord 6 0 .nil (.ord 7 0 .nil (.alt (.ord 4 0 .nil (.ord 8 0 .nil (.ord 9 0 .nil .nil))) (.ord 8 0 .nil (.ord 4 0 .nil (.ord 9 0 .nil .nil))))))))))))) .nil) (.two .nil (.two .nil (.two (.two .nil (.joinE ⟨[0,1,8],[],[(0,some (.box (.st (.ifc 65 .nil) (.st Zt5 (.st (.omp .str Zt5) .nil))))),(1,none),(2,some (.mp Zt5 .bool))]⟩ (.two (.loop ⟨[0,1,8,48,49],[(50,Zt5)],[(0,some (.box (.st (.ifc 65 .nil) (.st Zt5 (.st (.omp .str Zt5) .nil))))),(1,none),(2,some (.mp Zt5 .bool))]⟩ .nil) .nil))) (.two .nil (.two (.join ⟨[0,1],[(13,Zt5)],[]⟩ (.two (.loop ⟨[0,1,8],[(13,Zt5)],[]⟩ .nil) .nil)) .nil))))))))
noncomputable def qag:Ioc:=⟨(.st (.ifc 65 .nil) (.st Zt5 (.st (.omp .str Zt5) .nil))),[.str],false,[Zt5,Zt5],Zt1,fun x=>ql x.1 x.2.1⟩
noncomputable def qak (φ:DL ((.st (.ifc 65 .nil) (.st Zt5 (.st (.omp .str Zt5) .nil)))::[.str])→Option (D (.st (.st (.ifc 65 .nil) (.st Zt5 (.st (.omp .str Zt5) .nil))) Zt1))):Env:=(88,.io ⟨(.st (.ifc 65 .nil) (.st Zt5 (.st (.omp .str Zt5) .nil))),[.str],false,[Zt5,Zt5],Zt1,φ⟩)::(175,.con nimsumSplitNext_con)::[]
theorem qbB (φ:DL ((.st (.ifc 65 .nil) (.st Zt5 (.st (.omp .str Zt5) .nil)))::[.str])→Option (D (.st (.st (.ifc 65 .nil) (.st Zt5 (.st (.omp .str Zt5) .nil))) Zt1))) (x:DL ((.st (.ifc 65 .nil) (.st Zt5 (.st (.omp .str Zt5) .nil)))::[.str])):qh φ x=denIO Try.prog (qak φ) qaj Try.f88 (.st (.ifc 65 .nil) (.st Zt5 (.st (.omp .str Zt5) .nil))) [.str] false [Zt5,Zt5] Zt1 x:=by kernel_rfl
theorem qbG:IocOK Try.prog 88 qag :=
  ioc_fix (bx:=(.st (.ifc 65 .nil) (.st Zt5 (.st (.omp .str Zt5) .nil)))) (ps:=[.str]) (ρ:=Zt1) (G:=qh) (by kernel_rfl) (fun h=>by first | rfl | cases h) fun φ hφ =>
  qfv (env:=qak φ) ((EnvOK.inout (EnvOK.cons (EnvOK.nil _) qdD) hφ)) mixed Try.func88 ⟨(.st (.ifc 65 .nil) (.st Zt5 (.st (.omp .str Zt5) .nil))),[.str],false,[Zt5,Zt5],Zt1,qh φ⟩ qaj (by kernel_rfl) (fun h=>by first | rfl | cases h) (qbB φ)
def qdP:Ann:=(.two .nil (.two .nil (.two (.loop ⟨[0],[(3,Zt5)],[]⟩ (.two (.joinE ⟨[0,3],[],[]⟩ (.two (.two .nil (.two (.two .nil (.join ⟨[0,3],[(4,.bool)],[]⟩ (.two (.loop ⟨[0,3,9,10],[(4,.bool),(11,Zt5)],[]⟩ .nil) .nil))) .nil)) .nil)) .nil)) .nil)))
noncomputable def ref1Least_con:Con:=⟨[(.sl Zt5)],true,[],Zt5,fun x=>qbi x.1,none⟩
noncomputable def qdI:Env:=[]
theorem qf5 (x:DL ref1Least_con.ps):ref1Least_con.φ x=denF Try.prog qdI qdP Try.f62 ref1Least_con.ps ref1Least_con.one ref1Least_con.res ref1Least_con.ρ x:=by kernel_rfl
theorem qem:ConOK Try.prog 62 ref1Least_con :=
  qaP (env:=qdI) ((EnvOK.nil _)) mixed Try.func62 ref1Least_con qdP (by kernel_rfl) (fun h=>by first | rfl | cases h) (fun g hg=>by cases hg) qf5
def qci:Ann:=(.two .nil (.two .nil (.two (.two .nil (.join ⟨[0],[(5,Zt3)],[(0,none)]⟩ (.two (.loop ⟨[0,1,11],[(5,Zt3),(12,Zt5)],[(0,none)]⟩ (.two .nil (.two .nil (.two (.join ⟨[0,1,11,12],[(5,Zt3)],[(1,none)]⟩ (.two (.two .nil (.two .nil (.two (.two .nil (.join ⟨[0,1,5,11,12],[(7,Zt3)],[]⟩ (.two (.loop ⟨[0,1,5,6,11,12],[(7,Zt3),(8,Zt5)],[]⟩ .nil) .nil))) .nil))) .nil)) .nil)))) .nil))) .nil)))
noncomputable def ref1HeapValue_con:Con:=⟨[Zt5,Zt5],true,[],Zt5,fun x=>qbw x.1 x.2.1,none⟩
noncomputable def qcg:Env:=(62,.con ref1Least_con)::[]
theorem qec (x:DL ref1HeapValue_con.ps):ref1HeapValue_con.φ x=denF Try.prog qcg qci Try.f25 ref1HeapValue_con.ps ref1HeapValue_con.one ref1HeapValue_con.res ref1HeapValue_con.ρ x:=by kernel_rfl
theorem qeu:ConOK Try.prog 25 ref1HeapValue_con :=
  qaP (env:=qcg) ((EnvOK.cons (EnvOK.nil _) qem)) mixed Try.func25 ref1HeapValue_con qci (by kernel_rfl) (fun h=>by first | rfl | cases h) (fun g hg=>by cases hg) qec
def qb0:Ann:=(.two .nil (.two .nil (.two (.two .nil (.join ⟨[0],[(3,Zt3)],[(0,none)]⟩ (.two (.loop ⟨[0],[(3,Zt3),(4,Zt5)],[(0,none)]⟩ (.two .nil (.two (.join ⟨[0,4],[(3,Zt3)],[(1,none)]⟩ (.two (.two .nil (.two (.two .nil (.join ⟨[0,3,4],[(5,Zt3)],[]⟩ (.two (.loop ⟨[0,3,4],[(5,Zt3),(6,Zt5)],[]⟩ (.two .nil (.two (.two (.any 20479 4096 (.ord 0 0 .nil (.ord 1 0 .nil (.ord 2 0 .nil (.ord 3 0 .nil (.ord 4 2031 .nil (.ord 5 0 .nil (.ord 6 0 .nil (.ord 7 0 .nil (.ord 8 0 .nil (.ord 9 0 .nil (.ord 10 0 .nil (.ord 11 0 .nil (.ord 12 0 .nil (.ord 13 0 .nil (.ord 14 0 .nil .nil)))))))))))))))) .nil) .nil))) .nil))) .nil)) .nil)) .nil))) .nil))) .nil)))
noncomputable def ref1SplitValue_con:Con:=⟨[Zt5],true,[],Zt5,fun x=>qaF x.1,none⟩
noncomputable def qbY:Env:=(62,.con ref1Least_con)::[]
theorem qdL (x:DL ref1SplitValue_con.ps):ref1SplitValue_con.φ x=denF Try.prog qbY qb0 Try.f26 ref1SplitValue_con.ps ref1SplitValue_con.one ref1SplitValue_con.res ref1SplitValue_con.ρ x:=by kernel_rfl
theorem qd2:ConOK Try.prog 26 ref1SplitValue_con :=
  qaP (env:=qbY) ((EnvOK.cons (EnvOK.nil _) qem)) mixed Try.func26 ref1SplitValue_con qb0 (by kernel_rfl) (fun h=>by first | rfl | cases h) (fun g hg=>by cases hg) qdL
def qbL:Ann := .nil
noncomputable def law1NimsumHeaps_con:Con:=⟨[Zt5,Zt5,Zt5],true,[],.bool,fun x=>qbO x.1 x.2.1 x.2.2.1,none⟩
noncomputable def qbR:Env:=(26,.con ref1SplitValue_con)::(25,.con ref1HeapValue_con)::(88,.io qag)::(61,.body Try.f61)::(24,.body Try.f24)::(87,.io qaE)::(60,.body Try.f60)::(23,.body Try.f23)::[]
theorem qdo (x:DL law1NimsumHeaps_con.ps):law1NimsumHeaps_con.φ x=denF Try.prog qbR qbL Try.f5 law1NimsumHeaps_con.ps law1NimsumHeaps_con.one law1NimsumHeaps_con.res law1NimsumHeaps_con.ρ x:=by kernel_rfl
theorem law1NimsumHeaps_ok:ConOK Try.prog 5 law1NimsumHeaps_con :=
  qaP (env:=qbR) ((EnvOK.cons (EnvOK.cons (EnvOK.inout (EnvOK.body (EnvOK.body (EnvOK.inout (EnvOK.body (EnvOK.body (EnvOK.nil _) Try.func23) Try.func60) qcl) Try.func24) Try.func61) qbG) qeu) qd2)) mixed Try.func5 law1NimsumHeaps_con qbL (by kernel_rfl) (fun h=>by first | rfl | cases h) (fun g hg=>by cases hg) qdo
end Go.Proofs.Ytcifaoaepbidoaa
