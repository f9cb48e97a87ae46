/- Several texts in one: Base, MSortC, StrC, InsA, InsC, CoreC, GameC, RecordC, AnnotateCutsC. -/
import Derived.Test.YthidcmjpbokeeaaGreatProg
import Derived.Test.YthidcmjpbokeeaaGreatMAD
import Derived.Test.YthidcmjpbokeeaaGreatMAA
import Derived.Test.YthidcmjpbokeeaaGreatMAE
import Derived.Shelf.Small.Strs
import Derived.Shelf.Spec.SlicesInsertGrow
import Derived.Lib.SlicesDelete
import Derived.Lib.SliceRun
import Derived.Deep.RegionLaw
import Derived.Shelf.RegionOpenPlain
import Derived.Sort.WalkB12
namespace Go.Proofs.YthidcmjpbokeeaaGreat
theorem mixed:Tryz.prog.follows .mixedOrders=true:=by kernel_rfl
end Go.Proofs.YthidcmjpbokeeaaGreat
namespace Go.Proofs.YthidcmjpbokeeaaGreat
open Go.Den
set_option linter.unusedVariables false
set_option maxRecDepth 100000
def qfx:Ann := .nil
noncomputable def cmpIsNaN_int_con:Con:=⟨[Zt43],true,[],.bool,fun x=>qes x.1,some fun x=>qai x.1⟩
noncomputable def qft:Env:=[]
theorem qjs (x:DL cmpIsNaN_int_con.ps):cmpIsNaN_int_con.φ x=denF (CT:=ctxUp) Tryz.prog qft qfx Tryz.f120 cmpIsNaN_int_con.ps cmpIsNaN_int_con.one cmpIsNaN_int_con.res cmpIsNaN_int_con.ρ x:=by kernel_rfl
theorem qkt:ConOK (CT:=ctxUp) Tryz.prog 120 cmpIsNaN_int_con :=
  qc (CT:=ctxUp) (env:=qft) ((EnvOK.nil (CT:=ctxUp) _)) mixed Tryz.func120 cmpIsNaN_int_con qfx (by kernel_rfl) (fun h=>by first | rfl | cases h) (fun g hg x=>by
    cases hg
    exact qkW _) qjs
def qdX:Ann := .nil
noncomputable def cmpCompare_int_con:Con:=⟨[Zt43,Zt43],true,[],Zt43,fun x=>qcO x.1 x.2.1,some fun x=>qaj x.1 x.2.1⟩
noncomputable def qd1:Env:=(120,.con cmpIsNaN_int_con)::[]
theorem qh2 (x:DL cmpCompare_int_con.ps):cmpCompare_int_con.φ x=denF (CT:=ctxUp) Tryz.prog qd1 qdX Tryz.f111 cmpCompare_int_con.ps cmpCompare_int_con.one cmpCompare_int_con.res cmpCompare_int_con.ρ x:=by kernel_rfl
theorem qiF:ConOK (CT:=ctxUp) Tryz.prog 111 cmpCompare_int_con :=
  qc (CT:=ctxUp) (env:=qd1) ((EnvOK.cons (CT:=ctxUp) (EnvOK.nil (CT:=ctxUp) _) qkt)) mixed Tryz.func111 cmpCompare_int_con qdX (by kernel_rfl) (fun h=>by first | rfl | cases h) (fun g hg x=>by
    cases hg
    exact qjg _ _) qh2
def qiE:Ann:=(.two .nil (.two .nil (.two (.two .nil (.joinE ⟨[3],[],[]⟩ (.two (.loop ⟨[3,6,7],[(8,Zt43)],[]⟩ .nil) .nil))) .nil)))
noncomputable def cmpOr_int_con:Con:=⟨[Zt42],true,[],Zt43,fun x=>qiI x.1,none⟩
noncomputable def qiz:Env:=[]
theorem qmj (x:DL cmpOr_int_con.ps):cmpOr_int_con.φ x=denF (CT:=ctxUp) Tryz.prog qiz qiE Tryz.f110 cmpOr_int_con.ps cmpOr_int_con.one cmpOr_int_con.res cmpOr_int_con.ρ x:=by kernel_rfl
theorem qn3:ConOK (CT:=ctxUp) Tryz.prog 110 cmpOr_int_con :=
  qc (CT:=ctxUp) (env:=qiz) ((EnvOK.nil (CT:=ctxUp) _)) mixed Tryz.func110 cmpOr_int_con qiE (by kernel_rfl) (fun h=>by first | rfl | cases h) (fun g hg=>by cases hg) qmj
def qjO:Ann:=(.two .nil (.two (.tail 15 .nil) .nil))
noncomputable def movesCmp_con:Con:=⟨[Zt37,Zt37],true,[],Zt43,fun x=>qnQ x.1 x.2.1,none⟩
noncomputable def qjW:Env:=(110,.con cmpOr_int_con)::(111,.con cmpCompare_int_con)::[]
theorem qpI (x:DL movesCmp_con.ps):movesCmp_con.φ x=denF (CT:=ctxUp) Tryz.prog qjW qjO Tryz.f109 movesCmp_con.ps movesCmp_con.one movesCmp_con.res movesCmp_con.ρ x:=by kernel_rfl
theorem qqf:ConOK (CT:=ctxUp) Tryz.prog 109 movesCmp_con :=
  qc (CT:=ctxUp) (env:=qjW) ((EnvOK.cons (CT:=ctxUp) (EnvOK.cons (CT:=ctxUp) (EnvOK.nil (CT:=ctxUp) _) qiF) qn3)) mixed Tryz.func109 movesCmp_con qjO (by kernel_rfl) (fun h=>by first | rfl | cases h) (fun g hg=>by cases hg) qpI
def qpE:Go.Shelf.Ren:=⟨fun | 6=>108 | 15=>119 | 14=>118 | 28=>131 | 29=>132 | 20=>123 | 21=>124 | 22=>125 | 23=>126 | 24=>127 | 25=>128 | 26=>129 | 27=>130 | 46=>133 | 47=>134 | 48=>135 | 49=>136 | 50=>137 | 57=>138 | n=>n,fun | 22=>41 | 24=>45 | 25=>164 | 3=>3 | 39=>172 | 0=>0 | 53=>187 | 55=>189 | 4=>4 | 46=>180 | 45=>179 | 50=>184 | 5=>5 | 9=>9 | 66=>190 | 70=>194 | 76=>196 | 77=>197 | n=>n,fun | n=>n⟩
theorem msort_lay:SlLaysF0.n6 Tryz.prog qpE where
  mixed:=by kernel_rfl
  f6:=⟨Tryz.f108.name,by decide,Tryz.func108.trans (congrArg some (by kernel_rfl))⟩
  f14:=⟨Tryz.f118.name,by decide,Tryz.func118.trans (congrArg some (by kernel_rfl))⟩
  f15:=Tryz.func119.trans (congrArg some (by kernel_rfl))
  f20:=⟨Tryz.f123.name,by decide,Tryz.func123.trans (congrArg some (by kernel_rfl))⟩
  f21:=⟨Tryz.f124.name,by decide,Tryz.func124.trans (congrArg some (by kernel_rfl))⟩
  f22:=⟨Tryz.f125.name,by decide,Tryz.func125.trans (congrArg some (by kernel_rfl))⟩
  f23:=⟨Tryz.f126.name,by decide,Tryz.func126.trans (congrArg some (by kernel_rfl))⟩
  f24:=⟨Tryz.f127.name,by decide,Tryz.func127.trans (congrArg some (by kernel_rfl))⟩
  f25:=⟨Tryz.f128.name,by decide,Tryz.func128.trans (congrArg some (by kernel_rfl))⟩
  f26:=⟨Tryz.f129.name,by decide,Tryz.func129.trans (congrArg some (by kernel_rfl))⟩
  f27:=⟨Tryz.f130.name,by decide,Tryz.func130.trans (congrArg some (by kernel_rfl))⟩
  f28:=Tryz.func131.trans (congrArg some (by kernel_rfl))
  f29:=Tryz.func132.trans (congrArg some (by kernel_rfl))
  f46:=⟨Tryz.f133.name,by decide,Tryz.func133.trans (congrArg some (by kernel_rfl))⟩
  f47:=Tryz.func134.trans (congrArg some (by kernel_rfl))
  f48:=Tryz.func135.trans (congrArg some (by kernel_rfl))
  f49:=⟨Tryz.f136.name,by decide,Tryz.func136.trans (congrArg some (by kernel_rfl))⟩
  f50:=⟨Tryz.f137.name,by decide,Tryz.func137.trans (congrArg some (by kernel_rfl))⟩
  f57:=⟨Tryz.f138.name,by decide,Tryz.func138.trans (congrArg some (by kernel_rfl))⟩
  t0:=Tryz.underlying0
  a0:=Tryz.isAgg0
  z0:=Tryz.sizeOf0
  v0:=Tryz.zeroValue0
  t3:=Tryz.underlying3
  a3:=Tryz.isAgg3
  z3:=Tryz.sizeOf3
  v3:=Tryz.zeroValue3
  t4:=Tryz.underlying4
  a4:=Tryz.isAgg4
  z4:=Tryz.sizeOf4
  v4:=Tryz.zeroValue4
  t5:=Tryz.underlying5
  a5:=Tryz.isAgg5
  z5:=Tryz.sizeOf5
  v5:=Tryz.zeroValue5
  t9:=Tryz.underlying9
  a9:=Tryz.isAgg9
  z9:=Tryz.sizeOf9
  v9:=Tryz.zeroValue9
  t22:=Tryz.underlying41
  a22:=Tryz.isAgg41
  z22:=Tryz.sizeOf41
  v22:=Tryz.zeroValue41
  t25:=Tryz.underlying164
  a25:=Tryz.isAgg164
  z25:=Tryz.sizeOf164
  v25:=Tryz.zeroValue164
  t39:=Tryz.underlying172
  a39:=Tryz.isAgg172
  z39:=Tryz.sizeOf172
  v39:=Tryz.zeroValue172
  t45:=Tryz.underlying179
  a45:=Tryz.isAgg179
  z45:=Tryz.sizeOf179
  v45:=Tryz.zeroValue179
  t46:=Tryz.underlying180
  a46:=Tryz.isAgg180
  z46:=Tryz.sizeOf180
  v46:=Tryz.zeroValue180
  t50:=Tryz.underlying184
  a50:=Tryz.isAgg184
  z50:=Tryz.sizeOf184
  v50:=Tryz.zeroValue184
  t53:=Tryz.underlying187
  a53:=Tryz.isAgg187
  z53:=Tryz.sizeOf187
  v53:=Tryz.zeroValue187
  t55:=Tryz.underlying189
  a55:=Tryz.isAgg189
  z55:=Tryz.sizeOf189
  v55:=Tryz.zeroValue189
  t66:=Tryz.underlying190
  a66:=Tryz.isAgg190
  z66:=Tryz.sizeOf190
  v66:=Tryz.zeroValue190
  t70:=Tryz.underlying194
  a70:=Tryz.isAgg194
  z70:=Tryz.sizeOf194
  v70:=Tryz.zeroValue194
  t76:=Tryz.underlying196
  a76:=Tryz.isAgg196
  z76:=Tryz.sizeOf196
  v76:=Tryz.zeroValue196
  t77:=Tryz.underlying197
  a77:=Tryz.isAgg197
  z77:=Tryz.sizeOf197
  v77:=Tryz.zeroValue197
open Go.Sort Go.Lib in
section
def cmp3 (a b:Int):Int:=if a<b then -1 else if b<a then 1 else 0
theorem qqX (a b:Int):qaj a b=cmp3 a b:=by
  unfold qaj qai cmp3
  by_cases h:a<b
  · simp[h]
  · by_cases h2:b<a<;>simp[h,h2]
theorem qs2 (a b c:Int):qiI [a,b,c]=some (if a=0 then if b=0 then c else b else a):=by
  unfold qiI
  by_cases ha:a=0
  · subst ha
    rw[qo (y:=((1,()),())) (by simp[qaK,at?,qg])]
    by_cases hb:b=0
    · subst hb
      rw[qo (y:=((2,()),())) (by simp[qaK,at?,qg])]
      by_cases hc:c=0
      · subst hc
        rw[qo (y:=((3,()),())) (by simp[qaK,at?,qg])]
        rw[qj (r := .inl ((),())) (by simp[qaK])]
        rfl
      · rw[qj (r := .inr c) (by simp[qaK,at?,bne_t hc])]
        simp
    · rw[qj (r := .inr b) (by simp[qaK,at?,bne_t hb])]
      simp[hb]
  · rw[qj (r := .inr a) (by simp[qaK,at?,bne_t ha])]
    simp[ha]
def mvCf (x y:Mv):Int:=if cmp3 x.1 y.1=0 then if cmp3 x.2.1 y.2.1=0 then cmp3 x.2.2.1 y.2.2.1 else cmp3 x.2.1 y.2.1 else cmp3 x.1 y.1
theorem qnM (x y:Mv):qnQ x y=some (mvCf x y):=by
  unfold qnQ mvCf
  rw[qqX,qqX,qqX,qs2]
  rfl
theorem qpb (a b:Int):cmp3 a b=0↔a=b:=by
  unfold cmp3
  split
  · constructor<;>intro h<;>omega
  · split<;>constructor<;>intro h<;>omega
theorem qqF (a b:Int):cmp3 a b<0↔a<b:=by
  unfold cmp3
  split
  · constructor<;>intro h<;>omega
  · split<;>constructor<;>intro h<;>omega
theorem qob:ltOf mvCf=mvLt:=by
  funext x y
  unfold ltOf mvCf mvLt
  by_cases h1:x.1=y.1
  · by_cases h2:x.2.1=y.2.1
    · simp[h1,h2,(qpb y.1 y.1).2 rfl,(qpb y.2.1 y.2.1).2 rfl,qqF]
    · have:¬cmp3 x.2.1 y.2.1=0:=fun h=>h2 ((qpb _ _).1 h)
      simp[h1,h2,(qpb y.1 y.1).2 rfl,this,qqF]
  · have:¬cmp3 x.1 y.1=0:=fun h=>h1 ((qpb _ _).1 h)
    simp[h1,this,qqF]
theorem qrs (x y:Mv):mvLt x y=true↔x.1<y.1∨x.1=y.1∧(x.2.1<y.2.1∨x.2.1=y.2.1∧x.2.2.1<y.2.2.1):=by simp[mvLt]
theorem mvLt_f (x y:Mv):mvLt x y=false↔¬(x.1<y.1∨x.1=y.1∧(x.2.1<y.2.1∨x.2.1=y.2.1∧x.2.2.1<y.2.2.1)):=by rw[←qrs,Bool.not_eq_true]
theorem mv_swo:SWO mvLt where
  irrefl x:=by rw[mvLt_f];omega
  trans x y z h1 h2:=by rw[qrs] at *;omega
  ntrans x y z h1 h2:=by rw[mvLt_f] at *;omega
theorem mv_tot (x y:Mv) (h1:mvLt x y=false) (h2:mvLt y x=false):x=y:=by
  rw[mvLt_f] at h1 h2
  obtain⟨a,b,c,⟨⟩⟩:=x
  obtain⟨a',b',c',⟨⟩⟩:=y
  simp only at h1 h2
  have e1:a=a':=by omega
  subst e1
  have e2:b=b':=by omega
  subst e2
  have e3:c=c':=by omega
  subst e3
  rfl
def qfn:Srt:=⟨45,Zt37,some 109,qa8⟩
theorem qo8:SrtOK Tryz.prog 108 qfn:=by
  have h:=qrc (ρ:=qpE) (g:=109) (f:=108) (τ:=Zt37) (i:=45) msort_lay rfl rfl rfl rfl Tryz.isAgg45 Tryz.sizeOf45 qqf mvCf (fun x y=>qnM x y) (show SWO (ltOf mvCf) from qob▸mv_swo) (fun x y h1 h2=>mv_tot x y (by rw[←qob];exact h1) (by rw[←qob];exact h2)) (enters_of Tryz.func109 (by kernel_rfl) rfl)
  have e:(fun xs:List Mv=>xs.mergeSort fun x y=>!(ltOf mvCf) y x)=qa8:=by rw[qob];rfl
  have:qfn=⟨45,Zt37,some 109,fun xs:List Mv=>xs.mergeSort fun x y=>!(ltOf mvCf) y x⟩:=by rw[e];rfl
  rw[this]
  exact h
end
set_option linter.unusedSimpArgs false
def ixb_ren:Go.Shelf.Ren:=⟨fun | 137=>76 | 217=>90 | 266=>102 | n=>n,fun | 9=>9 | 5=>5 | 3=>3 | n=>n,fun | n=>n⟩
open Go.Shelf in
theorem ixb_lay:Go.Proofs.Lays.n137 Tryz.prog ixb_ren where
  mixed:=by kernel_rfl
  f137:=Tryz.func76.trans (congrArg some (by kernel_rfl))
  f217:=Tryz.func90.trans (congrArg some (by kernel_rfl))
  f266:=Tryz.func102.trans (congrArg some (by kernel_rfl))
  t3:=Tryz.underlying3
  a3:=Tryz.isAgg3
  z3:=Tryz.sizeOf3
  v3:=Tryz.zeroValue3
  t5:=Tryz.underlying5
  a5:=Tryz.isAgg5
  z5:=Tryz.sizeOf5
  v5:=Tryz.zeroValue5
  t9:=Tryz.underlying9
  a9:=Tryz.isAgg9
  z9:=Tryz.sizeOf9
  v9:=Tryz.zeroValue9
noncomputable def qhx:Con:=⟨[.str,.int .u8],true,[],.int .i64,fun x=>some (qdj x.1 x.2.1),some fun x=>qdj x.1 x.2.1⟩
theorem qop:ConOK Tryz.prog 76 qhx:=by
  refine⟨rfl,fun h=>(by cases h),fun g h x=>(by cases h;rfl),fun w S args x r hS hT ha hr=>?_⟩
  obtain⟨s,c,⟨⟩⟩:=x
  obtain⟨v,q,e1,⟨cs,⟨_,rfl⟩,rfl⟩,v2,q2,rfl,⟨cs2,⟨_,rfl⟩,rfl⟩,h2⟩:=ha
  obtain rfl:q2=[]:=h2
  obtain rfl:args = #[.string s,.int .u8 c]:=by rw[←Array.toList_inj,e1];rfl
  obtain rfl:qdj s c=r:=Option.some.inj hr
  refine(Any.strings_IndexByte (P:=Tryz.prog) (ρ:=ixb_ren) ixb_lay s c w).mono ?_
  rintro e w' ⟨rfl,rfl⟩
  exact⟨_,rfl,Go.Eng.Chg.refl _ _,[],[.int .i64 _],List.nodup_nil,(by simp),⟨rfl,rfl⟩,rfl⟩

end Go.Proofs.YthidcmjpbokeeaaGreat
namespace Go.Proofs.YthidcmjpbokeeaaGreat
open Go Go.Proofs Go.RowKit Go.Shelf Go.Lib Go.Den Go.Eng
set_option linter.unusedVariables false
set_option linter.unusedSimpArgs false
theorem qot:(Tryz.prog.info? 79).map (·.size)=some 1:=by kernel_rfl
theorem insZero:∃i z,Tryz.prog.info? 79=some i∧i.zero=some z∧i.size=1∧i.bytes=8∧z.cells.size=1:=by
  have h:(Tryz.prog.info? 79).bind (fun i=>i.zero.map (fun z=>(i.size,i.bytes,z.cells.size)))=some (1,8,1):=by kernel_rfl
  obtain⟨i,h1,h2⟩:=Option.bind_eq_some_iff.1 h;obtain⟨z,h3,h4⟩:=Option.map_eq_some_iff.1 h2;simp only[Prod.mk.injEq] at h4;exact⟨i,z,h1,h3,h4.1,h4.2.1,h4.2.2⟩
theorem ins_list {A:Type} (C cs vs:List A) (a q N:Nat) (ha:a≤N) (hN:cs.length=N) (hq:vs.length=q) (hC:C.take N=cs) :
    (((C.take (a+q)++cs.drop a++C.drop (a+q+(cs.drop a).length)).take a++vs++(C.take (a+q)++cs.drop a++C.drop (a+q+(cs.drop a).length)).drop (a+vs.length)).take (N+q))=cs.take a++(vs++cs.drop a)∨C.length<a+q:=by
  by_cases hl:C.length<a+q
  · exact .inr hl
  · left
    have e1:(C.take (a+q)).length=a+q:=by rw[List.length_take];omega
    have e2:(C.take (a+q)++cs.drop a++C.drop (a+q+(cs.drop a).length)).take a=cs.take a:=by
      rw[List.append_assoc,List.take_append_of_le_length (by omega),List.take_take,←hC,List.take_take];congr 1;omega
    have e3:(C.take (a+q)++cs.drop a++C.drop (a+q+(cs.drop a).length)).drop (a+vs.length)=cs.drop a++C.drop (a+q+(cs.drop a).length):=by
      rw[hq,List.append_assoc,List.drop_append,List.drop_of_length_le (by omega),e1];simp
    rw[e2,e3,List.append_assoc,←List.append_assoc vs,←List.append_assoc]
    have e4:(cs.take a++(vs++cs.drop a)).length=N+q:=by simp only[List.length_append,List.length_take,List.length_drop,hN,hq];omega
    rw[←e4,List.take_left]
theorem qik {w:World} {b k:Nat} {cur:Array Value} {T:TypeId} (h:w.heap[b]?=some (.cells cur T (0,0))):w.cell? ⟨b,k,none⟩=cur.toList[k]?:=by
  simp[World.cell?,h]
set_option maxHeartbeats 4000000 in
set_option maxRecDepth 100000 in
/-- there is room, ahead of the end -/
theorem ins_shift (b n c i vb m vc:Nat) (cs vs:List Value) (cur vcur:Array Value) (w:World) (hi:i<n) (hm:0<m) (hroom:n+m≤c) (hc63:c≤9223372036854775807) (hvb:vb≠b)
    (hb:w.heap[b]?=some (.cells cur 79 (0,0))) (hcur:cur.size=c*1) (hcs:cs.length=n*1) (hpre:cur.toList.take (n*1)=cs)
    (hv:w.heap[vb]?=some (.cells vcur 79 (0,0))) (hvl:vs.length=m*1) (hvs:vcur.toList.take (m*1)=vs) (h1c:∀v∈cs,v.oneCell'=true) (h1v:∀v∈vs,v.oneCell'=true) :
    Calls Tryz.prog 35 #[.slice (some ⟨b,0,none⟩) n c,.int .i64 i,.slice (some ⟨vb,0,none⟩) m vc] w fun e w' =>
      e = .returned (.slice (some ⟨b,0,none⟩) (n+m) c)∧∃cur',w'=w.drew.setRow b cur'∧cur'.size=c*1∧cur'.toList.take ((n+m)*1)=cs.take (i*1)++(vs++cs.drop (i*1)):=by
  have hz1:¬((m:Int)=0):=by omega
  have hz2:¬((i:Int)=(n:Int)):=by omega
  have hcl:cur.toList.length=c*1:=by rw[Array.length_toList,hcur]
  have hvcl:m*1≤vcur.toList.length:=by rw[←hvl,←hvs,List.length_take];omega
  have hov:∀lb cb,(callFunc 51 #[.slice (some ⟨vb,0,none⟩) m vc,.slice (some ⟨b,(i+m)*1,none⟩) lb cb]).run Tryz.prog w = .ok (.value (.bool false)) w:=fun lb cb=>by
    rw[run_callFunc_extern Tryz.func51 (by kernel_rfl) (by kernel_rfl) (by kernel_rfl) (e:=Extern.SlicesOverlaps.overlaps #[59,59] #[4]) (by kernel_rfl),
      Lib.run_overlaps_apart w 59 4 79 Tryz.underlying59 1 Tryz.sizeOf79 ⟨vb,0,none⟩ ⟨b,(i+m)*1,none⟩ m vc lb cb hvb 79 79 vcur.size cur.size (by simp[World.shape?,hv]) (by simp[World.shape?,hb]) (by rw[hcur];omega) (by simp[World.frozen?,hv]) (by simp[World.frozen?,hv])]
    rfl
  have hdl:(cs.drop (i*1)).length=(n-i)*1:=by rw[List.length_drop,hcs];omega
  have hcp1:∀ty dc sc,(Builtin.copy_ #[59,59] ty #[.slice (some ⟨b,(i+m)*1,none⟩) (n+m-(i+m)) dc,.slice (some ⟨b,i*1,none⟩) (n+m-i) sc]).run Tryz.prog w.drew =
      .ok (goInt (Nat.min (n+m-i) (n+m-(i+m)))) (w.drew.setRow b (cur.toList.take ((i+m)*1)++cs.drop (i*1)++cur.toList.drop ((i+m)*1+(cs.drop (i*1)).length)).toArray):=fun ty dc sc =>
    qc1 Tryz.prog w.drew 59 59 ty 79 b ((i+m)*1) (n+m-(i+m)) dc ⟨b,i*1,none⟩ (n+m-i) sc 1 cur 79 (cs.drop (i*1)) Tryz.underlying59 qot hb
      (by rw[hdl];simp only[Nat.min_def];split<;>omega)
      (fun j v hj=>by
        have hb':w.drew.heap[b]?=some (.cells cur 79 (0,0)):=hb;rw[List.getElem?_drop,←hpre,List.getElem?_take] at hj;split at hj
        · rw[Addr.add_lit,qik hb'];exact hj
        · cases hj)
      (by rw[hdl,hcur];omega) (fun v hv=>h1c v (List.mem_of_mem_drop hv))
  obtain⟨cur1,hcur1⟩:∃cur1,cur1=(cur.toList.take ((i+m)*1)++cs.drop (i*1)++cur.toList.drop ((i+m)*1+(cs.drop (i*1)).length)).toArray:=⟨_,rfl⟩;have hs1:cur1.size=c*1:=by
    rw[hcur1];simp only[List.size_toArray,List.length_append,List.length_take,List.length_drop,hcl,hcs];omega
  rw[←hcur1] at hcp1;have hb1:(w.drew.setRow b cur1).heap[b]?=some (.cells cur1 79 (0,0)):=setRow_heap w.drew b cur cur1 79 (0,0) hb
  have hv1:(w.drew.setRow b cur1).heap[vb]?=some (.cells vcur 79 (0,0)):=by rw[setRow_other w.drew b vb cur1 hvb];exact hv
  have hcp2:∀ty dc,(Builtin.copy_ #[59,59] ty #[.slice (some ⟨b,i*1,none⟩) (n+m-i) dc,.slice (some ⟨vb,0,none⟩) m vc]).run Tryz.prog (w.drew.setRow b cur1) =
      .ok (goInt (Nat.min m (n+m-i))) (w.drew.setRow b (cur1.toList.take (i*1)++vs++cur1.toList.drop (i*1+vs.length)).toArray):=fun ty dc=>by
    have:=qc1 Tryz.prog (w.drew.setRow b cur1) 59 59 ty 79 b (i*1) (n+m-i) dc ⟨vb,0,none⟩ m vc 1 cur1 79 vs Tryz.underlying59 qot hb1
      (by rw[hvl];simp only[Nat.min_def];split<;>omega)
      (fun j v hj=>by
        rw[←hvs,List.getElem?_take] at hj;split at hj
        · rw[Addr.add_lit,qik hv1,Nat.zero_add];exact hj
        · cases hj)
      (by rw[hvl,hs1];omega) h1v
    rw[this,setRow_setRow]
  have hfin:∃cur',w.drew.setRow b (cur1.toList.take (i*1)++vs++cur1.toList.drop (i*1+vs.length)).toArray=w.drew.setRow b cur'∧cur'.size=c*1∧cur'.toList.take ((n+m)*1)=cs.take (i*1)++(vs++cs.drop (i*1)):=by
    refine⟨_,rfl,?_,?_⟩
    · simp only[List.size_toArray,List.length_append,List.length_take,List.length_drop,Array.length_toList,hs1,hvl];omega
    · rcases ins_list cur.toList cs vs (i*1) (m*1) (n*1) (by omega) hcs hvl hpre with h | h
      · rw[Nat.add_mul,←h,hcur1,Nat.add_mul]
      · rw[hcl] at h;omega
  have mixed:=mixed
  have hw1:IntKind.i64.wrap ((i:Int)+(m:Int))=(i:Int)+(m:Int):=by rw[IntKind.wrap_i64];omega
  have hq1:(0:Int)≤(i:Int)+(m:Int):=by omega
  have hin:i≤n:=by omega
  have htn:((i:Int)+(m:Int)).toNat=i+m:=by omega
  have hq2:¬(c=i+m):=by omega
  have hq3:(i:Int)≤(n:Int)+(m:Int):=by omega
  have hq4:¬(c=i):=by omega
  clear hcur1 hcl hvcl hs1 hb1 hv1 hdl hcs hpre hvl hvs h1c h1v hcur hb hv
  try simp only[Nat.mul_one] at hov
  try simp only[Nat.mul_one] at hcp1
  try simp only[Nat.mul_one] at hcp2
  try simp only[Nat.mul_one] at hfin
  go_enter Tryz.func35,Tryz.ntmps35
  go_wp2_with (simp only[hov])
  go_region_law_o (refine step_copy_runI rfl _ _ 59 59 rfl _ _ (by simp[Act.eval,Act.put]) (by simp[Act.eval,Act.put]) (hcp1 _ _ _) ?_)
  go_wp2_with (at_builtin;refine wpList_copy_runI _ rfl _ _ 59 59 rfl _ _ rfl rfl (hcp2 _ _) ?_)
  go_ret
  rw[List.append_assoc] at hfin
  first | exact⟨rfl,hfin⟩ | (simp only[Nat.mul_one];exact⟨rfl,hfin⟩)
set_option maxHeartbeats 4000000 in
set_option maxRecDepth 100000 in
/-- at the end -/
theorem ins_end (base:Option Addr) (n c vb m vc:Nat) (w w':World) (r:Value) (hm:0<m) (hnc:n≤c) (hc63:c≤9223372036854775807) (hnil:base=none→n=0)
    (hrun:∀ty,(Builtin.append_ #[59,59] ty #[.slice base n c,.slice (some ⟨vb,0,none⟩) m vc]).run Tryz.prog w = .ok r w') :
    Calls Tryz.prog 35 #[.slice base n c,.int .i64 n,.slice (some ⟨vb,0,none⟩) m vc] w fun e w2=>e = .returned r∧w2=w':=by
  have hz1:¬((m:Int)=0):=by omega
  have mixed:=mixed
  go_enter Tryz.func35,Tryz.ntmps35
  cases base with
  | none =>
    have h0:=hnil rfl;subst h0
    go_wp2_with (at_builtin;refine Lib.wpList_append_run _ rfl _ _ _ _ rfl _ _ rfl rfl _ _ (hrun _) ?_)
    go_ret
    exact⟨rfl,rfl⟩
  | some a =>
    obtain⟨ab,ao,asp⟩:=a
    go_wp2_with (at_builtin;refine Lib.wpList_append_run _ rfl _ _ _ _ rfl _ _ rfl rfl _ _ (hrun _) ?_)
    all_goals (go_ret;exact⟨rfl,rfl⟩)
set_option maxHeartbeats 4000000 in
set_option maxRecDepth 100000 in
/-- no room, ahead of the end -/
theorem ins_grow (b n c i vb m vc:Nat) (cs vs:List Value) (cur vcur:Array Value) (w:World) (hi:i<n) (hm:0<m) (hnc:n≤c) (hroom:c<n+m) (hc63:c≤9223372036854775807) (hbig:(n+m)*8≤140737488355328)
    (hb:w.heap[b]?=some (.cells cur 79 (0,0))) (hcur:cur.size=c*1) (hcs:cs.length=n*1) (hpre:cur.toList.take (n*1)=cs)
    (hv:w.heap[vb]?=some (.cells vcur 79 (0,0))) (hvl:vs.length=m*1) (hvs:vcur.toList.take (m*1)=vs) (h1c:∀v∈cs,v.oneCell'=true) (h1v:∀v∈vs,v.oneCell'=true) :
    Calls Tryz.prog 35 #[.slice (some ⟨b,0,none⟩) n c,.int .i64 i,.slice (some ⟨vb,0,none⟩) m vc] w fun e w' =>
      ∃G cur',e = .returned (.slice (some ⟨w.heap.size,0,none⟩) (n+m) G)∧n+m≤G∧G≤maxLen∧Go.Eng.Chg [] w w'∧w'.heap[w.heap.size]?=some (.cells cur' 79 (0,0))∧cur'.size=G*1∧cur'.toList.take ((n+m)*1)=cs.take (i*1)++(vs++cs.drop (i*1)):=by
  obtain⟨i0,z0,hi0,hz0,hzs,hzb,hzc⟩:=insZero
  have hz1:¬((m:Int)=0):=by omega
  have hz2:¬((i:Int)=(n:Int)):=by omega
  have hz3:(c:Int)<(n:Int)+(m:Int):=by omega
  have hbw:b<w.heap.size:=(Array.getElem?_eq_some_iff.1 hb).1;have hvw:vb<w.heap.size:=(Array.getElem?_eq_some_iff.1 hv).1
  have hkk:(n:Int)+(m:Int)-(i:Int)=((n+m-i:Nat):Int):=by omega
  have hik:i+(n+m-i)=n+m:=by omega
  have htl:(cs.take (i*1)).length=i*1:=by rw[List.length_take,hcs];omega
  have hdl:(cs.drop (i*1)).length=(n-i)*1:=by rw[List.length_drop,hcs];omega
  have hold:(Builtin.firstCells i0.size i (.slice (some ⟨b,0,none⟩) i c)).run Tryz.prog w.drew = .ok (cs.take (i*1)).toArray w.drew:=by
    rw[hzs];refine run_firstCells_some w.drew 1 i ⟨b,0,none⟩ i c (cs.take (i*1)) htl (fun j v hj=>?_);have hb':w.drew.heap[b]?=some (.cells cur 79 (0,0)):=hb;rw[Addr.add_lit,qik hb',Nat.zero_add];rw[List.getElem?_take] at hj;split at hj
    · rw[←hpre,List.getElem?_take] at hj;split at hj
      · exact hj
      · cases hj
    · cases hj
  have hrz:∀ty,(Builtin.append_ #[59,3] ty #[.slice (some ⟨b,0,none⟩) i c,.int .i64 ((n:Int)+(m:Int)-(i:Int))]).run Tryz.prog w =
      .ok (.slice (some ⟨w.heap.size,0,none⟩) (n+m) (grownCap w (n+m) c 79)) (w.drew.alloc (.cells ((cs.take (i*1)).toArray++Builtin.zeroCells z0.cells (n+m-i)++Builtin.zeroCells z0.cells (grownCap w (n+m) c 79-(n+m))) 79)):=fun ty=>by
    have h:=Lib.run_append_grow_zeros (P:=Tryz.prog) w 59 3 ty 79 i0 z0 .i64 .i64 Tryz.underlying59 Tryz.underlying3 hi0 hz0 (some ⟨b,0,none⟩) i c (cs.take (i*1)) hold (n+m-i) (by omega) (by omega) (by omega) (by omega) (by rw[hzb];omega) (by rw[hzb,hik];exact growslice_fits hroom hbig);rw[hik] at h;rw[hkk];exact h
  have hGn:n+m≤grownCap w (n+m) c 79:=grownCap_ge w _ _ _;have hGm:grownCap w (n+m) c 79≤maxLen:=grownCap_le_maxLen w (n+m) c 79 (by unfold maxLen;omega);obtain⟨G,hG⟩:∃G,G=grownCap w (n+m) c 79:=⟨_,rfl⟩;rw[←hG] at hrz hGn hGm
  have hG63:G≤9223372036854775807:=by unfold maxLen at hGm;omega
  obtain⟨ROW,hROW⟩:∃ROW:Array Value,ROW=(cs.take (i*1)).toArray++Builtin.zeroCells z0.cells (n+m-i)++Builtin.zeroCells z0.cells (G-(n+m)):=⟨_,rfl⟩;rw[←hROW] at hrz;have hRs:ROW.size=G*1:=by
    rw[hROW];simp only[Array.size_append,List.size_toArray,size_zeroCells,hzc,htl,←Nat.add_mul];congr 1;omega
  have hRl:ROW.toList.length=G*1:=by rw[Array.length_toList,hRs]
  have hRt:ROW.toList.take (i*1)=cs.take (i*1):=by
    rw[hROW,Array.toList_append,Array.toList_append,List.append_assoc];simp only[List.toList_toArray];rw[List.take_append_of_le_length (by omega),List.take_of_length_le (by omega)]
  obtain⟨R1,hR1⟩:∃R1,R1=(ROW.toList.take (i*1)++vs++ROW.toList.drop (i*1+vs.length)).toArray:=⟨_,rfl⟩;have hs1:R1.size=G*1:=by
    rw[hR1];simp only[List.size_toArray,List.length_append,List.length_take,List.length_drop,hRl,hvl];omega
  obtain⟨R2,hR2⟩:∃R2,R2=(R1.toList.take ((i+m)*1)++cs.drop (i*1)++R1.toList.drop ((i+m)*1+(cs.drop (i*1)).length)).toArray:=⟨_,rfl⟩;have hs2:R2.size=G*1:=by
    rw[hR2];simp only[List.size_toArray,List.length_append,List.length_take,List.length_drop,Array.length_toList,hs1,hcs];omega
  have hfin:R2.toList.take ((n+m)*1)=cs.take (i*1)++(vs++cs.drop (i*1)):=by
    have e1:R1.toList.take ((i+m)*1)=cs.take (i*1)++vs:=by
      rw[hR1];simp only[List.toList_toArray]
      have:(ROW.toList.take (i*1)++vs).length=(i+m)*1:=by rw[hRt,List.length_append,htl,hvl,Nat.add_mul]
      rw[←this,List.take_left,hRt]
    rw[hR2];simp only[List.toList_toArray];rw[e1,List.append_assoc]
    have:(cs.take (i*1)++vs++cs.drop (i*1)).length=(n+m)*1:=by rw[List.length_append,List.length_append,htl,hvl,hdl];omega
    rw[←List.append_assoc,←this,List.take_left,List.append_assoc]
  have hcpA:∀(W:World),W.heap[w.heap.size]?=some (.cells ROW 79 (0,0))→W.heap[vb]?=some (.cells vcur 79 (0,0))→∀ty dc,(Builtin.copy_ #[59,59] ty #[.slice (some ⟨w.heap.size,i*1,none⟩) (n+m-i) dc,.slice (some ⟨vb,0,none⟩) m vc]).run Tryz.prog W =
      .ok (goInt (Nat.min m (n+m-i))) (W.setRow w.heap.size R1):=fun W h1 h2 ty dc=>by
    rw[hR1];exact qc1 Tryz.prog W 59 59 ty 79 w.heap.size (i*1) (n+m-i) dc ⟨vb,0,none⟩ m vc 1 ROW 79 vs Tryz.underlying59 qot h1
      (by rw[hvl];simp only[Nat.min_def];split<;>omega)
      (fun j v hj=>by
        rw[←hvs,List.getElem?_take] at hj;split at hj
        · rw[Addr.add_lit,qik h2,Nat.zero_add];exact hj
        · cases hj)
      (by rw[hvl,hRs];omega) h1v
  have hcpB:∀(W:World),W.heap[w.heap.size]?=some (.cells R1 79 (0,0))→W.heap[b]?=some (.cells cur 79 (0,0))→∀ty dc sc,(Builtin.copy_ #[59,59] ty #[.slice (some ⟨w.heap.size,(i+m)*1,none⟩) (n+m-(i+m)) dc,.slice (some ⟨b,i*1,none⟩) (n-i) sc]).run Tryz.prog W =
      .ok (goInt (Nat.min (n-i) (n+m-(i+m)))) (W.setRow w.heap.size R2):=fun W h1 h2 ty dc sc=>by
    rw[hR2];exact qc1 Tryz.prog W 59 59 ty 79 w.heap.size ((i+m)*1) (n+m-(i+m)) dc ⟨b,i*1,none⟩ (n-i) sc 1 R1 79 (cs.drop (i*1)) Tryz.underlying59 qot h1
      (by rw[hdl];simp only[Nat.min_def];split<;>omega)
      (fun j v hj=>by
        rw[List.getElem?_drop,←hpre,List.getElem?_take] at hj;split at hj
        · rw[Addr.add_lit,qik h2];exact hj
        · cases hj)
      (by rw[hdl,hs1];omega) (fun v hv=>h1c v (List.mem_of_mem_drop hv))
  have hA1:(w.drew.alloc (.cells ROW 79)).heap[w.heap.size]?=some (.cells ROW 79 (0,0)):=heap_alloc_new w.drew _;have hA2:∀k x,w.heap[k]?=some x→(w.drew.alloc (.cells ROW 79)).heap[k]?=some x:=fun k x h=>by
    have:=qby w.drew (.cells ROW 79);rw[this.block k (Array.getElem?_eq_some_iff.1 h).1 (by simp)];exact h
  have hA3:=hA2 vb _ hv;have hA4:=hA2 b _ hb;obtain⟨W1,hW1⟩:∃W1,W1=((w.alloc (.cells ROW 79)).drew):=⟨_,rfl⟩;have hE:w.drew.alloc (.cells ROW 79)=(w.alloc (.cells ROW 79)).drew:=rfl;have hB1:((w.alloc (.cells ROW 79)).drew).heap[w.heap.size]?=some (.cells ROW 79 (0,0)):=hA1;have hB3:((w.alloc (.cells ROW 79)).drew).heap[vb]?=some (.cells vcur 79 (0,0)):=hA3;have hC1:((((w.alloc (.cells ROW 79)).drew).setRow w.heap.size R1).drew).heap[w.heap.size]?=some (.cells R1 79 (0,0)):=setRow_heap ((w.alloc (.cells ROW 79)).drew) w.heap.size ROW R1 79 (0,0) hB1;have hC2:((((w.alloc (.cells ROW 79)).drew).setRow w.heap.size R1).drew).heap[b]?=some (.cells cur 79 (0,0)):=(setRow_other ((w.alloc (.cells ROW 79)).drew) w.heap.size b R1 (by omega)).trans hA4
  have hD:∃G' cur',Value.slice (some ⟨w.heap.size,0,none⟩) (n+m) G = .slice (some ⟨w.heap.size,0,none⟩) (n+m) G'∧n+m≤G'∧G'≤maxLen∧Go.Eng.Chg [] w (((((w.alloc (.cells ROW 79)).drew).setRow w.heap.size R1).drew).setRow w.heap.size R2) ∧
      (((((w.alloc (.cells ROW 79)).drew).setRow w.heap.size R1).drew).setRow w.heap.size R2).heap[w.heap.size]?=some (.cells cur' 79 (0,0))∧cur'.size=G'*1∧cur'.toList.take ((n+m)*1)=cs.take (i*1)++(vs++cs.drop (i*1)):=by
    refine⟨G,R2,rfl,hGn,hGm,?_,setRow_heap _ w.heap.size R1 R2 79 (0,0) hC1,hs2,hfin⟩;have hch:=qby w.drew (.cells ROW 79);refine⟨rfl,rfl,rfl,?_,fun k hk _=>?_,fun _=>?_⟩
    · simp[World.setRow]
    · rw[setRow_other _ w.heap.size k R2 (by omega)];exact(setRow_other ((w.alloc (.cells ROW 79)).drew) w.heap.size k R1 (by omega)).trans (hch.block k hk (by simp))
    · show w.drawn≤w.drawn+1+1;omega
  have mixed:=mixed
  have hGi:¬(G=i):=by omega
  have hGim:¬(G=i+m):=by omega
  have hci:¬(c=i):=by omega
  have hw1:IntKind.i64.wrap ((i:Int)+(m:Int))=(i:Int)+(m:Int):=by rw[IntKind.wrap_i64];omega
  have hq1:(0:Int)≤(i:Int)+(m:Int):=by omega
  have hin:i≤n:=by omega
  have htn:((i:Int)+(m:Int)).toNat=i+m:=by omega
  have hq3:(i:Int)≤(n:Int):=by omega
  clear hkk hik hold hROW hG hRl hR1 hR2 hRs hRt hdl htl hcs hpre hvl hvs h1c h1v hcur hb hv hA2 hz0 hi0 hzs hzb hzc hs1;have hcpA1:=hcpA _ hB1 hB3;have hcpB1:=hcpB _ hC1 hC2;clear hcpA hcpB hA1 hA3 hA4 hB1 hB3 hC1 hC2 hE hW1
  try simp only[Nat.mul_one] at hrz
  try simp only[Nat.mul_one] at hcpA1
  try simp only[Nat.mul_one] at hcpB1
  try simp only[Nat.mul_one] at hD
  go_enter Tryz.func35,Tryz.ntmps35
  go_wp2_with (at_builtin;refine Lib.wpList_append_run _ rfl _ _ _ _ rfl _ _ rfl rfl _ _ (hrz _) ?_)
  go_region_law_o (refine step_copy_runI rfl _ _ 59 59 rfl (.slice (some ⟨w.heap.size,(i+m),none⟩) (n+m-(i+m)) (G-(i+m))) (.slice (some ⟨b,i,none⟩) (n-i) (c-i)) (by simp[Act.eval,Act.put]) (by simp[Act.eval,Act.put]) (hcpB1 3 (G-(i+m)) (c-i)) ?_)
  go_wp2
  go_ret
  obtain⟨G',cur',e1,hr⟩:=hD
  first | exact⟨G',cur',congrArg Ending.returned e1,hr⟩ | (simp only[Nat.mul_one];exact⟨G',cur',congrArg Ending.returned e1,hr⟩)
def insBr_ins:Ins:=⟨79,.ref,8⟩
theorem insBr_ok:InsOK Tryz.prog 35 insBr_ins:=by
  refine⟨fun w S v vv M Mv xs ys us vs j hown hrep hown2 hrep2 hdis hM hys hj hroom=>?_⟩;have hul:us.length=xs.length*1:=hrep.length (Rep.slen insBr_ins.e);have hvl:vs.length=ys.length*1:=hrep2.length (Rep.slen insBr_ins.e);have h1u:∀u∈us,u.oneCell'=true:=RepL.all (fun x c hx=>Rep.one insBr_ins.e hx) hrep;have h1v:∀u∈vs,u.oneCell'=true:=RepL.all (fun x c hx=>Rep.one insBr_ins.e hx) hrep2;have hsz:insBr_ins.e.size=1:=rfl;have hroom':(xs.length+ys.length)*8≤140737488355328:=hroom;rcases hown2 with ⟨_,_,h0,_⟩ | ⟨vb,vc,vcur,rfl,rfl,hvr,hv1,hv2,hv3,hv4⟩
  · omega
  have hvh:=hvr.plain (show memN 79 Ctx.bytes=false from rfl);have hcellv:CellsAt w ⟨vb,0,none⟩ vs:=by
    have:=CellsAt.take (hvr.blk 0) (ys.length*1);rw[List.drop_zero] at this;rw[hsz] at hv4;rw[hv4] at this;exact this
  have hne:ys≠[]→∃ad,(some (⟨vb,0,none⟩:Addr))=some ad∧CellsAt w ad vs:=fun _=>⟨_,rfl,hcellv⟩;obtain⟨i0,z0,hi0,hz0,hzs,hzb,hzc⟩:=insZero;have happ:∃v' w' M',(∀ty,(Builtin.append_ #[59,59] ty #[v,.slice (some ⟨vb,0,none⟩) ys.length vc]).run Tryz.prog w = .ok v' w')∧OwnR w' 79 1 v' M' (xs.length+ys.length) (us++vs)∧Chg M w w'∧(M'=M∨M'=[w.heap.size]∧w.heap.size<w'.heap.size):=by
    have key:=fun ty=>qgD (P:=Tryz.prog) (S:=S) (t:=59) (ty:=ty) (τ:=insBr_ins.e) (ys:=ys) Tryz.underlying59 hi0 hz0 hzs hzc hown hul hrep2 (cap:=vc) hne (by rw[hzb];exact hroom') (by omega);obtain⟨v',w',M',h1,h2⟩:=key 0;refine⟨v',w',M',fun ty=>?_,h2⟩;obtain⟨v2,w2,M2,h3,_⟩:=key ty;have:(Builtin.append_ #[59,59] ty #[v,.slice (some ⟨vb,0,none⟩) ys.length vc])=(Builtin.append_ #[59,59] 0 #[v,.slice (some ⟨vb,0,none⟩) ys.length vc]):=rfl;rw[this];exact h1
  by_cases hjn:j=xs.length
  · subst hjn;obtain⟨v',w',M',hrun,hown',hch,hM'⟩:=happ;have hlist:us.take (xs.length*insBr_ins.e.size)++(vs++us.drop (xs.length*insBr_ins.e.size))=us++vs:=by
      rw[hsz,List.take_of_length_le (by omega),List.drop_of_length_le (by omega),List.append_nil]
    rcases hown with ⟨hM0,⟨ao,rfl⟩,hn0,hu0⟩ | ⟨b,cap,cur,hM0,rfl,hh,h4,h5,h6,h7⟩
    · obtain rfl:xs=[]:=List.length_eq_zero_iff.1 hn0;refine(ins_end ao 0 0 vb ys.length vc w w' v' hys (by omega) (by omega) (fun _=>rfl) hrun).mono ?_
      rintro e w2 ⟨rfl,rfl⟩
      exact⟨v',M',rfl,hch,hM',by rw[hlist];exact hown'⟩
    · refine(ins_end (some ⟨b,0,none⟩) xs.length cap vb ys.length vc w w' v' hys h4 (by unfold maxLen at h5;omega) (fun h=>by cases h) hrun).mono ?_
      rintro e w2 ⟨rfl,rfl⟩
      exact⟨v',M',rfl,hch,hM',by rw[hlist];exact hown'⟩
  · have hjl:j<xs.length:=by omega
    rcases hown with ⟨_,_,hn0,_⟩ | ⟨b,cap,cur,hM0,rfl,hh,h4,h5,h6,h7⟩
    · omega
    have hbh:=hh.plain (show memN 79 Ctx.bytes=false from rfl);have hvb:vb≠b:=fun e=>hdis b (by simp[hM0]) (by simp[e])
    have hc63:cap≤9223372036854775807:=by unfold maxLen at h5;omega
    by_cases hfit:xs.length+ys.length≤cap
    · refine(ins_shift b xs.length cap j vb ys.length vc us vs cur vcur w hjl hys hfit hc63 hvb hbh h6 hul h7 hvh hvl hv4 h1u h1v).mono ?_
      rintro e w2 ⟨rfl,cur',rfl,hs,ht⟩
      refine⟨_,M,rfl,?_,.inl rfl,.inr ⟨b,cap,cur',hM0,rfl,?_,hfit,h5,hs,ht⟩⟩
      · rw[hM0];have h1:Go.Eng.Chg [b] w w.drew:=(Chg.drewN w 1).mono (by simp);have h2:Go.Eng.Chg [b] w.drew (w.drew.setRow b cur'):=qdh;exact⟨h2.os.trans h1.os,h2.tape.trans h1.tape,h2.output.trans h1.output,Nat.le_trans h1.size h2.size,fun k hk hn=>(h2.block k (Nat.lt_of_lt_of_le hk h1.size) hn).trans (h1.block k hk hn),fun e=>Nat.le_trans (h1.drawn e) (h2.drawn e)⟩
      · exact Row.of (setRow_heap w.drew b cur cur' 79 (0,0) hbh)
    · refine(ins_grow b xs.length cap j vb ys.length vc us vs cur vcur w hjl hys h4 (by omega) hc63 hroom' hbh h6 hul h7 hvh hvl hv4 h1u h1v).mono ?_
      rintro e w2 ⟨G,cur',rfl,hG1,hG2,hch,hheap,hs,ht⟩
      exact⟨_,[w.heap.size],rfl,hch.mono (by simp),.inr ⟨rfl,(Array.getElem?_eq_some_iff.1 hheap).1⟩,.inr ⟨w.heap.size,G,cur',rfl,rfl,Row.of hheap,hG1,hG2,hs,ht⟩⟩
end Go.Proofs.YthidcmjpbokeeaaGreat
namespace Go.Proofs.YthidcmjpbokeeaaGreat
open Go Go.Proofs Go.RowKit Go.Shelf Go.Lib Go.Sort Go.Den Go.Eng
set_option linter.unusedVariables false
set_option linter.unusedSimpArgs false
abbrev encV:Value→Value:=fun v=>v
theorem delZero:∃i,Tryz.prog.info? 79=some i∧i.size=1:=by
  have h:(Tryz.prog.info? 79).map (fun i=>i.size)=some 1:=by kernel_rfl
  obtain⟨i,h1,h2⟩:=Option.map_eq_some_iff.1 h;exact⟨i,h1,h2⟩
set_option maxHeartbeats 4000000 in
set_option maxRecDepth 1000000 in
theorem qp0 (ao:Option Addr) (n c i:Nat) (w:World) (hi:i≤n) (hn:n≤c) (hm:c≤9223372036854775807) (hz:ao=none→c=0) :
    Calls Tryz.prog 34 #[.slice ao n c,.int .i64 i,.int .i64 i] w fun e w'=>e = .returned (.slice ao n c)∧w'=w:=by
  have mixed:=mixed
  cases ao with
  | none =>
    have hc:=hz rfl;subst hc
    obtain rfl:n=0:=by omega
    obtain rfl:i=0:=by omega
    go_enter Tryz.func34,Tryz.ntmps34
    go_wp2
    all_goals (go_ret;exact⟨rfl,rfl⟩)
  | some a =>
    go_enter Tryz.func34,Tryz.ntmps34
    go_wp2
    all_goals (go_ret;exact⟨rfl,rfl⟩)
set_option maxHeartbeats 4000000 in
set_option maxRecDepth 1000000 in
theorem del_arr (blk cap i j:Nat) (d:Array Value) (w:World) (hH:Holds encV w blk 0 d) (h1:∀v∈d.toList,v.oneCell'=true) (hcap:d.size≤cap) (hm:cap≤9223372036854775807) (hlt:i<j) (hj:j≤d.size) :
    Calls Tryz.prog 34 #[.slice (some ⟨blk,0,none⟩) d.size cap,.int .i64 i,.int .i64 j] w fun e w'=>e = .returned (.slice (some ⟨blk,0,none⟩) (d.size-(j-i)) cap)∧∃q,w'=putRow encV (Sort.ahead w q) blk 0 (d.toList.take i++d.toList.drop j++List.replicate (j-i) (Value.pointer none)).toArray:=by
  have mixed:=mixed;obtain⟨i0,hi0,hz1⟩:=delZero;have t22:=Tryz.underlying59;have v3:=Tryz.zeroValue79
  have hij:i≤j:=by omega
  obtain⟨off,hoff⟩:∃off,off=0:=⟨_,rfl⟩;rw[←hoff] at hH ⊢
  have heq:¬((i:Int)=(j:Int)):=by omega
  obtain⟨news,hnews⟩:∃news,news=(d.toList.drop j).map encV:=⟨_,rfl⟩
  have hlen:news.length=d.size-j:=by rw[hnews];simp
  have hget:∀t,t<d.size-j→news[t]?=some (encV d[j+t]!):=by
    intro t ht;rw[hnews,List.getElem?_map,List.getElem?_drop,Array.getElem?_toList,getElem!_pos d (j+t) (by omega),Array.getElem?_eq_getElem (by omega)];rfl
  obtain⟨A,hA,hsrc⟩:∃A:Addr,(if cap=j then some (⟨blk,off,none⟩:Addr) else some ⟨blk,off+j,none⟩)=some A∧Hid (∀t u,news[t]?=some u→w.drew.cell? (A.add t)=some u):=by
    by_cases h:cap=j
    · refine⟨⟨blk,off,none⟩,by simp[h],fun t u hu=>?_⟩
      have h0:news.length=0:=by rw[hlen];omega
      rw[List.length_eq_zero_iff.1 h0] at hu;simp at hu
    · refine⟨⟨blk,off+j,none⟩,by simp[h],fun t u hu=>?_⟩;have ht:t<d.size-j:=by
        have:=(List.getElem?_eq_some_iff.1 hu).1
        rwa [hlen] at this
      rw[hget t ht] at hu;rw[Addr.add_lit,show off+j+t=off+(j+t) by omega];exact(hH (j+t) (by omega)).1.trans hu
  have s1:Hid (news.length=(d.size-j)*1):=by rw[Nat.mul_one];exact hlen
  have s2:Hid (∀u∈news,u.oneCell'=true):=by
    intro u hu;rw[hnews] at hu;obtain⟨x,hx,rfl⟩:=List.mem_map.1 hu;exact h1 x (List.mem_of_mem_drop hx)
  have s3:Hid (∀t,t<news.length→(w.drew.cell? ⟨blk,off+i*1+t,none⟩).isSome=true∧w.drew.frozen? ⟨blk,off+i*1+t,none⟩=false):=by
    intro t ht;rw[hlen] at ht;rw[Nat.mul_one,Nat.add_assoc];exact⟨by show(w.cell? _).isSome=true;rw[(hH (i+t) (by omega)).1];rfl,(hH (i+t) (by omega)).2⟩
  obtain⟨W1,hW1⟩:∃W1,W1=w.drew.setCells blk (off+i*1) news:=⟨_,rfl⟩;have hW1':W1=putRow encV (Sort.ahead w 1) blk off (lay d i (d.toList.drop j)):=by
    rw[hW1,hnews,Nat.mul_one,←putRow_setCells encV (Sort.ahead w 1) blk off _ d i (by simp;omega),putRow_self encV (Sort.ahead w 1) blk off d (holds_ahead encV w 1 blk off d hH)];rfl
  have hH1:Holds encV W1 blk off (lay d i (d.toList.drop j)):=by rw[hW1'];exact holds_putRow encV _ blk off d _ (holds_ahead encV w 1 blk off d hH) (lay_size _ _ _)
  have hcl:∀ty,(Builtin.clear_ #[59] ty #[.slice (some ⟨blk,off+(i+(d.size-j)),none⟩) (d.size-(i+(d.size-j))) (cap-(i+(d.size-j)))]).run Tryz.prog W1 = .ok (.tuple #[]) (W1.setCells blk (off+(i+(d.size-j))) (List.replicate (d.size-(i+(d.size-j))) (encV (Value.pointer none)))) :=
    fun ty=>Lib.run_clear_slice W1 _ _ ty _ t22 v3 rfl rfl blk (off+(i+(d.size-j))) _ _ (by omega) (fun t ht=>by rw[show off+(i+(d.size-j))+t=off+(i+(d.size-j)+t) by omega,(hH1 _ (by rw[lay_size];omega)).1];rfl) (fun t ht=>by rw[show off+(i+(d.size-j))+t=off+(i+(d.size-j)+t) by omega];exact(hH1 _ (by rw[lay_size];omega)).2)
  have X:Aside (W1=putRow encV (Sort.ahead w 1) blk off (lay d i (d.toList.drop j))):=hW1';have hW:Hid (W1=w.drew.setCells blk (off+i*1) news):=hW1
  have hic:i≤cap:=by omega
  have hjc:j≤cap:=by omega
  clear hW1 hW1' hH1 hH hget hnews hlen h1 hoff
  go_enter Tryz.func34,Tryz.ntmps34
  go_wp2_with fail
  go_region_law_o (refine step_append_room rfl (.tmp 22) (.tmp 25) 59 rfl 79 i0 1 t22 hi0 hz1 blk off i cap (by simp[Act.eval,Act.put]) A (d.size-j) (cap-j) news (by simp[Act.eval,Act.put]) s1.out hsrc.out s2.out (by omega) s3.out ?_;rw[←hW.out])
  go_wp2
  go_ret
  refine⟨by rw[show d.size-(j-i)=i+(d.size-j) by omega];rfl,1,?_⟩;rw[←delete_arr d i j (Value.pointer none) hij hj,←putRow_setCells encV _ blk off _ _ (i+(d.size-j)) (by rw[lay_size];simp;omega),←X.out,List.map_replicate,show d.size-(i+(d.size-j))=j-i by omega]
def delBr_del:Del:=⟨79,.ref⟩
theorem qrI:DelOK Tryz.prog 34 delBr_del:=by
  refine⟨fun w S v M xs us i j hown hrep hij hj=>?_⟩;have hsz:delBr_del.e.size=1:=rfl;have h1u:∀u∈us,u.oneCell'=true:=RepL.all (fun x c hx=>Rep.one delBr_del.e hx) hrep;rw[hsz] at hown;simp only[hsz,Nat.mul_one];by_cases heq:i=j
  · subst heq;have hl:us.take i++us.drop i=us:=List.take_append_drop i us
    have h2:xs.length-(i-i)=xs.length:=by omega
    rw[hl,h2];rcases hown with ⟨hM0,⟨ao,rfl⟩,hn0,hu0⟩ | ⟨b,cap,cur,hM0,rfl,hh,h4,h5,h6,h7⟩
    · rw[show(Value.slice ao 0 0) = .slice ao xs.length 0 by rw[hn0]];refine(qp0 ao xs.length 0 i w hj (by omega) (by omega) (fun _=>rfl)).mono ?_
      rintro e w' ⟨rfl,rfl⟩
      exact⟨_,rfl,Chg.refl _ _,.inl ⟨hM0,⟨ao,by rw[hn0]⟩,hn0,hu0⟩⟩
    · refine(qp0 (some ⟨b,0,none⟩) xs.length cap i w hj h4 (by unfold maxLen at h5;omega) (fun h=>by cases h)).mono ?_
      rintro e w' ⟨rfl,rfl⟩
      exact⟨_,rfl,Chg.refl _ _,.inr ⟨b,cap,cur,hM0,rfl,hh,h4,h5,h6,h7⟩⟩
  · have hlt:i<j:=by omega
    rcases hown with ⟨_,_,hn0,_⟩ | ⟨b,cap,cur,rfl,rfl,hrow,hcap,hcap2,hcs,htake⟩
    · omega
    · have hul:us.length=xs.length:=by have:=hrep.length (Rep.slen delBr_del.e);rw[hsz,Nat.mul_one] at this;exact this
      rw[Nat.mul_one] at hcs htake;obtain⟨fz,hb,hfz⟩:=id hrow;have hblk:b<w.heap.size:=(Array.getElem?_eq_some_iff.1 hb).1;have hH:Holds encV w b 0 us.toArray:=by
        intro t ht
        have ht':t<xs.length:=by rw[←hul];simpa using ht
        refine⟨?_,by rw[Nat.zero_add];exact hrow.fro (by omega)⟩;simp only[World.cell?,hb,Nat.zero_add];have:cur[t]?=us[t]?:=by
          rw[←htake,List.getElem?_take,if_pos ht',Array.getElem?_toList]
        have h9:t<us.length:=by omega
        simp[this,h9]
      have hus:us.toArray.size=xs.length:=by simpa using hul
      have:=del_arr b cap i j us.toArray w hH (by simpa using h1u) (by omega) (by unfold maxLen at hcap2;omega) hlt (by omega);rw[hus] at this;refine this.mono ?_
      rintro e w' ⟨rfl,q,rfl⟩
      have hl:(us.take i++us.drop j++List.replicate (j-i) (Value.pointer none)).length=xs.length:=by simp;omega
      have hpre:(us.take i++us.drop j++List.replicate (j-i) (Value.pointer none)).take (xs.length-(j-i))=us.take i++us.drop j:=by
        have:(us.take i++us.drop j).length=xs.length-(j-i):=by simp;omega
        rw[←this,List.take_left]
      have e0:us.toArray.toList=us:=by simp
      rw[e0];generalize us.take i++us.drop j++List.replicate (j-i) (Value.pointer none)=ys at hl hpre ⊢;have hheap:∀t,t<w.heap.size→(putRow encV (Sort.ahead w q) b 0 ys.toArray).heap[t]?=if b=t then some (.cells (putCells encV 0 ys.toArray cur) 79 fz) else w.heap[t]?:=fun t ht=>by
        simp only[putRow,mapBlock,Sort.ahead];rw[Array.getElem?_modify];by_cases e:b=t
        · subst e;simp[hb,onCells,delBr_del]
        · simp[e]
      refine⟨_,rfl,⟨rfl,rfl,rfl,?_,fun t ht hn=>?_,?_⟩,.inr ⟨b,cap,putCells encV 0 ys.toArray cur,rfl,rfl,?_,by omega,hcap2,?_,?_⟩⟩
      · simp[putRow,mapBlock,Sort.ahead]
      · rw[hheap t ht,if_neg (fun e=>hn (by simp[e]))]
      · simp[putRow,mapBlock,Sort.ahead]
      · exact⟨fz,by rw[hheap b hblk,if_pos rfl];rfl,by simpa[putCells] using hfz⟩
      · simp[putCells,hcs]
      · rw[Nat.mul_one,←hpre];apply List.ext_getElem?;intro t;rw[List.getElem?_take,List.getElem?_take];by_cases ht:t<xs.length-(j-i)
        · rw[if_pos ht,if_pos ht,Array.getElem?_toList]
          have g1:t<cur.size:=by omega
          have g2:t<ys.length:=by omega
          simp[putCells,Array.getElem?_mapIdx,g1,g2]
        · rw[if_neg ht,if_neg ht]
end Go.Proofs.YthidcmjpbokeeaaGreat
namespace Go.Proofs.YthidcmjpbokeeaaGreat
open Go.Den
set_option linter.unusedVariables false
set_option maxRecDepth 100000
def qiv:Ann:=(.two .nil (.two (.two .nil (.joinE ⟨[0],[],[]⟩ (.two (.loop ⟨[0,6],[(7,Zt43)],[]⟩ .nil) .nil))) .nil))
noncomputable def rulesName_con:Con:=⟨[.str],true,[],.bool,fun x=>qf8 x.1,none⟩
noncomputable def qiZ:Env:=[]
theorem qnU (x:DL rulesName_con.ps):rulesName_con.φ x=denF Tryz.prog qiZ qiv Tryz.f54 rulesName_con.ps rulesName_con.one rulesName_con.res rulesName_con.ρ x:=by kernel_rfl
theorem qjT:ConOK Tryz.prog 54 rulesName_con :=
  qc (env:=qiZ) ((EnvOK.nil _)) mixed Tryz.func54 rulesName_con qiv (by kernel_rfl) (fun h=>by first | rfl | cases h) (fun g hg=>by cases hg) qnU
def qgq:Ann := .nil
noncomputable def rulesWithin_con:Con:=⟨[Zt43,Zt43,Zt43],true,[],.bool,fun x=>qeW x.1 x.2.1 x.2.2.1,some fun x=>qa x.1 x.2.1 x.2.2.1⟩
noncomputable def qfN:Env:=[]
theorem qlj (x:DL rulesWithin_con.ps):rulesWithin_con.φ x=denF Tryz.prog qfN qgq Tryz.f55 rulesWithin_con.ps rulesWithin_con.one rulesWithin_con.res rulesWithin_con.ρ x:=by kernel_rfl
theorem qep:ConOK Tryz.prog 55 rulesWithin_con :=
  qc (env:=qfN) ((EnvOK.nil _)) mixed Tryz.func55 rulesWithin_con qgq (by kernel_rfl) (fun h=>by first | rfl | cases h) (fun g hg x=>by
    cases hg
    exact qmw _ _ _) qlj
def qfW:Ann:=(.two .nil (.two .nil (.two .nil (.two (.two .nil (.joinE ⟨[],[],[]⟩ (.two (.loop ⟨[1,16,17],[(18,Zt43)],[]⟩ (.two .nil (.two .nil (.two (.joinE ⟨[1,16,17,18],[],[]⟩ (.two (.two .nil (.two (.two (.two .nil (.two .nil (.two (.two (.two .nil (.two (.two (.two .nil (.two (.two .nil (.joinE ⟨[],[],[]⟩ (.two (.loop ⟨[0,1,7],[(8,Zt43)],[]⟩ .nil) .nil))) .nil)) .nil) .nil)) .nil) .nil))) .nil) (.two .nil (.joinE ⟨[1,16,17,18],[],[]⟩ (.two (.loop ⟨[1,16,17,18,59,60],[(61,Zt43)],[]⟩ .nil) .nil))))) .nil)) .nil)))) .nil))) .nil))))
noncomputable def rulesPieces_con:Con:=⟨[Zt6],true,[],Zt43,fun x=>qe0 x.1,none⟩
noncomputable def qfM:Env:=(55,.con rulesWithin_con)::(74,.body Tryz.f74)::(89,.body Tryz.f89)::(73,.body Tryz.f73)::[]
theorem qma (x:DL rulesPieces_con.ps):rulesPieces_con.φ x=denF Tryz.prog qfM qfW Tryz.f56 rulesPieces_con.ps rulesPieces_con.one rulesPieces_con.res rulesPieces_con.ρ x:=by kernel_rfl
theorem qmx:ConOK Tryz.prog 56 rulesPieces_con :=
  qc (env:=qfM) ((EnvOK.cons (EnvOK.body (EnvOK.body (EnvOK.body (EnvOK.nil _) Tryz.func73) Tryz.func89) Tryz.func74) qep)) mixed Tryz.func56 rulesPieces_con qfW (by kernel_rfl) (fun h=>by first | rfl | cases h) (fun g hg=>by cases hg) qma
def qdP:Ann:=(.two .nil (.two .nil (.two (.two .nil (.joinE ⟨[],[],[]⟩ (.two (.loop ⟨[1,12,13],[(14,Zt43)],[]⟩ (.two .nil (.two .nil (.two (.two (.two .nil (.two .nil (.two (.two .nil (.two (.two .nil (.joinE ⟨[1,12,13,14],[(5,.bool),(6,.bool)],[]⟩ (.two .nil (.two .nil (.joinE ⟨[1,6,12,13,14],[(5,.bool)],[]⟩ .nil))))) .nil)) .nil))) .nil) .nil)))) .nil))) .nil)))
noncomputable def rulesConditions_con:Con:=⟨[Zt6],true,[],Zt43,fun x=>qbf x.1,none⟩
noncomputable def qdz:Env:=(55,.con rulesWithin_con)::[]
theorem qhA (x:DL rulesConditions_con.ps):rulesConditions_con.φ x=denF Tryz.prog qdz qdP Tryz.f59 rulesConditions_con.ps rulesConditions_con.one rulesConditions_con.res rulesConditions_con.ρ x:=by kernel_rfl
theorem qiO:ConOK Tryz.prog 59 rulesConditions_con :=
  qc (env:=qdz) ((EnvOK.cons (EnvOK.nil _) qep)) mixed Tryz.func59 rulesConditions_con qdP (by kernel_rfl) (fun h=>by first | rfl | cases h) (fun g hg=>by cases hg) qhA
def qg7:Ann:=(.two .nil (.two .nil (.two .nil (.two .nil (.two .nil (.two (.two (.two (.two .nil (.two (.two (.two .nil (.two (.two .nil (.joinE ⟨[],[],[]⟩ (.two (.loop ⟨[0,1,7],[(8,Zt43)],[]⟩ .nil) .nil))) .nil)) .nil) .nil)) .nil) .nil) .nil))))))
noncomputable def rulesCheck_con:Con:=⟨[Zt6],true,[],Zt43,fun x=>qdg x.1,none⟩
noncomputable def qhd:Env:=(59,.con rulesConditions_con)::(58,.body Tryz.f58)::(75,.body Tryz.f75)::(57,.body Tryz.f57)::(56,.con rulesPieces_con)::(55,.con rulesWithin_con)::(54,.con rulesName_con)::[]
theorem qmF (x:DL rulesCheck_con.ps):rulesCheck_con.φ x=denF Tryz.prog qhd qg7 Tryz.f37 rulesCheck_con.ps rulesCheck_con.one rulesCheck_con.res rulesCheck_con.ρ x:=by kernel_rfl
theorem qfe:ConOK Tryz.prog 37 rulesCheck_con :=
  qc (env:=qhd) ((EnvOK.cons (EnvOK.body (EnvOK.body (EnvOK.body (EnvOK.cons (EnvOK.cons (EnvOK.cons (EnvOK.nil _) qjT) qep) qmx) Tryz.func57) Tryz.func75) Tryz.func58) qiO)) mixed Tryz.func37 rulesCheck_con qg7 (by kernel_rfl) (fun h=>by first | rfl | cases h) (fun g hg=>by cases hg) qmF
def qcW:Ann:=(.two .nil (.two .nil (.two (.two .nil (.join ⟨[0],[(3,Zt43)],[]⟩ (.two (.loop ⟨[0,9,10],[(3,Zt43),(11,Zt43)],[]⟩ .nil) .nil))) (.two (.two (.two .nil (.two .nil (.two (.two .nil (.two .nil (.join ⟨[],[(0,Zt41)],[]⟩ (.two (.own (.own .nil)) .nil)))) .nil))) .nil) (.two (.two .nil (.join ⟨[],[(6,Zt41)],[(0,none)]⟩ (.two (.loop ⟨[25,26],[(6,Zt41),(27,Zt43)],[(0,none)]⟩ .nil) .nil))) .nil)))))
noncomputable def slicesConcat_int_con:Con:=⟨[(.sl Zt42)],true,[],Zt41,fun x=>qbA x.1,none⟩
noncomputable def qcS:Env:=(121,.body Tryz.f121)::[]
theorem qgU (x:DL slicesConcat_int_con.ps):slicesConcat_int_con.φ x=denF Tryz.prog qcS qcW Tryz.f115 slicesConcat_int_con.ps slicesConcat_int_con.one slicesConcat_int_con.res slicesConcat_int_con.ρ x:=by kernel_rfl
theorem qhF:ConOK Tryz.prog 115 slicesConcat_int_con :=
  qc (env:=qcS) ((EnvOK.body (EnvOK.nil _) Tryz.func121)) mixed Tryz.func115 slicesConcat_int_con qcW (by kernel_rfl) (fun h=>by first | rfl | cases h) (fun g hg=>by cases hg) qgU
def qfJ:Ann:=(.ord 6 0 (.two .nil (.two (.two (.two .nil (.two (.two .nil (.joinE ⟨[],[],[]⟩ (.two (.loop ⟨[0,1,7],[(8,Zt43)],[]⟩ .nil) .nil))) .nil)) .nil) .nil)) (.ord 7 0 .nil (.ord 8 0 .nil (.ord 9 0 .nil (.ord 10 0 .nil (.ord 11 0 (.two .nil (.two (.two (.two .nil (.two (.two .nil (.joinE ⟨[],[],[]⟩ (.two (.loop ⟨[0,1,7],[(8,Zt43)],[]⟩ .nil) .nil))) .nil)) .nil) .nil)) (.ord 12 0 .nil (.ord 13 0 .nil (.ord 14 0 .nil (.ord 15 0 .nil (.ord 16 0 .nil (.ord 17 0 .nil (.ord 18 0 .nil (.ord 19 0 .nil (.ord 20 0 .nil (.ord 21 0 .nil (.ord 22 0 .nil (.ord 23 0 .nil (.ord 24 0 .nil (.ord 25 0 .nil (.ord 26 0 .nil (.ord 27 0 .nil (.ord 28 0 .nil (.ord 29 0 .nil (.ord 30 0 .nil (.ord 31 0 .nil (.ord 32 0 .nil .nil)))))))))))))))))))))))))))
def qhi:Ann:=(.two .nil (.two .nil (.two .nil (.two .nil (.two .nil (.two (.two (.join ⟨[],[(76,.bool)],[]⟩ (.any 8589931423 0 (.ord 0 0 .nil (.ord 2 0 .nil (.ord 3 0 .nil (.ord 4 0 .nil (.alt (.ord 1 0 .nil (.ord 5 0 .nil qfJ)) (.ord 5 0 .nil (.ord 1 0 .nil qfJ))))))))) .nil) .nil))))))
noncomputable def placeSound_con:Con:=⟨[Zt6,Zt19],true,[],Zt43,fun x=>qgx x.1 x.2.1,none⟩
noncomputable def qg5:Env:=(114,.body Tryz.f114)::(75,.body Tryz.f75)::(57,.body Tryz.f57)::(113,.body Tryz.f113)::(115,.con slicesConcat_int_con)::[]
theorem qmz (x:DL placeSound_con.ps):placeSound_con.φ x=denF Tryz.prog qg5 qhi Tryz.f95 placeSound_con.ps placeSound_con.one placeSound_con.res placeSound_con.ρ x:=by kernel_rfl
theorem qog:ConOK Tryz.prog 95 placeSound_con :=
  qc (env:=qg5) ((EnvOK.body (EnvOK.body (EnvOK.body (EnvOK.body (EnvOK.cons (EnvOK.nil _) qhF) Tryz.func113) Tryz.func57) Tryz.func75) Tryz.func114)) mixed Tryz.func95 placeSound_con qhi (by kernel_rfl) (fun h=>by first | rfl | cases h) (fun g hg=>by cases hg) qmz
def qg2:Ann := .nil
noncomputable def placeCheck_con:Con:=⟨[Zt6,Zt19],true,[],Zt43,fun x=>qeD x.1 x.2.1,none⟩
noncomputable def qhe:Env:=(95,.con placeSound_con)::(37,.con rulesCheck_con)::[]
theorem qmG (x:DL placeCheck_con.ps):placeCheck_con.φ x=denF Tryz.prog qhe qg2 Tryz.f82 placeCheck_con.ps placeCheck_con.one placeCheck_con.res placeCheck_con.ρ x:=by kernel_rfl
theorem qin:ConOK Tryz.prog 82 placeCheck_con :=
  qc (env:=qhe) ((EnvOK.cons (EnvOK.cons (EnvOK.nil _) qfe) qog)) mixed Tryz.func82 placeCheck_con qg2 (by kernel_rfl) (fun h=>by first | rfl | cases h) (fun g hg=>by cases hg) qmG
def qkp:Ann:=(.two .nil (.two .nil (.two (.two .nil (.joinE ⟨[],[],[]⟩ (.two (.loop ⟨[3,4,9,19],[(20,Zt43)],[]⟩ (.two .nil (.two .nil (.two (.joinE ⟨[3,4,9,19,20],[],[]⟩ (.two (.two .nil (.two .nil (.joinE ⟨[3,4,9,19,20],[],[]⟩ (.two (.loop ⟨[3,4,9,10,19,20,27],[(28,Zt43)],[]⟩ (.two .nil (.two .nil (.two (.joinE ⟨[3,4,9,10,19,20,27,28],[],[]⟩ (.two (.two .nil (.two .nil (.two (.join ⟨[3,4,9,10,19,20,27,28],[(15,Zt43)],[]⟩ (.two (.loop ⟨[3,4,9,10,12,19,20,27,28],[(13,Zt43),(14,Zt43),(15,Zt43)],[]⟩ (.two (.two (.join ⟨[3,4,9,10,12,13,14,15,19,20,27,28],[(47,.bool)],[]⟩ .nil) .nil) .nil)) .nil)) .nil))) .nil)) .nil)))) .nil)))) .nil)) .nil)))) .nil))) .nil)))
noncomputable def endsLine_con:Con:=⟨[Zt6,Zt19,Zt43,Zt43],true,[],.bool,fun x=>qkJ x.1 x.2.1 x.2.2.1 x.2.2.2.1,none⟩
noncomputable def qjQ:Env:=(122,.body Tryz.f122)::[]
theorem qoW (x:DL endsLine_con.ps):endsLine_con.φ x=denF Tryz.prog qjQ qkp Tryz.f116 endsLine_con.ps endsLine_con.one endsLine_con.res endsLine_con.ρ x:=by kernel_rfl
theorem qqa:ConOK Tryz.prog 116 endsLine_con :=
  qc (env:=qjQ) ((EnvOK.body (EnvOK.nil _) Tryz.func122)) mixed Tryz.func116 endsLine_con qkp (by kernel_rfl) (fun h=>by first | rfl | cases h) (fun g hg=>by cases hg) qoW
def qgp:Ann := .nil
noncomputable def rulesIsLast_con:Con:=⟨[Zt6,Zt43,Zt43],true,[],.bool,fun x=>qdv x.1 x.2.1 x.2.2.1,none⟩
noncomputable def qfP:Env:=[]
theorem qle (x:DL rulesIsLast_con.ps):rulesIsLast_con.φ x=denF Tryz.prog qfP qgp Tryz.f107 rulesIsLast_con.ps rulesIsLast_con.one rulesIsLast_con.res rulesIsLast_con.ρ x:=by kernel_rfl
theorem qhc:ConOK Tryz.prog 107 rulesIsLast_con :=
  qc (env:=qfP) ((EnvOK.nil _)) mixed Tryz.func107 rulesIsLast_con qgp (by kernel_rfl) (fun h=>by first | rfl | cases h) (fun g hg=>by cases hg) qle
def qir:Ann:=(.two .nil (.two (.two .nil (.joinE ⟨[3,5,6],[],[]⟩ (.two (.two .nil (.two .nil (.two .nil (.two (.two (.two .nil (.joinE ⟨[3,5,6],[],[]⟩ (.two (.loop ⟨[3,4,5,6,27,28],[(29,Zt43)],[]⟩ .nil) .nil))) .nil) .nil)))) .nil))) (.two .nil (.two (.two .nil (.join ⟨[6],[(11,Zt43)],[]⟩ (.two (.loop ⟨[3,6,50,51],[(11,Zt43),(52,Zt43)],[]⟩ (.two .nil (.two .nil (.two (.two (.two .nil (.two .nil (.join ⟨[3,6,50,51,52],[(11,Zt43)],[]⟩ .nil))) .nil) .nil)))) .nil))) .nil))))
noncomputable def endsHolds_con:Con:=⟨[Zt6,Zt19,Zt34,Zt43],true,[],.bool,fun x=>qij x.1 x.2.1 x.2.2.1 x.2.2.2.1,none⟩
noncomputable def qiY:Env:=(107,.con rulesIsLast_con)::(116,.con endsLine_con)::[]
theorem qnF (x:DL endsHolds_con.ps):endsHolds_con.φ x=denF Tryz.prog qiY qir Tryz.f98 endsHolds_con.ps endsHolds_con.one endsHolds_con.res endsHolds_con.ρ x:=by kernel_rfl
theorem qpj:ConOK Tryz.prog 98 endsHolds_con :=
  qc (env:=qiY) ((EnvOK.cons (EnvOK.cons (EnvOK.nil _) qqa) qhc)) mixed Tryz.func98 endsHolds_con qir (by kernel_rfl) (fun h=>by first | rfl | cases h) (fun g hg=>by cases hg) qnF
def qj9:Ann := .nil
noncomputable def endsWins_con:Con:=⟨[Zt43],true,[],Zt43,fun x=>qjl x.1,some fun x=>qca x.1⟩
noncomputable def qj0:Env:=[]
theorem qo7 (x:DL endsWins_con.ps):endsWins_con.φ x=denF Tryz.prog qj0 qj9 Tryz.f99 endsWins_con.ps endsWins_con.one endsWins_con.res endsWins_con.ρ x:=by kernel_rfl
theorem qqb:ConOK Tryz.prog 99 endsWins_con :=
  qc (env:=qj0) ((EnvOK.nil _)) mixed Tryz.func99 endsWins_con qj9 (by kernel_rfl) (fun h=>by first | rfl | cases h) (fun g hg x=>by
    cases hg
    exact qqN _) qo7
def qgt:Ann:=(.two .nil (.two (.two .nil (.joinE ⟨[],[],[]⟩ (.two (.loop ⟨[3,4],[(2,Zt43)],[]⟩ .nil) .nil))) .nil))
noncomputable def movesFilled_con:Con:=⟨[Zt6,Zt19,Zt43],true,[],.bool,fun x=>qe7 x.1 x.2.1 x.2.2.1,none⟩
noncomputable def qgv:Env:=[]
theorem qkY (x:DL movesFilled_con.ps):movesFilled_con.φ x=denF Tryz.prog qgv qgt Tryz.f117 movesFilled_con.ps movesFilled_con.one movesFilled_con.res movesFilled_con.ρ x:=by kernel_rfl
theorem qms:ConOK Tryz.prog 117 movesFilled_con :=
  qc (env:=qgv) ((EnvOK.nil _)) mixed Tryz.func117 movesFilled_con qgt (by kernel_rfl) (fun h=>by first | rfl | cases h) (fun g hg=>by cases hg) qkY
def qi8:Ann:=(.two .nil (.two .nil (.two (.two .nil (.join ⟨[],[(5,Zt35)],[]⟩ (.two (.loop ⟨[2,3,11,12],[(5,Zt35),(13,Zt43)],[]⟩ (.two .nil (.two .nil (.two (.join ⟨[2,3,11,12,13],[(5,Zt35)],[(2,none)]⟩ (.two (.two .nil (.two .nil (.two .nil (.join ⟨[2,3,11,12,13],[(5,Zt35)],[(2,none)]⟩ (.two (.loop ⟨[2,3,6,11,12,13,41,42],[(5,Zt35),(43,Zt43)],[(2,none)]⟩ (.two .nil (.two .nil (.two (.two (.two .nil (.two .nil (.join ⟨[2,3,6,11,12,13,41,42,43],[(5,Zt35)],[(3,none)]⟩ .nil))) .nil) .nil)))) .nil))))) .nil)) .nil)))) .nil))) .nil)))
noncomputable def movesPuts_con:Con:=⟨[Zt6,Zt19],true,[],Zt35,fun x=>qiX x.1 x.2.1,none⟩
noncomputable def qi7:Env:=(117,.con movesFilled_con)::[]
theorem qnJ (x:DL movesPuts_con.ps):movesPuts_con.φ x=denF Tryz.prog qi7 qi8 Tryz.f105 movesPuts_con.ps movesPuts_con.one movesPuts_con.res movesPuts_con.ρ x:=by kernel_rfl
theorem qoB:ConOK Tryz.prog 105 movesPuts_con :=
  qc (env:=qi7) ((EnvOK.cons (EnvOK.nil _) qms)) mixed Tryz.func105 movesPuts_con qi8 (by kernel_rfl) (fun h=>by first | rfl | cases h) (fun g hg=>by cases hg) qnJ
def qj8:Ann:=(.two .nil (.two .nil (.two .nil (.two (.two .nil (.join ⟨[2,4,5,7,9],[(10,Zt43)],[]⟩ .nil)) (.two .nil (.two (.two .nil (.join ⟨[],[(9,Zt41)],[]⟩ (.two (.loop ⟨[4,5,7,10,31],[(9,Zt41),(11,Zt43),(12,Zt43),(32,Zt43)],[]⟩ (.two .nil (.two .nil (.two (.two (.two .nil (.two .nil (.two .nil (.two .nil (.two (.two .nil (.join ⟨[4,5,7,10,11,12,13,31,32],[(9,Zt41)],[(3,none)]⟩ .nil)) .nil))))) .nil) .nil)))) .nil))) .nil))))))
noncomputable def movesWay_con:Con:=⟨[Zt6,Zt19,Zt43,Zt31],true,[],Zt41,fun x=>qkE x.1 x.2.1 x.2.2.1 x.2.2.2.1,none⟩
noncomputable def qkg:Env:=[]
theorem qpf (x:DL movesWay_con.ps):movesWay_con.φ x=denF Tryz.prog qkg qj8 Tryz.f106 movesWay_con.ps movesWay_con.one movesWay_con.res movesWay_con.ρ x:=by kernel_rfl
theorem qq8:ConOK Tryz.prog 106 movesWay_con :=
  qc (env:=qkg) ((EnvOK.nil _)) mixed Tryz.func106 movesWay_con qj8 (by kernel_rfl) (fun h=>by first | rfl | cases h) (fun g hg=>by cases hg) qpf
def qib:Ann:=(.two .nil (.two .nil (.two (.two .nil (.join ⟨[],[(5,Zt35)],[(2,none)]⟩ (.two (.loop ⟨[2,3,19,20],[(5,Zt35),(21,Zt43)],[(2,none)]⟩ (.two .nil (.two .nil (.two (.join ⟨[2,3,19,20,21],[(5,Zt35)],[(3,none)]⟩ (.two (.two .nil (.two .nil (.two .nil (.two .nil (.join ⟨[2,3,19,20,21],[(5,Zt35)],[(3,none)]⟩ (.two (.loop ⟨[2,3,6,8,19,20,21,44,45],[(5,Zt35),(46,Zt43)],[(3,none)]⟩ (.two .nil (.two .nil (.two (.join ⟨[2,3,6,8,19,20,21,44,45,46],[(5,Zt35)],[(4,none)]⟩ (.two (.two .nil (.two .nil (.join ⟨[2,3,6,8,19,20,21,44,45,46],[(5,Zt35)],[(4,none)]⟩ (.two (.loop ⟨[2,3,6,8,19,20,21,44,45,46,54,55],[(5,Zt35),(56,Zt43)],[(4,none)]⟩ (.two .nil (.two .nil (.two (.two (.two .nil (.two .nil (.two (.two .nil (.two .nil (.join ⟨[2,3,5,6,8,13,19,20,21,44,45,46,54,55,56],[],[(8,some (.box Zt37))]⟩ .nil))) .nil))) .nil) .nil)))) .nil)))) .nil)) .nil)))) .nil)))))) .nil)) .nil)))) .nil))) (.two .nil (.two (.join ⟨[],[(4,Zt35)],[(3,none)]⟩ (.two (.two .nil (.two .nil (.two (.two .nil (.joinE ⟨[0],[],[(3,some (.arr 45 Zt37))]⟩ (.two (.loop ⟨[0],[(3,Zt43)],[(3,some (.arr 45 Zt37))]⟩ (.two .nil (.two (.joinE ⟨[0],[(3,Zt43)],[(3,some (.arr 45 Zt37))]⟩ (.two (.two .nil (.two (.two (.own .nil) (.two (.two .nil (.join ⟨[0],[(3,Zt43)],[(3,some (.arr 45 Zt37))]⟩ (.two (.loop ⟨[0,4],[(3,Zt43),(5,Zt43)],[(3,some (.arr 45 Zt37))]⟩ (.two .nil (.two (.two (.two .nil (.join ⟨[0,4,5],[(3,Zt43)],[(3,some (.arr 45 Zt37))]⟩ .nil)) .nil) .nil))) .nil))) (.two (.own .nil) (.two (.own .nil) .nil)))) .nil)) .nil)) .nil))) .nil))) .nil))) .nil)) .nil)))))
noncomputable def movesList_con:Con:=⟨[Zt6,Zt19],true,[],Zt35,fun x=>qat x.1 x.2.1,none⟩
noncomputable def qh8:Env:=(112,.body Tryz.f112)::(108,.srt qfn)::(107,.con rulesIsLast_con)::(106,.con movesWay_con)::(105,.con movesPuts_con)::[]
theorem qos (x:DL movesList_con.ps):movesList_con.φ x=denF Tryz.prog qh8 qib Tryz.f92 movesList_con.ps movesList_con.one movesList_con.res movesList_con.ρ x:=by kernel_rfl
theorem qgh:ConOK Tryz.prog 92 movesList_con :=
  qc (env:=qh8) ((EnvOK.body (EnvOK.sort (EnvOK.cons (EnvOK.cons (EnvOK.cons (EnvOK.nil _) qoB) qq8) qhc) qo8) Tryz.func112)) mixed Tryz.func92 movesList_con qib (by kernel_rfl) (fun h=>by first | rfl | cases h) (fun g hg=>by cases hg) qos
def qhg:Ann:=(.two .nil (.two .nil (.two (.two (.two (.two .nil (.two (.two .nil (.joinE ⟨[],[],[]⟩ (.two (.loop ⟨[0,1,7],[(8,Zt43)],[]⟩ .nil) .nil))) .nil)) .nil) .nil) .nil)))
noncomputable def endsResult_con:Con:=⟨[Zt6,Zt19],true,[],Zt43,fun x=>qdl x.1 x.2.1,none⟩
noncomputable def qhf:Env:=(99,.con endsWins_con)::(92,.con movesList_con)::(98,.con endsHolds_con)::(97,.body Tryz.f97)::(96,.body Tryz.f96)::[]
theorem qmD (x:DL endsResult_con.ps):endsResult_con.φ x=denF Tryz.prog qhf qhg Tryz.f83 endsResult_con.ps endsResult_con.one endsResult_con.res endsResult_con.ρ x:=by kernel_rfl
theorem qiC:ConOK Tryz.prog 83 endsResult_con :=
  qc (env:=qhf) ((EnvOK.cons (EnvOK.cons (EnvOK.cons (EnvOK.body (EnvOK.body (EnvOK.nil _) Tryz.func96) Tryz.func97) qpj) qgh) qqb)) mixed Tryz.func83 endsResult_con qhg (by kernel_rfl) (fun h=>by first | rfl | cases h) (fun g hg=>by cases hg) qmD
def qmP:Ann := .nil
noncomputable def endsOf_con:Con:=⟨[Zt6,Zt19],false,[Zt43,Zt43],Zt38,fun x=>qrA x.1 x.2.1,none⟩
noncomputable def qmO:Env:=(83,.con endsResult_con)::(82,.con placeCheck_con)::[]
theorem qs8 (x:DL endsOf_con.ps):endsOf_con.φ x=denF Tryz.prog qmO qmP Tryz.f68 endsOf_con.ps endsOf_con.one endsOf_con.res endsOf_con.ρ x:=by kernel_rfl
theorem endsOf_ok:ConOK Tryz.prog 68 endsOf_con :=
  qc (env:=qmO) ((EnvOK.cons (EnvOK.cons (EnvOK.nil _) qin) qiC)) mixed Tryz.func68 endsOf_con qmP (by kernel_rfl) (fun h=>by first | rfl | cases h) (fun g hg=>by cases hg) qs8
def qjX:Ann := .nil
noncomputable def movesAll_con:Con:=⟨[Zt6,Zt19],false,[Zt35,Zt43],Zt26,fun x=>qkL x.1 x.2.1,none⟩
noncomputable def qko:Env:=(92,.con movesList_con)::(82,.con placeCheck_con)::[]
theorem qps (x:DL movesAll_con.ps):movesAll_con.φ x=denF Tryz.prog qko qjX Tryz.f85 movesAll_con.ps movesAll_con.one movesAll_con.res movesAll_con.ρ x:=by kernel_rfl
theorem qqj:ConOK Tryz.prog 85 movesAll_con :=
  qc (env:=qko) ((EnvOK.cons (EnvOK.cons (EnvOK.nil _) qin) qgh)) mixed Tryz.func85 movesAll_con qjX (by kernel_rfl) (fun h=>by first | rfl | cases h) (fun g hg=>by cases hg) qps
def qcV:Ann:=(.two .nil (.two (.two .nil (.joinE ⟨[],[],[]⟩ (.two (.loop ⟨[0,3,7],[(8,Zt43)],[]⟩ .nil) .nil))) .nil))
noncomputable def slicesIndex_Move_con:Con:=⟨[Zt36,Zt37],true,[],Zt43,fun x=>qcP x.1 x.2.1,none⟩
noncomputable def qcY:Env:=[]
theorem qgV (x:DL slicesIndex_Move_con.ps):slicesIndex_Move_con.φ x=denF Tryz.prog qcY qcV Tryz.f101 slicesIndex_Move_con.ps slicesIndex_Move_con.one slicesIndex_Move_con.res slicesIndex_Move_con.ρ x:=by kernel_rfl
theorem qhI:ConOK Tryz.prog 101 slicesIndex_Move_con :=
  qc (env:=qcY) ((EnvOK.nil _)) mixed Tryz.func101 slicesIndex_Move_con qcV (by kernel_rfl) (fun h=>by first | rfl | cases h) (fun g hg=>by cases hg) qgV
def qb2:Ann := .nil
noncomputable def slicesContains_Move_con:Con:=⟨[Zt36,Zt37],true,[],.bool,fun x=>qn x.1 x.2.1,none⟩
noncomputable def qbS:Env:=(101,.con slicesIndex_Move_con)::[]
theorem qfm (x:DL slicesContains_Move_con.ps):slicesContains_Move_con.φ x=denF Tryz.prog qbS qb2 Tryz.f86 slicesContains_Move_con.ps slicesContains_Move_con.one slicesContains_Move_con.res slicesContains_Move_con.ρ x:=by kernel_rfl
theorem qcd:ConOK Tryz.prog 86 slicesContains_Move_con :=
  qc (env:=qbS) ((EnvOK.cons (EnvOK.nil _) qhI)) mixed Tryz.func86 slicesContains_Move_con qb2 (by kernel_rfl) (fun h=>by first | rfl | cases h) (fun g hg=>by cases hg) qfm
def qhj:Ann := .nil
noncomputable def movesLegal_con:Con:=⟨[Zt6,Zt19,Zt37],false,[.bool,Zt43],(.st .bool Zt40),fun x=>qgz x.1 x.2.1 x.2.2.1,none⟩
noncomputable def qhb:Env:=(86,.con slicesContains_Move_con)::(85,.con movesAll_con)::[]
theorem qmn (x:DL movesLegal_con.ps):movesLegal_con.φ x=denF Tryz.prog qhb qhj Tryz.f70 movesLegal_con.ps movesLegal_con.one movesLegal_con.res movesLegal_con.ρ x:=by kernel_rfl
theorem qnX:ConOK Tryz.prog 70 movesLegal_con :=
  qc (env:=qhb) ((EnvOK.cons (EnvOK.cons (EnvOK.nil _) qqj) qcd)) mixed Tryz.func70 movesLegal_con qhj (by kernel_rfl) (fun h=>by first | rfl | cases h) (fun g hg=>by cases hg) qmn
def qdB:Ann := .nil
noncomputable def slicesClone_int_con:Con:=⟨[Zt42],true,[],Zt41,fun x=>qz x.1,none⟩
noncomputable def qdy:Env:=[]
theorem qh0 (x:DL slicesClone_int_con.ps):slicesClone_int_con.φ x=denF Tryz.prog qdy qdB Tryz.f67 slicesClone_int_con.ps slicesClone_int_con.one slicesClone_int_con.res slicesClone_int_con.ρ x:=by kernel_rfl
theorem qbX:ConOK Tryz.prog 67 slicesClone_int_con :=
  qc (env:=qdy) ((EnvOK.nil _)) mixed Tryz.func67 slicesClone_int_con qdB (by kernel_rfl) (fun h=>by first | rfl | cases h) (fun g hg=>by cases hg) qh0
def qiy:Ann:=(.two .nil (.two .nil (.two (.join ⟨[1,2],[],[(0,some (.box Zt20)),(2,none)]⟩ (.any 887 0 (.ord 0 0 .nil (.ord 1 0 .nil (.ord 2 115 .nil (.ord 4 0 .nil (.ord 5 0 .nil (.alt (.ord 3 0 .nil (.ord 6 0 .nil (.ord 7 0 .nil (.ord 8 0 .nil (.ord 9 0 .nil (.ord 10 0 .nil .nil)))))) (.ord 6 0 .nil (.ord 3 0 .nil (.ord 7 0 .nil (.ord 8 0 .nil (.ord 9 0 .nil (.ord 10 0 .nil .nil)))))))))))))) .nil)))
noncomputable def placeCopy_con:Con:=⟨[Zt19],true,[],Zt17,fun x=>qdN x.1,none⟩
noncomputable def qiw:Env:=(67,.con slicesClone_int_con)::[]
theorem qod (x:DL placeCopy_con.ps):placeCopy_con.φ x=denF Tryz.prog qiw qiy Tryz.f87 placeCopy_con.ps placeCopy_con.one placeCopy_con.res placeCopy_con.ρ x:=by kernel_rfl
theorem qkj:ConOK Tryz.prog 87 placeCopy_con :=
  qc (env:=qiw) ((EnvOK.cons (EnvOK.nil _) qbX)) mixed Tryz.func87 placeCopy_con qiy (by kernel_rfl) (fun h=>by first | rfl | cases h) (fun g hg=>by cases hg) qod
def qiU:Ann:=(.two .nil (.two .nil (.two .nil (.two (.two .nil (.join ⟨[3,4,5,6,7,8],[],[(4,some (.arr 3 Zt43)),(5,some (.arr 3 Zt43)),(6,some (.arr 3 Zt43))]⟩ (.two .nil (.join ⟨[3,4,5,6,7,8],[],[(5,some (.arr 3 Zt43)),(6,some (.arr 3 Zt43))]⟩ (.tail 11 .nil))))) (.two .nil (.two (.two .nil (.join ⟨[4,5,6,7,8],[],[(5,some (.arr 3 Zt43)),(6,some (.arr 3 Zt43))]⟩ (.two (.two .nil (.join ⟨[4,5,6,7,8],[],[(5,some (.arr 3 Zt43)),(6,some (.arr 3 Zt43))]⟩ (.tail 17 .nil))) .nil))) (.two .nil (.two (.two .nil (.join ⟨[4,6,7],[],[(4,none),(5,none),(6,none),(7,some (.box Zt20))]⟩ .nil)) .nil))))))))
noncomputable def movesMake_con:Con:=⟨[Zt6,Zt19,Zt37],true,[],Zt17,fun x=>qw x.1 x.2.1 x.2.2.1,none⟩
noncomputable def qif:Env:=(87,.con placeCopy_con)::[]
theorem qoj (x:DL movesMake_con.ps):movesMake_con.φ x=denF Tryz.prog qif qiU Tryz.f71 movesMake_con.ps movesMake_con.one movesMake_con.res movesMake_con.ρ x:=by kernel_rfl
theorem qj2:ConOK Tryz.prog 71 movesMake_con :=
  qc (env:=qif) ((EnvOK.cons (EnvOK.nil _) qkj)) mixed Tryz.func71 movesMake_con qiU (by kernel_rfl) (fun h=>by first | rfl | cases h) (fun g hg=>by cases hg) qoj
def qhw:Ann := .nil
noncomputable def movesAfter_con:Con:=⟨[Zt6,Zt19,Zt37],false,[Zt17,Zt43],Zt12,fun x=>qbG x.1 x.2.1 x.2.2.1,none⟩
noncomputable def qhs:Env:=(71,.con movesMake_con)::(70,.con movesLegal_con)::[]
theorem qmv (x:DL movesAfter_con.ps):movesAfter_con.φ x=denF Tryz.prog qhs qhw Tryz.f50 movesAfter_con.ps movesAfter_con.one movesAfter_con.res movesAfter_con.ρ x:=by kernel_rfl
theorem qnP:ConOK Tryz.prog 50 movesAfter_con :=
  qc (env:=qhs) ((EnvOK.cons (EnvOK.cons (EnvOK.nil _) qnX) qj2)) mixed Tryz.func50 movesAfter_con qhw (by kernel_rfl) (fun h=>by first | rfl | cases h) (fun g hg=>by cases hg) qmv
def qF:Ann:=(.ord 13 0 .nil (.ord 16 0 .nil (.ord 18 0 .nil (.ord 19 0 .nil .nil))))
def qb5:Ann:=(.alt (.ord 6 0 .nil (.ord 15 0 .nil (.ord 12 0 .nil qF))) (.ord 12 0 .nil (.ord 6 0 .nil (.ord 15 0 .nil qF))))
def qf3:Ann:=(.alt (.ord 6 0 .nil (.ord 9 155135 .nil (.ord 15 0 .nil (.ord 12 0 .nil qF)))) (.alt (.ord 9 0 .nil qb5) (.ord 12 0 .nil (.alt (.ord 6 0 .nil (.ord 9 0 .nil (.ord 15 0 .nil qF))) (.ord 9 0 .nil (.ord 6 0 .nil (.ord 15 0 .nil qF)))))))
def qdJ:Ann:=(.ord 11 182271 .nil (.ord 15 0 .nil (.ord 12 0 .nil qF)))
def qfR:Ann:=(.alt (.ord 5 0 .nil qb5) (.ord 12 0 .nil (.ord 5 0 .nil (.ord 6 0 .nil (.ord 15 0 .nil qF)))))
def qg6:Ann:=(.two .nil (.two .nil (.two .nil (.two (.two .nil (.join ⟨[2,5],[],[(2,none),(3,some (.box Zt20))]⟩ (.two (.loop ⟨[2,5,19,20],[(21,Zt43)],[(2,none),(3,some (.box Zt20))]⟩ (.two .nil (.two .nil (.two (.two (.two .nil (.join ⟨[2,5,19,20,21],[],[(3,some (.box Zt20)),(4,none),(5,none),(6,none)]⟩ (.any 446367 4128 (.ord 0 0 .nil (.ord 1 0 .nil (.ord 2 155579 .nil (.ord 3 0 .nil (.ord 4 155535 .nil (.ord 7 0 .nil (.ord 8 0 .nil (.ord 10 0 .nil (.ord 14 0 .nil (.ord 17 0 .nil (.alt (.ord 5 0 .nil (.alt (.ord 6 0 .nil (.ord 9 155135 .nil qdJ)) (.alt (.ord 9 0 .nil (.alt (.ord 6 0 .nil qdJ) (.ord 11 0 .nil qb5))) (.ord 11 0 .nil qf3)))) (.alt (.ord 9 0 .nil (.alt (.ord 5 0 .nil (.alt (.ord 6 0 .nil qdJ) (.ord 11 0 .nil qb5))) (.ord 11 0 .nil qfR))) (.ord 11 0 .nil (.alt (.ord 5 0 .nil qf3) (.alt (.ord 9 0 .nil qfR) (.ord 12 0 .nil (.alt (.ord 5 0 .nil (.alt (.ord 6 0 .nil (.ord 9 0 .nil (.ord 15 0 .nil qF))) (.ord 9 0 .nil (.ord 6 0 .nil (.ord 15 0 .nil qF))))) (.ord 9 0 .nil (.ord 5 0 .nil (.ord 6 0 .nil (.ord 15 0 .nil qF)))))))))))))))))))))))) .nil) .nil)))) .nil))) .nil))))
noncomputable def placeBegin_con:Con:=⟨[Zt6],false,[Zt17,Zt43],Zt12,fun x=>qey x.1,none⟩
noncomputable def qhm:Env:=(67,.con slicesClone_int_con)::(37,.con rulesCheck_con)::[]
theorem qmt (x:DL placeBegin_con.ps):placeBegin_con.φ x=denF Tryz.prog qhm qg6 Tryz.f48 placeBegin_con.ps placeBegin_con.one placeBegin_con.res placeBegin_con.ρ x:=by kernel_rfl
theorem qiq:ConOK Tryz.prog 48 placeBegin_con :=
  qc (env:=qhm) ((EnvOK.cons (EnvOK.cons (EnvOK.nil _) qfe) qbX)) mixed Tryz.func48 placeBegin_con qg6 (by kernel_rfl) (fun h=>by first | rfl | cases h) (fun g hg=>by cases hg) qmt
def qdI:Ann:=(.two .nil (.two .nil (.two (.two .nil (.joinE ⟨[],[],[]⟩ (.two (.loop ⟨[0,1,12],[(13,Zt43)],[]⟩ .nil) .nil))) .nil)))
noncomputable def slicesEqual_int_con:Con:=⟨[Zt42,Zt42],true,[],.bool,fun x=>qaI x.1 x.2.1,none⟩
noncomputable def qdp:Env:=[]
theorem qhE (x:DL slicesEqual_int_con.ps):slicesEqual_int_con.φ x=denF Tryz.prog qdp qdI Tryz.f100 slicesEqual_int_con.ps slicesEqual_int_con.one slicesEqual_int_con.res slicesEqual_int_con.ρ x:=by kernel_rfl
theorem qi1:ConOK Tryz.prog 100 slicesEqual_int_con :=
  qc (env:=qdp) ((EnvOK.nil _)) mixed Tryz.func100 slicesEqual_int_con qdI (by kernel_rfl) (fun h=>by first | rfl | cases h) (fun g hg=>by cases hg) qhE
def qiR:Ann := .nil
noncomputable def placeSame_con:Con:=⟨[Zt19,Zt19],true,[],.bool,fun x=>qbW x.1 x.2.1,none⟩
noncomputable def qip:Env:=(100,.con slicesEqual_int_con)::[]
theorem qnK (x:DL placeSame_con.ps):placeSame_con.φ x=denF Tryz.prog qip qiR Tryz.f84 placeSame_con.ps placeSame_con.one placeSame_con.res placeSame_con.ρ x:=by kernel_rfl
theorem qjR:ConOK Tryz.prog 84 placeSame_con :=
  qc (env:=qip) ((EnvOK.cons (EnvOK.nil _) qi1)) mixed Tryz.func84 placeSame_con qiR (by kernel_rfl) (fun h=>by first | rfl | cases h) (fun g hg=>by cases hg) qnK
def qbP:Ann := .nil
noncomputable def slicesClone_RuleWay_con:Con:=⟨[Zt28],true,[],(.osl 129 Zt31),fun x=>qaS x.1,none⟩
noncomputable def qb3:Env:=[]
theorem qe6 (x:DL slicesClone_RuleWay_con.ps):slicesClone_RuleWay_con.φ x=denF Tryz.prog qb3 qbP Tryz.f103 slicesClone_RuleWay_con.ps slicesClone_RuleWay_con.one slicesClone_RuleWay_con.res slicesClone_RuleWay_con.ρ x:=by kernel_rfl
theorem qfG:ConOK Tryz.prog 103 slicesClone_RuleWay_con :=
  qc (env:=qb3) ((EnvOK.nil _)) mixed Tryz.func103 slicesClone_RuleWay_con qbP (by kernel_rfl) (fun h=>by first | rfl | cases h) (fun g hg=>by cases hg) qe6
def qb9:Ann := .nil
noncomputable def slicesClone_RuleEnd_con:Con:=⟨[Zt32],true,[],Zt29,fun x=>qam x.1,none⟩
noncomputable def qb0:Env:=[]
theorem qeV (x:DL slicesClone_RuleEnd_con.ps):slicesClone_RuleEnd_con.φ x=denF Tryz.prog qb0 qb9 Tryz.f104 slicesClone_RuleEnd_con.ps slicesClone_RuleEnd_con.one slicesClone_RuleEnd_con.res slicesClone_RuleEnd_con.ρ x:=by kernel_rfl
theorem qfH:ConOK Tryz.prog 104 slicesClone_RuleEnd_con :=
  qc (env:=qb0) ((EnvOK.nil _)) mixed Tryz.func104 slicesClone_RuleEnd_con qb9 (by kernel_rfl) (fun h=>by first | rfl | cases h) (fun g hg=>by cases hg) qeV
def qi3:Ann:=(.two .nil (.two .nil (.two .nil (.two (.two .nil (.join ⟨[1,2,3],[],[(2,some (.box Zt5))]⟩ (.two (.loop ⟨[1,2,3,9,10],[(11,Zt43)],[(2,some (.box Zt5))]⟩ .nil) .nil))) (.two (.join ⟨[2,3],[],[(2,some (.box Zt4)),(3,none)]⟩ (.any 347 0 (.ord 0 0 .nil (.ord 1 25 .nil (.ord 3 0 .nil (.alt (.ord 2 0 .nil (.ord 4 79 .nil (.ord 6 0 .nil (.ord 5 0 .nil (.ord 7 0 .nil (.ord 8 0 .nil (.ord 9 0 .nil .nil))))))) (.ord 4 0 .nil (.ord 2 0 .nil (.ord 6 0 .nil (.ord 5 0 .nil (.ord 7 0 .nil (.ord 8 0 .nil (.ord 9 0 .nil .nil))))))))))))) .nil)))))
noncomputable def rulesCopy_con:Con:=⟨[Zt6],true,[],Zt6,fun x=>qeT x.1,none⟩
noncomputable def qiA:Env:=(104,.con slicesClone_RuleEnd_con)::(67,.con slicesClone_int_con)::(103,.con slicesClone_RuleWay_con)::[]
theorem qn0 (x:DL rulesCopy_con.ps):rulesCopy_con.φ x=denF Tryz.prog qiA qi3 Tryz.f91 rulesCopy_con.ps rulesCopy_con.one rulesCopy_con.res rulesCopy_con.ρ x:=by kernel_rfl
theorem qpa:ConOK Tryz.prog 91 rulesCopy_con :=
  qc (env:=qiA) ((EnvOK.cons (EnvOK.cons (EnvOK.cons (EnvOK.nil _) qfG) qbX) qfH)) mixed Tryz.func91 rulesCopy_con qi3 (by kernel_rfl) (fun h=>by first | rfl | cases h) (fun g hg=>by cases hg) qn0
def qdW:Ann:=(.two .nil (.two .nil (.two (.two .nil (.join ⟨[],[(3,Zt43)],[]⟩ (.two (.loop ⟨[0,9,10],[(3,Zt43),(11,Zt43)],[]⟩ (.two .nil (.two .nil (.two (.two (.two .nil (.two (.join ⟨[0,3,9,10,11],[(18,.bool)],[]⟩ (.any 3 0 (.ord 1 0 .nil (.alt (.ord 0 0 .nil (.ord 2 0 (.two .nil (.two (.tail 12 .nil) .nil)) (.ord 3 0 .nil .nil))) (.ord 2 0 (.two .nil (.two (.tail 12 .nil) .nil)) (.ord 0 0 .nil (.ord 3 0 .nil .nil))))))) (.join ⟨[0,9,10,11],[(3,Zt43)],[]⟩ .nil))) .nil) .nil)))) .nil))) .nil)))
noncomputable def plainGameCount_con:Con:=⟨[Zt2],true,[],Zt43,fun x=>qcu x.1,none⟩
noncomputable def qed:Env:=(84,.con placeSame_con)::(93,.body Tryz.f93)::[]
theorem qh9 (x:DL plainGameCount_con.ps):plainGameCount_con.φ x=denB Tryz.prog qed qdW Tryz.f94 true plainGameCount_con.ps plainGameCount_con.one plainGameCount_con.res plainGameCount_con.ρ x:=by kernel_rfl
theorem qjj:qpN Tryz.prog 94 plainGameCount_con :=
  qlJ (env:=qed) ((EnvOK.cons (EnvOK.body (EnvOK.nil _) Tryz.func93) qjR)) mixed Tryz.func94 plainGameCount_con qdW (by kernel_rfl) (fun h=>by first | rfl | cases h) (fun g hg=>by cases hg) qh9
def qdE:Ann:=(.two .nil (.two (.join ⟨[0],[(3,Zt43)],[]⟩ (.any 159 0 (.ord 0 0 .nil (.ord 1 0 .nil (.ord 2 0 .nil (.ord 4 0 .nil (.alt (.ord 3 0 .nil (.ord 5 0 (.two .nil (.two (.tail 12 .nil) .nil)) (.ord 6 0 .nil (.ord 7 0 .nil .nil)))) (.ord 5 0 (.two .nil (.two (.tail 12 .nil) .nil)) (.ord 3 0 .nil (.ord 6 0 .nil (.ord 7 0 .nil .nil))))))))))) .nil))
noncomputable def plainGameResult_con:Con:=⟨[Zt2],true,[],Zt43,fun x=>qaH x.1,none⟩
noncomputable def qdn:Env:=(94,.rd plainGameCount_con)::(83,.con endsResult_con)::(93,.body Tryz.f93)::[]
theorem qhK (x:DL plainGameResult_con.ps):plainGameResult_con.φ x=denB Tryz.prog qdn qdE Tryz.f81 true plainGameResult_con.ps plainGameResult_con.one plainGameResult_con.res plainGameResult_con.ρ x:=by kernel_rfl
theorem qej:qpN Tryz.prog 81 plainGameResult_con :=
  qlJ (env:=qdn) ((EnvOK.readonly (EnvOK.cons (EnvOK.body (EnvOK.nil _) Tryz.func93) qiC) qjj)) mixed Tryz.func81 plainGameResult_con qdE (by kernel_rfl) (fun h=>by first | rfl | cases h) (fun g hg=>by cases hg) qhK
def qae:Ann:=(.ord 13 0 .nil (.ord 14 0 .nil (.ord 15 0 .nil (.ord 16 0 .nil (.ord 17 0 .nil .nil)))))
def qau:Ann:=(.alt (.ord 4 0 .nil (.ord 12 0 .nil qae)) (.ord 12 0 .nil (.ord 4 16367 .nil qae)))
def qa3:Ann:=(.ord 10 0 (.two .nil (.two (.tail 12 .nil) .nil)) (.ord 12 0 .nil qae))
def qD:Ann:=(.ord 8 0 .nil (.ord 9 0 .nil (.ord 10 0 .nil .nil)))
def qef:Ann:=(.alt (.ord 10 0 (.two .nil (.two (.tail 12 .nil) .nil)) (.ord 11 0 .nil (.ord 12 0 .nil qae))) (.ord 11 0 .nil qa3))
def qdZ:Ann:=(.alt (.ord 8 0 .nil qa3) (.ord 10 0 (.two .nil (.two (.tail 12 .nil) .nil)) (.ord 8 0 .nil (.ord 12 0 .nil qae))))
def qeC:Ann:=(.two .nil (.two (.two (.two .nil (.two .nil (.two (.join ⟨[0,3],[(9,.bool)],[]⟩ (.any 1695 0 (.ord 0 0 .nil (.ord 1 0 .nil (.ord 2 0 .nil (.ord 4 0 .nil (.alt (.ord 3 0 .nil (.alt (.ord 5 0 (.two .nil (.two (.tail 12 .nil) .nil)) (.alt (.ord 6 0 .nil (.ord 7 0 .nil qD)) (.ord 7 0 .nil (.ord 6 0 .nil qD)))) (.ord 7 0 .nil (.ord 5 0 (.two .nil (.two (.tail 12 .nil) .nil)) (.ord 6 0 .nil qD))))) (.alt (.ord 5 0 (.two .nil (.two (.tail 12 .nil) .nil)) (.ord 3 183 .nil (.alt (.ord 6 0 .nil (.ord 7 0 .nil qD)) (.ord 7 0 .nil (.ord 6 0 .nil qD))))) (.ord 7 0 .nil (.alt (.ord 3 0 .nil (.ord 5 0 (.two .nil (.two (.tail 12 .nil) .nil)) (.ord 6 0 .nil qD))) (.ord 5 0 (.two .nil (.two (.tail 12 .nil) .nil)) (.ord 3 0 .nil (.ord 6 0 .nil qD))))))))))))) .nil))) .nil) (.two (.join ⟨[0,3],[],[(0,some (.box Zt3)),(1,none),(2,none)]⟩ (.any 101375 8192 (.ord 0 0 .nil (.ord 1 0 .nil (.ord 2 0 .nil (.ord 3 0 .nil (.ord 5 0 .nil (.ord 6 0 .nil (.ord 7 0 .nil (.ord 9 0 .nil (.alt (.ord 4 0 .nil (.alt (.ord 8 0 .nil qef) (.alt (.ord 10 0 (.two .nil (.two (.tail 12 .nil) .nil)) (.ord 8 3839 .nil (.ord 11 0 .nil (.ord 12 0 .nil qae)))) (.ord 11 0 .nil qdZ)))) (.alt (.ord 8 0 .nil (.alt (.ord 4 0 .nil qef) (.alt (.ord 10 0 (.two .nil (.two (.tail 12 .nil) .nil)) (.ord 11 2047 .nil qau)) (.ord 11 0 .nil (.alt (.ord 4 0 .nil qa3) (.ord 10 0 (.two .nil (.two (.tail 12 .nil) .nil)) qau)))))) (.alt (.ord 10 0 (.two .nil (.two (.tail 12 .nil) .nil)) (.ord 8 3839 .nil (.ord 11 2047 .nil qau))) (.ord 11 0 .nil (.alt (.ord 4 0 .nil qdZ) (.alt (.ord 8 0 .nil (.alt (.ord 4 0 .nil qa3) (.ord 10 0 (.two .nil (.two (.tail 12 .nil) .nil)) qau))) (.ord 10 0 (.two .nil (.two (.tail 12 .nil) .nil)) (.ord 8 3839 .nil qau)))))))))))))))))) (.two (.any 831 64 (.ord 0 0 .nil (.ord 1 0 .nil (.ord 2 0 .nil (.ord 3 0 .nil (.ord 4 111 .nil (.ord 5 0 .nil (.ord 6 0 .nil (.ord 7 0 .nil qD))))))))) .nil))))
noncomputable def plainGamePlay_con:Ioc:=⟨Zt1,[Zt37],true,[],Zt43,fun x=>qbR x.1 x.2.1⟩
noncomputable def qeQ:Env:=(71,.con movesMake_con)::(86,.con slicesContains_Move_con)::(92,.con movesList_con)::(93,.body Tryz.f93)::(81,.rd plainGameResult_con)::[]
theorem qjm (x:DL (Zt1::[Zt37])):plainGamePlay_con.φ x=denIO Tryz.prog qeQ qeC Tryz.f79 Zt1 [Zt37] true [] Zt43 x:=by kernel_rfl
theorem qkB:IocOK Tryz.prog 79 plainGamePlay_con :=
  qsi (env:=qeQ) ((EnvOK.cons (EnvOK.cons (EnvOK.cons (EnvOK.body (EnvOK.readonly (EnvOK.nil _) qej) Tryz.func93) qgh) qcd) qj2)) mixed Tryz.func79 plainGamePlay_con qeC (by kernel_rfl) (fun h=>by first | rfl | cases h) qjm
def qcD:Ann:=(.two .nil (.two (.two (.two .nil (.two (.tail 12 .nil) .nil)) .nil) .nil))
noncomputable def plainGamePosition_con:Con:=⟨[Zt2],true,[],Zt17,fun x=>qaD x.1,none⟩
noncomputable def qcK:Env:=(93,.body Tryz.f93)::(87,.con placeCopy_con)::[]
theorem qgf (x:DL plainGamePosition_con.ps):plainGamePosition_con.φ x=denB Tryz.prog qcK qcD Tryz.f80 true plainGamePosition_con.ps plainGamePosition_con.one plainGamePosition_con.res plainGamePosition_con.ρ x:=by kernel_rfl
theorem qgY:qpN Tryz.prog 80 plainGamePosition_con :=
  qlJ (env:=qcK) ((EnvOK.body (EnvOK.cons (EnvOK.nil _) qkj) Tryz.func93)) mixed Tryz.func80 plainGamePosition_con qcD (by kernel_rfl) (fun h=>by first | rfl | cases h) (fun g hg=>by cases hg) qgf
def qkd:Ann:=(.two .nil (.two (.two (.two .nil (.two .nil (.two .nil (.two (.frz [3,4,5] (.join ⟨[],[(2,(.obx Zt1)),(3,Zt43)],[]⟩ (.any 213 40 (.ord 0 12 .nil (.alt (.ord 1 0 .nil (.ord 2 0 .nil (.ord 3 0 .nil (.ord 4 0 .nil (.ord 5 0 .nil (.ord 6 0 .nil (.ord 7 0 .nil .nil))))))) (.ord 2 0 .nil (.alt (.ord 1 0 .nil (.ord 3 0 .nil (.ord 4 0 .nil (.ord 5 0 .nil (.ord 6 0 .nil (.ord 7 0 .nil .nil)))))) (.ord 3 0 .nil (.ord 1 0 .nil (.ord 4 0 .nil (.ord 5 0 .nil (.ord 6 0 .nil (.ord 7 0 .nil .nil))))))))))))) .nil)))) .nil) (.sel 7 1000013 (.two .nil (.two (.two .nil (.joinE ⟨[4,7],[],[(1,some (.box Zt20)),(7,some (.box Zt3)),(8,none),(9,none)]⟩ (.two (.loop ⟨[4,7,21,22],[(23,Zt43)],[(1,some (.box Zt20)),(7,some (.box Zt3)),(8,none),(9,none)]⟩ .nil) .nil))) .nil)) (.two .nil (.two (.two .nil (.joinE ⟨[4,7],[],[]⟩ (.two (.loop ⟨[4,7,21,22],[(23,Zt43)],[]⟩ .nil) .nil))) .nil)))))
noncomputable def plainRun_con:Con:=⟨[Zt6,Zt36],false,[Zt17,Zt43,Zt43],(.st Zt17 Zt38),fun x=>qag x.1 x.2.1,none⟩
noncomputable def qkl:Env:=(81,.rd plainGameResult_con)::(80,.rd plainGamePosition_con)::(79,.io plainGamePlay_con)::(91,.con rulesCopy_con)::(48,.con placeBegin_con)::(78,.body Tryz.f78)::[]
theorem qpS (x:DL plainRun_con.ps):plainRun_con.φ x=denF Tryz.prog qkl qkd Tryz.f65 plainRun_con.ps plainRun_con.one plainRun_con.res plainRun_con.ρ x:=by kernel_rfl
theorem qq5:ConOK Tryz.prog 65 plainRun_con :=
  qc (env:=qkl) ((EnvOK.readonly (EnvOK.readonly (EnvOK.inout (EnvOK.cons (EnvOK.cons (EnvOK.body (EnvOK.nil _) Tryz.func78) qiq) qpa) qkB) qgY) qej)) mixed Tryz.func65 plainRun_con qkd (by kernel_rfl) (fun h=>by first | rfl | cases h) (fun g hg=>by cases hg) qpS
def qic:Ann:=(.two .nil (.two .nil (.two (.two .nil (.join ⟨[],[(3,Zt43)],[]⟩ (.two (.loop ⟨[0,6,7],[(3,Zt43),(8,Zt43)],[]⟩ (.two .nil (.two .nil (.two (.two (.two .nil (.two .nil (.join ⟨[0,6,7,8],[(3,Zt43)],[]⟩ .nil))) .nil) .nil)))) .nil))) .nil)))
noncomputable def ref3Times_con:Con:=⟨[Zt18],true,[],Zt43,fun x=>qie x.1,none⟩
noncomputable def qiB:Env:=(84,.con placeSame_con)::[]
theorem qnW (x:DL ref3Times_con.ps):ref3Times_con.φ x=denF Tryz.prog qiB qic Tryz.f69 ref3Times_con.ps ref3Times_con.one ref3Times_con.res ref3Times_con.ρ x:=by kernel_rfl
theorem qpD:ConOK Tryz.prog 69 ref3Times_con :=
  qc (env:=qiB) ((EnvOK.cons (EnvOK.nil _) qjR)) mixed Tryz.func69 ref3Times_con qic (by kernel_rfl) (fun h=>by first | rfl | cases h) (fun g hg=>by cases hg) qnW
def qhz:Ann := .nil
noncomputable def ref3Result_con:Con:=⟨[Zt6,Zt18],true,[],Zt43,fun x=>qeN x.1 x.2.1,none⟩
noncomputable def qg9:Env:=(69,.con ref3Times_con)::(68,.con endsOf_con)::[]
theorem qmo (x:DL ref3Result_con.ps):ref3Result_con.φ x=denF Tryz.prog qg9 qhz Tryz.f49 ref3Result_con.ps ref3Result_con.one ref3Result_con.res ref3Result_con.ρ x:=by kernel_rfl
theorem qoe:ConOK Tryz.prog 49 ref3Result_con :=
  qc (env:=qg9) ((EnvOK.cons (EnvOK.cons (EnvOK.nil _) endsOf_ok) qpD)) mixed Tryz.func49 ref3Result_con qhz (by kernel_rfl) (fun h=>by first | rfl | cases h) (fun g hg=>by cases hg) qmo
def qhv:Ann:=(.two .nil (.two .nil (.two .nil (.two .nil (.two (.two .nil (.joinE ⟨[],[(8,Zt16)],[(5,none)]⟩ (.two (.loop ⟨[2,23,24],[(8,Zt16),(25,Zt43)],[(5,none)]⟩ (.two .nil (.two .nil (.two (.two (.two .nil (.two .nil (.two (.join ⟨[2,8,23,24,25],[(11,(.obx Zt17)),(12,Zt43)],[]⟩ (.any 20223 4096 (.ord 0 4350 .nil (.ord 1 0 .nil (.ord 2 0 .nil (.ord 3 0 .nil (.ord 4 0 .nil (.ord 5 0 .nil (.ord 6 4287 .nil (.ord 7 4223 .nil (.alt (.ord 8 0 .nil (.ord 9 0 .nil (.ord 10 0 .nil (.ord 11 0 .nil (.ord 12 0 .nil (.ord 13 0 .nil (.ord 14 0 .nil .nil))))))) (.ord 12 0 .nil (.ord 8 0 .nil (.ord 9 0 .nil (.ord 10 0 .nil (.ord 11 0 .nil (.ord 13 0 .nil (.ord 14 0 .nil .nil)))))))))))))))))) .nil))) .nil) .nil)))) .nil))) .nil)))))
noncomputable def ref3Places_con:Con:=⟨[Zt6,Zt36],false,[Zt16,Zt43],(.st Zt16 Zt40),fun x=>qeR x.1 x.2.1,none⟩
noncomputable def qg0:Env:=(50,.con movesAfter_con)::(49,.con ref3Result_con)::(48,.con placeBegin_con)::[]
theorem qmr (x:DL ref3Places_con.ps):ref3Places_con.φ x=denF Tryz.prog qg0 qhv Tryz.f27 ref3Places_con.ps ref3Places_con.one ref3Places_con.res ref3Places_con.ρ x:=by kernel_rfl
theorem qnR:ConOK Tryz.prog 27 ref3Places_con :=
  qc (env:=qg0) ((EnvOK.cons (EnvOK.cons (EnvOK.cons (EnvOK.nil _) qiq) qoe) qnP)) mixed Tryz.func27 ref3Places_con qhv (by kernel_rfl) (fun h=>by first | rfl | cases h) (fun g hg=>by cases hg) qmr
def qfA:Ann:=(.two .nil (.two .nil (.two (.two .nil (.joinE ⟨[],[],[]⟩ (.two (.loop ⟨[0,1,12],[(13,Zt43)],[]⟩ .nil) .nil))) .nil)))
noncomputable def ref3SameLine_con:Con:=⟨[Zt36,Zt36],true,[],.bool,fun x=>qav x.1 x.2.1,none⟩
noncomputable def qfF:Env:=[]
theorem qkA (x:DL ref3SameLine_con.ps):ref3SameLine_con.φ x=denF Tryz.prog qfF qfA Tryz.f12 ref3SameLine_con.ps ref3SameLine_con.one ref3SameLine_con.res ref3SameLine_con.ρ x:=by kernel_rfl
theorem qf5:ConOK Tryz.prog 12 ref3SameLine_con :=
  qc (env:=qfF) ((EnvOK.nil _)) mixed Tryz.func12 ref3SameLine_con qfA (by kernel_rfl) (fun h=>by first | rfl | cases h) (fun g hg=>by cases hg) qkA
def qmd:Ann := .nil
noncomputable def law3Tic_con:Con:=⟨[],true,[],Zt4,fun x=>qli,some fun x=>qS⟩
noncomputable def qlv:Env:=[]
theorem qp7 (x:DL law3Tic_con.ps):law3Tic_con.φ x=denF Tryz.prog qlv qmd Tryz.f18 law3Tic_con.ps law3Tic_con.one law3Tic_con.res law3Tic_con.ρ x:=by kernel_rfl
theorem qsE:ConOK Tryz.prog 18 law3Tic_con :=
  qc (env:=qlv) ((EnvOK.nil _)) mixed Tryz.func18 law3Tic_con qmd (by kernel_rfl) (fun h=>by first | rfl | cases h) (fun g hg x=>by
    cases hg
    exact qsz ) qp7
def qj1:Ann := .nil
noncomputable def law3Drop_con:Con:=⟨[Zt43],true,[],Zt37,fun x=>qjt x.1,some fun x=>qiM x.1⟩
noncomputable def qki:Env:=[]
theorem qpO (x:DL law3Drop_con.ps):law3Drop_con.φ x=denF Tryz.prog qki qj1 Tryz.f19 law3Drop_con.ps law3Drop_con.one law3Drop_con.res law3Drop_con.ρ x:=by kernel_rfl
theorem qq9:ConOK Tryz.prog 19 law3Drop_con :=
  qc (env:=qki) ((EnvOK.nil _)) mixed Tryz.func19 law3Drop_con qj1 (by kernel_rfl) (fun h=>by first | rfl | cases h) (fun g hg x=>by
    cases hg
    exact qq4 _) qpO
def qii:Ann := .nil
noncomputable def law3Great_con:Con:=⟨[Zt6],true,[],.bool,fun x=>qh1 x.1,some fun x=>qgb x.1⟩
noncomputable def qiS:Env:=[]
theorem qnG (x:DL law3Great_con.ps):law3Great_con.φ x=denF Tryz.prog qiS qii Tryz.f7 law3Great_con.ps law3Great_con.one law3Great_con.res law3Great_con.ρ x:=by kernel_rfl
theorem qpG:ConOK Tryz.prog 7 law3Great_con :=
  qc (env:=qiS) ((EnvOK.nil _)) mixed Tryz.func7 law3Great_con qii (by kernel_rfl) (fun h=>by first | rfl | cases h) (fun g hg x=>by
    cases hg
    exact qpQ _) qnG
def qdR:Ann:=(.two .nil (.two (.two .nil (.joinE ⟨[],[],[]⟩ (.two (.loop ⟨[0,1,7],[(8,Zt43)],[]⟩ .nil) .nil))) .nil))
noncomputable def recordPrintable_con:Con:=⟨[.str,.str],true,[],.bool,fun x=>qbe x.1 x.2.1,none⟩
noncomputable def qdM:Env:=(76,.con qhx)::[]
theorem qhU (x:DL recordPrintable_con.ps):recordPrintable_con.φ x=denF Tryz.prog qdM qdR Tryz.f60 recordPrintable_con.ps recordPrintable_con.one recordPrintable_con.res recordPrintable_con.ρ x:=by kernel_rfl
theorem qdU:ConOK Tryz.prog 60 recordPrintable_con :=
  qc (env:=qdM) ((EnvOK.cons (EnvOK.nil _) qop)) mixed Tryz.func60 recordPrintable_con qdR (by kernel_rfl) (fun h=>by first | rfl | cases h) (fun g hg=>by cases hg) qhU
def qhu:Ann:=(.two .nil (.two (.two .nil (.joinE ⟨[],[],[]⟩ (.two (.loop ⟨[1,6,7],[(8,Zt43)],[]⟩ (.two .nil (.two .nil (.two (.two (.two .nil (.two (.two .nil (.two .nil (.two .nil (.two .nil (.two .nil (.two .nil (.two (.two (.two .nil (.two (.two (.two .nil (.two (.two .nil (.joinE ⟨[],[],[]⟩ (.two (.loop ⟨[0,1,7],[(8,Zt43)],[]⟩ .nil) .nil))) .nil)) .nil) .nil)) .nil) .nil))))))) .nil)) .nil) .nil)))) .nil))) .nil))
noncomputable def recordTags_con:Con:=⟨[Zt11],true,[],Zt43,fun x=>qgI x.1,none⟩
noncomputable def qg3:Env:=(61,.body Tryz.f61)::(47,.body Tryz.f47)::(24,.body Tryz.f24)::(60,.con recordPrintable_con)::(54,.con rulesName_con)::[]
theorem qmu (x:DL recordTags_con.ps):recordTags_con.φ x=denF Tryz.prog qg3 qhu Tryz.f38 recordTags_con.ps recordTags_con.one recordTags_con.res recordTags_con.ρ x:=by kernel_rfl
theorem qn2:ConOK Tryz.prog 38 recordTags_con :=
  qc (env:=qg3) ((EnvOK.body (EnvOK.body (EnvOK.body (EnvOK.cons (EnvOK.cons (EnvOK.nil _) qjT) qdU) Tryz.func24) Tryz.func47) Tryz.func61)) mixed Tryz.func38 recordTags_con qhu (by kernel_rfl) (fun h=>by first | rfl | cases h) (fun g hg=>by cases hg) qmu
def qeM:Ann := .nil
noncomputable def recordComment_con:Con:=⟨[.str],true,[],Zt43,fun x=>qbN x.1,none⟩
noncomputable def qeA:Env:=(60,.con recordPrintable_con)::[]
theorem qjA (x:DL recordComment_con.ps):recordComment_con.φ x=denF Tryz.prog qeA qeM Tryz.f39 recordComment_con.ps recordComment_con.one recordComment_con.res recordComment_con.ρ x:=by kernel_rfl
theorem qfy:ConOK Tryz.prog 39 recordComment_con :=
  qc (env:=qeA) ((EnvOK.cons (EnvOK.nil _) qdU)) mixed Tryz.func39 recordComment_con qeM (by kernel_rfl) (fun h=>by first | rfl | cases h) (fun g hg=>by cases hg) qjA
def qjY:Ann:=(.two .nil (.two (.two .nil (.joinE ⟨[1],[],[]⟩ (.two (.loop ⟨[1,3],[(7,Zt43)],[]⟩ .nil) .nil))) .nil))
noncomputable def recordOn_con:Con:=⟨[Zt11,Zt43,Zt43],true,[],.bool,fun x=>qgQ x.1 x.2.1 x.2.2.1,none⟩
noncomputable def qjM:Env:=[]
theorem qpg (x:DL recordOn_con.ps):recordOn_con.φ x=denF Tryz.prog qjM qjY Tryz.f62 recordOn_con.ps recordOn_con.one recordOn_con.res recordOn_con.ρ x:=by kernel_rfl
theorem qqQ:ConOK Tryz.prog 62 recordOn_con :=
  qc (env:=qjM) ((EnvOK.nil _)) mixed Tryz.func62 recordOn_con qjY (by kernel_rfl) (fun h=>by first | rfl | cases h) (fun g hg=>by cases hg) qpg
def qiW:Ann:=(.two .nil (.two .nil (.two (.two .nil (.join ⟨[],[(5,Zt35)],[]⟩ (.two (.loop ⟨[2],[(5,Zt35),(6,Zt43)],[]⟩ .nil) .nil))) (.two (.two (.two .nil (.join ⟨[],[],[(1,some (.arr 45 Zt37))]⟩ (.two (.loop ⟨[0],[(2,Zt43),(3,Zt43)],[(1,some (.arr 45 Zt37))]⟩ (.two .nil (.two (.two (.any 24575 0 (.ord 0 0 .nil (.ord 1 0 .nil (.ord 2 0 .nil (.ord 3 0 .nil (.ord 4 0 .nil (.ord 5 0 .nil (.ord 6 0 .nil (.ord 7 3967 .nil (.ord 8 0 .nil (.ord 9 0 .nil (.ord 10 0 .nil (.ord 11 0 .nil (.ord 12 0 .nil (.ord 13 0 .nil (.ord 14 0 .nil (.ord 15 0 .nil .nil))))))))))))))))) .nil) .nil))) .nil))) .nil) .nil))))
noncomputable def recordWay_con:Con:=⟨[Zt11,Zt43],true,[],Zt35,fun x=>qQ x.1 x.2.1,none⟩
noncomputable def qiV:Env:=(53,.body Tryz.f53)::[]
theorem qnx (x:DL recordWay_con.ps):recordWay_con.φ x=denF Tryz.prog qiV qiW Tryz.f36 recordWay_con.ps recordWay_con.one recordWay_con.res recordWay_con.ρ x:=by kernel_rfl
theorem qke:ConOK Tryz.prog 36 recordWay_con :=
  qc (env:=qiV) ((EnvOK.body (EnvOK.nil _) Tryz.func53)) mixed Tryz.func36 recordWay_con qiW (by kernel_rfl) (fun h=>by first | rfl | cases h) (fun g hg=>by cases hg) qnx
def qb6:Ann:=(.ord 4 0 .nil (.ord 5 0 .nil (.ord 6 0 .nil (.ord 7 0 .nil (.ord 8 0 .nil (.ord 10 0 .nil (.ord 11 0 .nil (.ord 12 0 .nil .nil))))))))
def qgr:Ann:=(.alt (.ord 4 0 .nil (.ord 5 0 .nil (.ord 6 0 .nil (.ord 7 0 .nil (.ord 8 0 .nil (.ord 9 0 .nil (.ord 10 0 .nil (.ord 11 0 .nil (.ord 12 0 .nil .nil))))))))) (.ord 9 0 .nil qb6))
def qhl:Ann:=(.two .nil (.two .nil (.two .nil (.two .nil (.two (.two .nil (.join ⟨[2,3,4,5,9],[],[(0,some (.arr 3 Zt43))]⟩ .nil)) (.two (.two .nil (.joinE ⟨[2,3,4,5,9],[],[]⟩ (.two (.loop ⟨[2,3,4,5,9,54,55],[(56,Zt43)],[]⟩ (.two .nil (.two .nil (.two (.joinE ⟨[2,3,4,5,9,54,55,56],[],[]⟩ .nil) .nil)))) .nil))) (.two (.two (.two (.two .nil (.two (.two (.two .nil (.two (.two .nil (.joinE ⟨[],[],[]⟩ (.two (.loop ⟨[0,1,7],[(8,Zt43)],[]⟩ .nil) .nil))) .nil)) .nil) .nil)) .nil) (.sel 4 1000005 (.join ⟨[2,3,4,5],[],[(0,some (.arr 3 Zt43))]⟩ .nil) .nil)) (.two (.two (.join ⟨[2,3],[(15,Zt43)],[]⟩ (.any 6631 512 (.ord 1 517 .nil (.ord 2 0 .nil (.alt (.ord 0 0 .nil (.alt (.ord 3 0 .nil qgr) (.ord 9 0 .nil (.ord 3 0 .nil qb6)))) (.alt (.ord 3 0 .nil (.ord 0 526 .nil qgr)) (.ord 9 0 .nil (.alt (.ord 0 0 .nil (.ord 3 0 .nil qb6)) (.ord 3 0 .nil (.ord 0 0 .nil qb6)))))))))) .nil) .nil))))))))
noncomputable def recordNode_con:Roc:=⟨3,3,Zt43,[Zt6,Zt11,Zt43],true,[],Zt43,fun x=>qdi x.1 x.2.1 x.2.2.1 x.2.2.2.1⟩
noncomputable def qhq:Env:=(65,.con plainRun_con)::(36,.con recordWay_con)::(64,.body Tryz.f64)::(77,.body Tryz.f77)::(63,.body Tryz.f63)::(62,.con recordOn_con)::(39,.con recordComment_con)::[]
theorem qmi (x:DL (Zt41::[Zt6,Zt11,Zt43])):recordNode_con.φ x=denRO Tryz.prog qhq qhl Tryz.f40 3 3 Zt43 [Zt6,Zt11,Zt43] true [] Zt43 x:=by kernel_rfl
theorem qok:RocOK Tryz.prog 40 recordNode_con :=
  qs3 (env:=qhq) ((EnvOK.cons (EnvOK.cons (EnvOK.body (EnvOK.body (EnvOK.body (EnvOK.cons (EnvOK.cons (EnvOK.nil _) qfy) qqQ) Tryz.func63) Tryz.func77) Tryz.func64) qke) qq5)) mixed Tryz.func40 recordNode_con qhl (by kernel_rfl) (fun h=>by first | rfl | cases h) qmi
def qfU:Ann:=(.two .nil (.two .nil (.two .nil (.two .nil (.two .nil (.two .nil (.two .nil (.two (.two .nil (.joinE ⟨[],[],[(2,some (.arr 3 Zt43))]⟩ (.two (.loop ⟨[2,3,8,51],[(52,Zt43)],[(2,some (.arr 3 Zt43))]⟩ .nil) .nil))) .nil))))))))
noncomputable def recordCheck_con:Con:=⟨[Zt6,Zt11],true,[],Zt43,fun x=>qbF x.1 x.2.1,none⟩
noncomputable def qgm:Env:=(40,.ro recordNode_con)::(39,.con recordComment_con)::(38,.con recordTags_con)::(37,.con rulesCheck_con)::[]
theorem qk0 (x:DL recordCheck_con.ps):recordCheck_con.φ x=denF Tryz.prog qgm qfU Tryz.f20 recordCheck_con.ps recordCheck_con.one recordCheck_con.res recordCheck_con.ρ x:=by kernel_rfl
theorem qg4:ConOK Tryz.prog 20 recordCheck_con :=
  qc (env:=qgm) ((EnvOK.rowio (EnvOK.cons (EnvOK.cons (EnvOK.cons (EnvOK.nil _) qfe) qn2) qfy) qok)) mixed Tryz.func20 recordCheck_con qfU (by kernel_rfl) (fun h=>by first | rfl | cases h) (fun g hg=>by cases hg) qk0
def qht:Ann:=(.two .nil (.two .nil (.two (.two .nil (.join ⟨[],[(5,Zt41)],[]⟩ (.two (.loop ⟨[1,9,10],[(5,Zt41),(11,Zt43)],[]⟩ (.two .nil (.two .nil (.two (.two (.two .nil (.two .nil (.join ⟨[1,9,10,11],[(5,Zt41)],[(1,none)]⟩ .nil))) .nil) .nil)))) .nil))) .nil)))
noncomputable def recordKids_con:Con:=⟨[Zt11,Zt43],true,[],Zt41,fun x=>qgJ x.1 x.2.1,none⟩
noncomputable def qho:Env:=[]
theorem qmp (x:DL recordKids_con.ps):recordKids_con.φ x=denF Tryz.prog qho qht Tryz.f41 recordKids_con.ps recordKids_con.one recordKids_con.res recordKids_con.ρ x:=by kernel_rfl
theorem qom:ConOK Tryz.prog 41 recordKids_con :=
  qc (env:=qho) ((EnvOK.nil _)) mixed Tryz.func41 recordKids_con qht (by kernel_rfl) (fun h=>by first | rfl | cases h) (fun g hg=>by cases hg) qmp
def qj4:Ann:=(.two .nil (.two .nil (.two (.two .nil (.joinE ⟨[],[],[]⟩ (.two (.loop ⟨[23,24],[(25,Zt43)],[]⟩ .nil) .nil))) .nil)))
noncomputable def ref3Name_con:Con:=⟨[.str],true,[],.bool,fun x=>qkM x.1,none⟩
noncomputable def qj5:Env:=[]
theorem qoD (x:DL ref3Name_con.ps):ref3Name_con.φ x=denF Tryz.prog qj5 qj4 Tryz.f28 ref3Name_con.ps ref3Name_con.one ref3Name_con.res ref3Name_con.ρ x:=by kernel_rfl
theorem qqD:ConOK Tryz.prog 28 ref3Name_con :=
  qc (env:=qj5) ((EnvOK.nil _)) mixed Tryz.func28 ref3Name_con qj4 (by kernel_rfl) (fun h=>by first | rfl | cases h) (fun g hg=>by cases hg) qoD
def qkb:Ann:=(.two .nil (.two (.two .nil (.joinE ⟨[],[],[]⟩ (.two (.loop ⟨[1,10,11],[(12,Zt43)],[]⟩ (.two .nil (.two .nil (.two (.joinE ⟨[1,10,11,12],[],[]⟩ (.two (.two .nil (.two (.two .nil (.joinE ⟨[1,6,10,11,12],[],[]⟩ (.two (.loop ⟨[1,6,10,11,12,17,18],[(19,Zt43)],[]⟩ .nil) .nil))) .nil)) .nil)) .nil)))) .nil))) .nil))
noncomputable def ref3Fine_con:Con:=⟨[.str,.str],true,[],.bool,fun x=>qgC x.1 x.2.1,none⟩
noncomputable def qjV:Env:=[]
theorem qoU (x:DL ref3Fine_con.ps):ref3Fine_con.φ x=denF Tryz.prog qjV qkb Tryz.f29 ref3Fine_con.ps ref3Fine_con.one ref3Fine_con.res ref3Fine_con.ρ x:=by kernel_rfl
theorem qqC:ConOK Tryz.prog 29 ref3Fine_con :=
  qc (env:=qjV) ((EnvOK.nil _)) mixed Tryz.func29 ref3Fine_con qkb (by kernel_rfl) (fun h=>by first | rfl | cases h) (fun g hg=>by cases hg) qoU
def qi9:Ann:=(.two .nil (.two (.join ⟨[1],[(2,Zt43)],[]⟩ (.two (.loop ⟨[0,1],[(2,Zt43)],[]⟩ .nil) .nil)) .nil))
noncomputable def ref3Above_con:Con:=⟨[Zt24,Zt43,Zt43],true,[],.bool,fun x=>qeu x.1 x.2.1 x.2.2.1,none⟩
noncomputable def qiH:Env:=[]
theorem qnI (x:DL ref3Above_con.ps):ref3Above_con.φ x=denF Tryz.prog qiH qi9 Tryz.f30 ref3Above_con.ps ref3Above_con.one ref3Above_con.res ref3Above_con.ρ x:=by kernel_rfl
theorem qoL:ConOK Tryz.prog 30 ref3Above_con :=
  qc (env:=qiH) ((EnvOK.nil _)) mixed Tryz.func30 ref3Above_con qi9 (by kernel_rfl) (fun h=>by first | rfl | cases h) (fun g hg=>by cases hg) qnI
def qk8:Ann := .nil
noncomputable def ref3Way_con:Con:=⟨[Zt24,Zt43],false,[Zt35,.bool],Zt27,fun x=>qkV x.1 x.2.1,none⟩
noncomputable def qlk (φ:DL [Zt24,Zt43]→Option (D Zt27)):Env:=(16,.con ⟨[Zt24,Zt43],false,[Zt35,.bool],Zt27,φ,none⟩)::[]
theorem qqz (φ:DL [Zt24,Zt43]→Option (D Zt27)) (x:DL [Zt24,Zt43]):qcC φ x=denF Tryz.prog (qlk φ) qk8 Tryz.f16 ref3Way_con.ps ref3Way_con.one ref3Way_con.res ref3Way_con.ρ x:=by kernel_rfl
theorem qjx:ConOK Tryz.prog 16 ref3Way_con :=
  con_fix (ps:=[Zt24,Zt43]) (ρ:=Zt27) (G:=qcC) (by kernel_rfl) (fun h=>by first | rfl | cases h) fun φ hφ =>
  qc (env:=qlk φ) ((EnvOK.cons (EnvOK.nil _) hφ)) mixed Tryz.func16 ⟨[Zt24,Zt43],false,[Zt35,.bool],Zt27,qcC φ,none⟩ qk8 (by kernel_rfl) (fun h=>by first | rfl | cases h) (fun g hg=>by cases hg) (qqz φ)
def qhr:Ann:=(.two .nil (.two .nil (.two (.join ⟨[],[(5,Zt43)],[]⟩ (.two (.loop ⟨[0],[(1,Zt43),(5,Zt43)],[]⟩ (.two .nil (.two (.join ⟨[0,1],[(5,Zt43)],[]⟩ (.two (.two .nil (.join ⟨[0,1],[(5,Zt43)],[]⟩ (.two (.loop ⟨[0,1,14],[(5,Zt43),(15,Zt43)],[]⟩ .nil) .nil))) .nil)) .nil))) .nil)) .nil)))
noncomputable def ref3Within_con:Con:=⟨[Zt24,Zt43],true,[],Zt43,fun x=>qdm x.1 x.2.1,none⟩
noncomputable def qg8:Env:=[]
theorem qmh (x:DL ref3Within_con.ps):ref3Within_con.φ x=denF Tryz.prog qg8 qhr Tryz.f31 ref3Within_con.ps ref3Within_con.one ref3Within_con.res ref3Within_con.ρ x:=by kernel_rfl
theorem qof:ConOK Tryz.prog 31 ref3Within_con :=
  qc (env:=qg8) ((EnvOK.nil _)) mixed Tryz.func31 ref3Within_con qhr (by kernel_rfl) (fun h=>by first | rfl | cases h) (fun g hg=>by cases hg) qmh
def qdO:Ann:=(.two .nil (.two .nil (.two .nil (.two (.two .nil (.joinE ⟨[2,3],[],[]⟩ (.two (.loop ⟨[2,3,37,38],[(39,Zt43)],[]⟩ (.two .nil (.two .nil (.two (.joinE ⟨[2,3,37,38,39],[],[]⟩ (.two (.two .nil (.two .nil (.two .nil (.joinE ⟨[2,3,37,38,39],[],[]⟩ (.two (.loop ⟨[2,3,8,37,38,39,59],[(60,Zt43)],[]⟩ .nil) .nil))))) .nil)) .nil)))) .nil))) (.two .nil (.two (.two .nil (.joinE ⟨[3],[],[]⟩ (.two (.loop ⟨[2,3,94,95],[(96,Zt43)],[]⟩ (.two .nil (.two .nil (.two (.joinE ⟨[2,3,94,95,96],[],[]⟩ (.two (.two .nil (.two .nil (.two .nil (.two .nil (.two (.two .nil (.joinE ⟨[2,3,10,94,95,96],[],[]⟩ (.two (.loop ⟨[2,3,10,11,94,95,96,146],[(147,Zt43)],[]⟩ .nil) .nil))) .nil))))) .nil)) .nil)))) .nil))) (.two (.two .nil (.joinE ⟨[],[],[]⟩ (.two (.loop ⟨[3,190],[(191,Zt43)],[]⟩ .nil) .nil))) .nil)))))))
noncomputable def ref3RecordFault_con:Con:=⟨[Zt6,Zt11],true,[],Zt43,fun x=>qM x.1 x.2.1,none⟩
noncomputable def qdG:Env:=(31,.con ref3Within_con)::(16,.con ref3Way_con)::(30,.con ref3Above_con)::(29,.con ref3Fine_con)::(28,.con ref3Name_con)::(27,.con ref3Places_con)::[]
theorem qhW (x:DL ref3RecordFault_con.ps):ref3RecordFault_con.φ x=denF Tryz.prog qdG qdO Tryz.f9 ref3RecordFault_con.ps ref3RecordFault_con.one ref3RecordFault_con.res ref3RecordFault_con.ρ x:=by kernel_rfl
theorem qi0:ConOK Tryz.prog 9 ref3RecordFault_con :=
  qc (env:=qdG) ((EnvOK.cons (EnvOK.cons (EnvOK.cons (EnvOK.cons (EnvOK.cons (EnvOK.cons (EnvOK.nil _) qnR) qqD) qqC) qoL) qjx) qof)) mixed Tryz.func9 ref3RecordFault_con qdO (by kernel_rfl) (fun h=>by first | rfl | cases h) (fun g hg=>by cases hg) qhW
def qim:Ann := .nil
noncomputable def law3Short_con:Con:=⟨[Zt11],true,[],Zt11,fun x=>qf0 x.1,none⟩
noncomputable def qig:Env:=[]
theorem qn5 (x:DL law3Short_con.ps):law3Short_con.φ x=denF Tryz.prog qig qim Tryz.f6 law3Short_con.ps law3Short_con.one law3Short_con.res law3Short_con.ρ x:=by kernel_rfl
theorem qox:ConOK Tryz.prog 6 law3Short_con :=
  qc (env:=qig) ((EnvOK.nil _)) mixed Tryz.func6 law3Short_con qim (by kernel_rfl) (fun h=>by first | rfl | cases h) (fun g hg=>by cases hg) qn5
def qdC:Ann := .nil
noncomputable def annotateChecked_con:Con:=⟨[Zt6,Zt11,Zt43],true,[],Zt43,fun x=>qX x.1 x.2.1 x.2.2.1,none⟩
noncomputable def qdK:Env:=(20,.con recordCheck_con)::[]
theorem qhH (x:DL annotateChecked_con.ps):annotateChecked_con.φ x=denF Tryz.prog qdK qdC Tryz.f32 annotateChecked_con.ps annotateChecked_con.one annotateChecked_con.res annotateChecked_con.ρ x:=by kernel_rfl
theorem qbV:ConOK Tryz.prog 32 annotateChecked_con :=
  qc (env:=qdK) ((EnvOK.cons (EnvOK.nil _) qg4)) mixed Tryz.func32 annotateChecked_con qdC (by kernel_rfl) (fun h=>by first | rfl | cases h) (fun g hg=>by cases hg) qhH
def qfu:Ann := .nil
noncomputable def annotatePath_con:Con:=⟨[Zt6,Zt11,Zt43],false,[Zt35,Zt43],Zt26,fun x=>qcJ x.1 x.2.1 x.2.2.1,none⟩
noncomputable def qfC:Env:=(36,.con recordWay_con)::(32,.con annotateChecked_con)::[]
theorem qkz (x:DL annotatePath_con.ps):annotatePath_con.φ x=denF Tryz.prog qfC qfu Tryz.f17 annotatePath_con.ps annotatePath_con.one annotatePath_con.res annotatePath_con.ρ x:=by kernel_rfl
theorem qkS:ConOK Tryz.prog 17 annotatePath_con :=
  qc (env:=qfC) ((EnvOK.cons (EnvOK.cons (EnvOK.nil _) qbV) qke)) mixed Tryz.func17 annotatePath_con qfu (by kernel_rfl) (fun h=>by first | rfl | cases h) (fun g hg=>by cases hg) qkz
def qeP:Ann := .nil
noncomputable def law3Annotates_con:Con:=⟨[],true,[],.bool,fun x=>qc5,none⟩
noncomputable def qeS:Env:=(17,.con annotatePath_con)::(19,.con law3Drop_con)::(18,.con law3Tic_con)::[]
theorem qjv (x:DL law3Annotates_con.ps):law3Annotates_con.φ x=denF Tryz.prog qeS qeP Tryz.f5 law3Annotates_con.ps law3Annotates_con.one law3Annotates_con.res law3Annotates_con.ρ x:=by kernel_rfl
theorem qkv:ConOK Tryz.prog 5 law3Annotates_con :=
  qc (env:=qeS) ((EnvOK.cons (EnvOK.cons (EnvOK.cons (EnvOK.nil _) qsE) qq9) qkS)) mixed Tryz.func5 law3Annotates_con qeP (by kernel_rfl) (fun h=>by first | rfl | cases h) (fun g hg=>by cases hg) qjv
def qfw:Ann:=(.two .nil (.two .nil (.two (.two .nil (.join ⟨[],[(7,(.osl 79 .ref))],[(0,some (.arr 79 .ref)),(1,some (.ar 78 Zt30 (some 79)))]⟩ (.two (.loop ⟨[2,3,13,14],[(7,(.osl 79 .ref)),(15,Zt43)],[(0,some (.arr 79 .ref)),(1,some (.ar 78 Zt30 (some 79)))]⟩ (.two .nil (.two .nil (.two (.two (.two .nil (.two (.tail 13 .nil) .nil)) .nil) .nil)))) .nil))) .nil)))
noncomputable def qcQ:Goc:=⟨(.osl 79 .ref),.nil,[Zt11,Zt43],[2,2,0],(some (78,Zt30,some 79)),none,true,[],(.osl 79 .ref),fun x=>qcG x.1 x.2.2.1 x.2.2.2.1 x.2.2.2.2.1⟩
noncomputable def qfE (φ:DL ((.osl 79 .ref) :: .nil::arT (some (78,Zt30,some 79))::[Zt11,Zt43])→Option (D (.st (.osl 79 .ref) (.st (arT (some (78,Zt30,some 79))) (.osl 79 .ref))))):Env:=(21,.go ⟨(.osl 79 .ref),.nil,[Zt11,Zt43],[2,2,0],(some (78,Zt30,some 79)),none,true,[],(.osl 79 .ref),φ⟩)::(41,.con recordKids_con)::[]
theorem qky (φ:DL ((.osl 79 .ref) :: .nil::arT (some (78,Zt30,some 79))::[Zt11,Zt43])→Option (D (.st (.osl 79 .ref) (.st (arT (some (78,Zt30,some 79))) (.osl 79 .ref))))) (x:DL ((.osl 79 .ref) :: .nil::arT (some (78,Zt30,some 79))::[Zt11,Zt43])):qJ φ x=denGO Tryz.prog (qfE φ) qfw Tryz.f21 (.osl 79 .ref) .nil [Zt11,Zt43] [2,2,0] (some (78,Zt30,some 79)) none true [] (.osl 79 .ref) x:=by kernel_rfl
theorem qgd:GocOK Tryz.prog 21 qcQ :=
  go_fix (tp:=(.osl 79 .ref)) (mv := .nil) (ps:=[Zt11,Zt43]) (sg:=[2,2,0]) (ar:=(some (78,Zt30,some 79))) (cl:=none) (ρ:=(.osl 79 .ref)) (G:=qJ) (by kernel_rfl) (by kernel_rfl) (fun h=>by first | rfl | cases h) fun φ hφ =>
  qkT (env:=qfE φ) ((EnvOK.general (EnvOK.cons (EnvOK.nil _) qom) hφ)) mixed Tryz.func21 ⟨(.osl 79 .ref),.nil,[Zt11,Zt43],[2,2,0],(some (78,Zt30,some 79)),none,true,[],(.osl 79 .ref),qJ φ⟩ qfw (by kernel_rfl) (fun h=>by first | rfl | cases h) (qky φ)
def qbu:Ann := .nil
noncomputable def slicesClone_RecordTag_con:Con:=⟨[(.sl Zt39)],true,[],(.osl 64 Zt39),fun x=>qf x.1,none⟩
noncomputable def qbs:Env:=[]
theorem qer (x:DL slicesClone_RecordTag_con.ps):slicesClone_RecordTag_con.φ x=denF Tryz.prog qbs qbu Tryz.f42 slicesClone_RecordTag_con.ps slicesClone_RecordTag_con.one slicesClone_RecordTag_con.res slicesClone_RecordTag_con.ρ x:=by kernel_rfl
theorem qbK:ConOK Tryz.prog 42 slicesClone_RecordTag_con :=
  qc (env:=qbs) ((EnvOK.nil _)) mixed Tryz.func42 slicesClone_RecordTag_con qbu (by kernel_rfl) (fun h=>by first | rfl | cases h) (fun g hg=>by cases hg) qer
def qeO:Ann:=(.two .nil (.join ⟨[],[],[(0,some (.box Zt21)),(1,none),(3,some (.ar 78 (.st Zt37 (.st .str (.st (.sl .ref) .nil))) none))]⟩ (.two (.loop ⟨[1,2,3,9,10],[(11,Zt43)],[(0,some (.box Zt21)),(1,none),(3,some (.ar 78 (.st Zt37 (.st .str (.st (.sl .ref) .nil))) none))]⟩ (.two .nil (.two .nil (.two (.two (.two .nil (.two .nil (.two (.any 2047 2048 (.ord 0 4094 .nil (.ord 1 0 .nil (.ord 2 0 .nil (.ord 3 0 .nil (.ord 4 0 .nil (.ord 5 991 .nil (.ord 6 0 .nil (.ord 7 0 .nil (.ord 8 0 .nil (.ord 9 0 .nil (.ord 10 0 .nil (.ord 11 0 .nil (.ord 12 0 .nil (.ord 13 0 .nil .nil))))))))))))))) (.tail 6 .nil)))) .nil) .nil)))) .nil)))
noncomputable def qez:Goc:=⟨Zt22,.nil,[(.sl .ref),Zt43],[2,2,0,0],(some (78,(.st Zt37 (.st .str (.st (.sl .ref) .nil))),none)),(some 66),false,[],.nil,fun x=>qeX x.1 x.2.2.1 x.2.2.2.1 x.2.2.2.2.1⟩
noncomputable def qeF (φ:DL (Zt22 :: .nil::arT (some (78,(.st Zt37 (.st .str (.st (.sl .ref) .nil))),none))::[(.sl .ref),Zt43])→Option (D (.st Zt22 (.st (arT (some (78,(.st Zt37 (.st .str (.st (.sl .ref) .nil))),none))) .nil)))):Env:=(66,.go ⟨Zt22,.nil,[(.sl .ref),Zt43],[2,2,0,0],(some (78,(.st Zt37 (.st .str (.st (.sl .ref) .nil))),none)),(some 66),false,[],.nil,φ⟩)::[]
theorem qjh (φ:DL (Zt22 :: .nil::arT (some (78,(.st Zt37 (.st .str (.st (.sl .ref) .nil))),none))::[(.sl .ref),Zt43])→Option (D (.st Zt22 (.st (arT (some (78,(.st Zt37 (.st .str (.st (.sl .ref) .nil))),none))) .nil)))) (x:DL (Zt22 :: .nil::arT (some (78,(.st Zt37 (.st .str (.st (.sl .ref) .nil))),none))::[(.sl .ref),Zt43])):qE φ x=denGO Tryz.prog (qeF φ) qeO Tryz.f66 Zt22 .nil [(.sl .ref),Zt43] [2,2,0,0] (some (78,(.st Zt37 (.st .str (.st (.sl .ref) .nil))),none)) (some 66) false [] .nil x:=by kernel_rfl
theorem qkw:GocOK Tryz.prog 66 qez :=
  go_fix (tp:=Zt22) (mv := .nil) (ps:=[(.sl .ref),Zt43]) (sg:=[2,2,0,0]) (ar:=(some (78,(.st Zt37 (.st .str (.st (.sl .ref) .nil))),none))) (cl:=(some 66)) (ρ := .nil) (G:=qE) (by kernel_rfl) (by kernel_rfl) (fun h=>by first | rfl | cases h) fun φ hφ =>
  qkT (env:=qeF φ) ((EnvOK.general (EnvOK.nil _) hφ)) mixed Tryz.func66 ⟨Zt22,.nil,[(.sl .ref),Zt43],[2,2,0,0],(some (78,(.st Zt37 (.st .str (.st (.sl .ref) .nil))),none)),(some 66),false,[],.nil,qE φ⟩ qeO (by kernel_rfl) (fun h=>by first | rfl | cases h) (qjh φ)
def qfB:Ann := .nil
noncomputable def annotateFlat_con:Goc:=⟨.nil,.nil,[(.sl .ref)],[2],(some (78,(.st Zt37 (.st .str (.st (.sl .ref) .nil))),none)),none,true,[],Zt23,fun x=>qd x.2.2.1 x.2.2.2.1⟩
noncomputable def qfv:Env:=(66,.go qez)::[]
theorem qku (x:DL (.nil :: .nil::arT (some (78,(.st Zt37 (.st .str (.st (.sl .ref) .nil))),none))::[(.sl .ref)])):annotateFlat_con.φ x=denGO Tryz.prog qfv qfB Tryz.f43 .nil .nil [(.sl .ref)] [2] (some (78,(.st Zt37 (.st .str (.st (.sl .ref) .nil))),none)) none true [] Zt23 x:=by kernel_rfl
theorem qf9:GocOK Tryz.prog 43 annotateFlat_con :=
  qkT (env:=qfv) ((EnvOK.general (EnvOK.nil _) qkw)) mixed Tryz.func43 annotateFlat_con qfB (by kernel_rfl) (fun h=>by first | rfl | cases h) qku
def qfz:Ann:=(.any 955 0 (.ord 0 0 .nil (.ord 1 441 .nil (.ord 3 0 .nil (.ord 5 0 .nil (.ord 7 0 .nil (.alt (.ord 2 0 .nil (.alt (.ord 4 0 .nil (.alt (.ord 6 0 .nil (.ord 8 0 .nil (.ord 9 0 .nil (.ord 10 0 .nil .nil)))) (.ord 8 0 .nil (.ord 6 0 .nil (.ord 9 0 .nil (.ord 10 0 .nil .nil)))))) (.alt (.ord 6 0 .nil (.ord 4 495 .nil (.ord 8 0 .nil (.ord 9 0 .nil (.ord 10 0 .nil .nil))))) (.ord 8 0 .nil (.alt (.ord 4 0 .nil (.ord 6 0 .nil (.ord 9 0 .nil (.ord 10 0 .nil .nil)))) (.ord 6 0 .nil (.ord 4 0 .nil (.ord 9 0 .nil (.ord 10 0 .nil .nil))))))))) (.alt (.ord 4 0 .nil (.alt (.ord 2 0 .nil (.alt (.ord 6 0 .nil (.ord 8 0 .nil (.ord 9 0 .nil (.ord 10 0 .nil .nil)))) (.ord 8 0 .nil (.ord 6 0 .nil (.ord 9 0 .nil (.ord 10 0 .nil .nil)))))) (.ord 8 0 .nil (.ord 2 0 .nil (.ord 6 0 .nil (.ord 9 0 .nil (.ord 10 0 .nil .nil))))))) (.ord 8 0 .nil (.alt (.ord 2 0 .nil (.alt (.ord 4 0 .nil (.ord 6 0 .nil (.ord 9 0 .nil (.ord 10 0 .nil .nil)))) (.ord 6 0 .nil (.ord 4 0 .nil (.ord 9 0 .nil (.ord 10 0 .nil .nil)))))) (.ord 4 0 .nil (.ord 2 0 .nil (.ord 6 0 .nil (.ord 9 0 .nil (.ord 10 0 .nil .nil)))))))))))))))
def qfr:Ann:=(.join ⟨[4,6,10,11],[(13,Zt43)],[]⟩ (.tail 7 (.two (.two .nil (.two (.two .nil (.joinE ⟨[],[],[]⟩ (.two (.loop ⟨[0,1,7],[(8,Zt43)],[]⟩ .nil) .nil))) .nil)) .nil)))
def qgo:Ann:=(.two .nil (.two .nil (.two .nil (.two .nil (.two .nil (.two .nil (.slk 11 (.two qfr (.two .nil (.two (.two (.fra (.two .nil (.two (.frz [5] (.join ⟨[4],[],[(12,some (.ar 78 (.st Zt37 (.st .str (.st (.sl .ref) .nil))) none)),(14,some (.box Zt9))]⟩ qfz)) .nil))) .nil) .nil))) (.two qfr (.two .nil (.two (.two (.fra (.two .nil (.two (.frz [8] (.join ⟨[4],[],[(9,some (.ar 78 (.st Zt37 (.st .str (.st (.sl .ref) .nil))) none)),(11,some (.box Zt9))]⟩ qfz)) .nil))) .nil) .nil))))))))))
noncomputable def annotateCut_con:Con:=⟨[Zt6,Zt11,Zt43],false,[Zt9,Zt43],(.st Zt9 Zt40),fun x=>qbE x.1 x.2.1 x.2.2.1,none⟩
noncomputable def qgk:Env:=(43,.go annotateFlat_con)::(42,.con slicesClone_RecordTag_con)::(22,.body Tryz.f22)::(34,.del delBr_del)::(33,.body Tryz.f33)::(21,.go qcQ)::(32,.con annotateChecked_con)::[]
theorem qln (x:DL annotateCut_con.ps):annotateCut_con.φ x=denA Tryz.prog qgk qgo Tryz.f14 (78,Zt30,some 79) annotateCut_con.ps annotateCut_con.one annotateCut_con.res annotateCut_con.ρ x:=by kernel_rfl
theorem qml:ConOK Tryz.prog 14 annotateCut_con :=
  ql2 (env:=qgk) ((EnvOK.general (EnvOK.cons (EnvOK.body (EnvOK.delete (EnvOK.body (EnvOK.general (EnvOK.cons (EnvOK.nil _) qbV) qgd) Tryz.func33) qrI) Tryz.func22) qbK) qf9)) mixed Tryz.func14 annotateCut_con (78,Zt30,some 79) qgo (by kernel_rfl) (fun h=>by first | rfl | cases h) (fun g hg=>by cases hg) qln
def qeG:Ann := .nil
noncomputable def annotateSized_con:Con:=⟨[Zt6,Zt11],false,[Zt11,Zt43],Zt8,fun x=>qbj x.1 x.2.1,none⟩
noncomputable def qev:Env:=(20,.con recordCheck_con)::[]
theorem qje (x:DL annotateSized_con.ps):annotateSized_con.φ x=denF Tryz.prog qev qeG Tryz.f26 annotateSized_con.ps annotateSized_con.one annotateSized_con.res annotateSized_con.ρ x:=by kernel_rfl
theorem qkx:ConOK Tryz.prog 26 annotateSized_con :=
  qc (env:=qev) ((EnvOK.cons (EnvOK.nil _) qg4)) mixed Tryz.func26 annotateSized_con qeG (by kernel_rfl) (fun h=>by first | rfl | cases h) (fun g hg=>by cases hg) qje
def qcX:Ann:=(.two .nil (.two (.join ⟨[4],[],[(10,some (.ar 78 (.st Zt37 (.st .str (.st (.sl .ref) .nil))) none)),(12,some (.box Zt9))]⟩ (.any 955 0 (.ord 0 0 .nil (.ord 1 441 .nil (.ord 3 0 .nil (.ord 5 0 .nil (.ord 7 0 .nil (.alt (.ord 2 0 .nil (.alt (.ord 4 0 .nil (.alt (.ord 6 0 .nil (.ord 8 0 .nil (.ord 9 0 .nil (.ord 10 0 .nil .nil)))) (.ord 8 0 .nil (.ord 6 0 .nil (.ord 9 0 .nil (.ord 10 0 .nil .nil)))))) (.alt (.ord 6 0 .nil (.ord 4 495 .nil (.ord 8 0 .nil (.ord 9 0 .nil (.ord 10 0 .nil .nil))))) (.ord 8 0 .nil (.alt (.ord 4 0 .nil (.ord 6 0 .nil (.ord 9 0 .nil (.ord 10 0 .nil .nil)))) (.ord 6 0 .nil (.ord 4 0 .nil (.ord 9 0 .nil (.ord 10 0 .nil .nil))))))))) (.alt (.ord 4 0 .nil (.alt (.ord 2 0 .nil (.alt (.ord 6 0 .nil (.ord 8 0 .nil (.ord 9 0 .nil (.ord 10 0 .nil .nil)))) (.ord 8 0 .nil (.ord 6 0 .nil (.ord 9 0 .nil (.ord 10 0 .nil .nil)))))) (.ord 8 0 .nil (.ord 2 0 .nil (.ord 6 0 .nil (.ord 9 0 .nil (.ord 10 0 .nil .nil))))))) (.ord 8 0 .nil (.alt (.ord 2 0 .nil (.alt (.ord 4 0 .nil (.ord 6 0 .nil (.ord 9 0 .nil (.ord 10 0 .nil .nil)))) (.ord 6 0 .nil (.ord 4 0 .nil (.ord 9 0 .nil (.ord 10 0 .nil .nil)))))) (.ord 4 0 .nil (.ord 2 0 .nil (.ord 6 0 .nil (.ord 9 0 .nil (.ord 10 0 .nil .nil)))))))))))))))) .nil))
def qcZ:Ann:=(.any 20351 4096 (.ord 0 0 .nil (.ord 1 0 .nil (.ord 2 0 .nil (.ord 3 8055 .nil (.ord 4 0 .nil (.ord 5 0 .nil (.ord 6 0 .nil (.ord 8 0 .nil (.ord 9 0 .nil (.ord 10 0 .nil (.alt (.ord 7 0 .nil (.ord 11 0 .nil (.ord 12 0 .nil (.ord 13 0 .nil (.ord 14 0 .nil (.ord 15 0 .nil .nil)))))) (.ord 11 0 .nil (.alt (.ord 7 0 .nil (.ord 12 0 .nil (.ord 13 0 .nil (.ord 14 0 .nil (.ord 15 0 .nil .nil))))) (.ord 12 0 .nil (.ord 7 0 .nil (.ord 13 0 .nil (.ord 14 0 .nil (.ord 15 0 .nil .nil)))))))))))))))))))
def qcT:Ann:=(.join ⟨[3,4,6,9,10,11,12],[(14,Zt43)],[]⟩ (.tail 7 (.two (.two .nil (.two (.two .nil (.joinE ⟨[],[],[]⟩ (.two (.loop ⟨[0,1,7],[(8,Zt43)],[]⟩ .nil) .nil))) .nil)) .nil)))
def qdF:Ann:=(.two .nil (.two .nil (.two .nil (.two .nil (.two (.two .nil (.join ⟨[3,4,6,10],[],[(5,none),(6,some (.ar 78 Zt30 (some 79))),(7,some (.box (.st (.osl 79 .ref) .nil)))]⟩ (.two (.loop ⟨[3,4,6,9,10],[(11,Zt43)],[(5,none),(6,some (.ar 78 Zt30 (some 79))),(7,some (.box (.st (.osl 79 .ref) .nil)))]⟩ (.two .nil (.two (.two (.two .nil (.two .nil (.slk 12 (.two qcT (.join ⟨[3,4,6,9,10,11],[],[(8,some (.ar 78 Zt30 (some 79)))]⟩ qcZ)) (.two qcT (.join ⟨[3,4,6,9,10,11],[],[(7,some (.box (.st (.osl 79 .ref) .nil))),(9,none)]⟩ qcZ))))) .nil) .nil))) .nil))) (.two (.frz [9] (.join ⟨[6],[(7,Zt43)],[(3,some (.box Zt11)),(8,some (.ar 78 (.st Zt37 (.st .str (.st (.sl .ref) .nil))) none))]⟩ (.any 359 0 (.ord 1 5 .nil (.ord 2 3 .nil (.alt (.ord 0 0 .nil (.ord 3 0 (.fra qcX) (.ord 4 0 .nil (.ord 5 0 .nil (.ord 6 0 .nil (.ord 7 0 .nil (.ord 8 0 .nil .nil))))))) (.ord 3 0 (.fra qcX) (.ord 0 0 .nil (.ord 4 0 .nil (.ord 5 0 .nil (.ord 6 0 .nil (.ord 7 0 .nil (.ord 8 0 .nil .nil))))))))))))) .nil))))))
noncomputable def annotatePromote_con:Con:=⟨[Zt6,Zt11,Zt43],false,[Zt11,Zt43],Zt8,fun x=>qaC x.1 x.2.1 x.2.2.1,none⟩
noncomputable def qdr:Env:=(26,.con annotateSized_con)::(43,.go annotateFlat_con)::(42,.con slicesClone_RecordTag_con)::(22,.body Tryz.f22)::(35,.ins insBr_ins)::(34,.del delBr_del)::(33,.body Tryz.f33)::(21,.go qcQ)::(32,.con annotateChecked_con)::[]
theorem qhD (x:DL annotatePromote_con.ps):annotatePromote_con.φ x=denA Tryz.prog qdr qdF Tryz.f15 (78,Zt30,some 79) annotatePromote_con.ps annotatePromote_con.one annotatePromote_con.res annotatePromote_con.ρ x:=by kernel_rfl
theorem qiJ:ConOK Tryz.prog 15 annotatePromote_con :=
  ql2 (env:=qdr) ((EnvOK.cons (EnvOK.general (EnvOK.cons (EnvOK.body (EnvOK.insert (EnvOK.delete (EnvOK.body (EnvOK.general (EnvOK.cons (EnvOK.nil _) qbV) qgd) Tryz.func33) qrI) insBr_ok) Tryz.func22) qbK) qf9) qkx)) mixed Tryz.func15 annotatePromote_con (78,Zt30,some 79) qdF (by kernel_rfl) (fun h=>by first | rfl | cases h) (fun g hg=>by cases hg) qhD
def qks:Ann:=(.two .nil (.two .nil (.two (.two .nil (.join ⟨[],[(3,Zt33)],[]⟩ (.two (.loop ⟨[0,8],[(3,Zt33),(9,Zt43)],[]⟩ .nil) .nil))) .nil)))
noncomputable def ref3Ways_con:Con:=⟨[Zt24],true,[],Zt33,fun x=>qc2 x.1,none⟩
noncomputable def qka:Env:=(16,.con ref3Way_con)::[]
theorem qoN (x:DL ref3Ways_con.ps):ref3Ways_con.φ x=denF Tryz.prog qka qks Tryz.f10 ref3Ways_con.ps ref3Ways_con.one ref3Ways_con.res ref3Ways_con.ρ x:=by kernel_rfl
theorem qqu:ConOK Tryz.prog 10 ref3Ways_con :=
  qc (env:=qka) ((EnvOK.cons (EnvOK.nil _) qjx)) mixed Tryz.func10 ref3Ways_con qks (by kernel_rfl) (fun h=>by first | rfl | cases h) (fun g hg=>by cases hg) qoN
def qf2:Ann:=(.two .nil (.two (.two .nil (.joinE ⟨[],[],[]⟩ (.two (.loop ⟨[1,7,8],[(9,Zt43)],[]⟩ .nil) .nil))) .nil))
noncomputable def ref3HasLine_con:Con:=⟨[(.sl Zt36),Zt36],true,[],.bool,fun x=>qe3 x.1 x.2.1,none⟩
noncomputable def qf4:Env:=(12,.con ref3SameLine_con)::[]
theorem qk7 (x:DL ref3HasLine_con.ps):ref3HasLine_con.φ x=denF Tryz.prog qf4 qf2 Tryz.f11 ref3HasLine_con.ps ref3HasLine_con.one ref3HasLine_con.res ref3HasLine_con.ρ x:=by kernel_rfl
theorem qmy:ConOK Tryz.prog 11 ref3HasLine_con :=
  qc (env:=qf4) ((EnvOK.cons (EnvOK.nil _) qf5)) mixed Tryz.func11 ref3HasLine_con qf2 (by kernel_rfl) (fun h=>by first | rfl | cases h) (fun g hg=>by cases hg) qk7
def qcU:Ann:=(.two .nil (.two .nil (.two .nil (.two .nil (.two .nil (.two .nil (.two .nil (.two (.two .nil (.join ⟨[2,3,4,7,8,9,10],[(11,Zt43)],[]⟩ .nil)) (.two .nil (.two .nil (.two .nil (.two (.two .nil (.join ⟨[3,4,7,8,9,10,12],[(14,Zt33)],[]⟩ (.two (.loop ⟨[3,4,7,8,9,10,12,88,89],[(14,Zt33),(90,Zt43)],[]⟩ (.two .nil (.two .nil (.two (.two (.two .nil (.two .nil (.join ⟨[3,4,7,8,9,10,12,88,89,90],[(14,Zt33)],[(8,none)]⟩ .nil))) .nil) .nil)))) .nil))) (.two .nil (.two .nil (.two (.two .nil (.joinE ⟨[3,4,9,10,12],[],[]⟩ (.two (.loop ⟨[3,4,9,10,12,14,17,126],[(127,Zt43)],[]⟩ .nil) .nil))) (.two .nil (.two .nil (.two .nil (.two (.two .nil (.frz [6] (.joinE ⟨[4,19],[],[]⟩ (.two (.loop ⟨[4,12,19,161],[(162,Zt43)],[]⟩ (.two .nil (.two .nil (.two (.two (.two .nil (.two (.any 639 128 (.ord 0 0 .nil (.ord 1 0 .nil (.ord 2 0 .nil (.ord 3 247 .nil (.ord 4 0 .nil (.ord 5 0 .nil (.ord 6 0 .nil (.ord 7 0 .nil (.ord 8 0 .nil (.ord 9 0 .nil .nil))))))))))) .nil)) .nil) .nil)))) .nil)))) (.two (.two .nil (.joinE ⟨[],[],[]⟩ (.two (.loop ⟨[19,178,179],[(180,Zt43)],[]⟩ .nil) .nil))) .nil))))))))))))))))))))
noncomputable def law3AnnotateCuts_con:Con:=⟨[Zt6,Zt11,Zt43],true,[],.bool,fun x=>qcN x.1 x.2.1 x.2.2.1,none⟩
noncomputable def qcR:Env:=(11,.con ref3HasLine_con)::(12,.con ref3SameLine_con)::(10,.con ref3Ways_con)::(16,.con ref3Way_con)::(9,.con ref3RecordFault_con)::(15,.con annotatePromote_con)::(14,.con annotateCut_con)::(7,.con law3Great_con)::(6,.con law3Short_con)::(5,.con law3Annotates_con)::[]
theorem qgW (x:DL law3AnnotateCuts_con.ps):law3AnnotateCuts_con.φ x=denF Tryz.prog qcR qcU Tryz.f4 law3AnnotateCuts_con.ps law3AnnotateCuts_con.one law3AnnotateCuts_con.res law3AnnotateCuts_con.ρ x:=by kernel_rfl
theorem law3AnnotateCuts_ok:ConOK Tryz.prog 4 law3AnnotateCuts_con :=
  qc (env:=qcR) ((EnvOK.cons (EnvOK.cons (EnvOK.cons (EnvOK.cons (EnvOK.cons (EnvOK.cons (EnvOK.cons (EnvOK.cons (EnvOK.cons (EnvOK.cons (EnvOK.nil _) qkv) qox) qpG) qml) qiJ) qi0) qjx) qqu) qf5) qmy)) mixed Tryz.func4 law3AnnotateCuts_con qcU (by kernel_rfl) (fun h=>by first | rfl | cases h) (fun g hg=>by cases hg) qgW
end Go.Proofs.YthidcmjpbokeeaaGreat
