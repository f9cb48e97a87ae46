/- Several texts in one: Base, MSortC, AppW, StrC, CoreC, SearchC, GameC. -/
import Derived.Test.YtkkoolcdonhoaaaGreatDoorProg
import Derived.Test.YtkkoolcdonhoaaaGreatDoorMAD
import Derived.Test.YtkkoolcdonhoaaaGreatDoorMAA
import Derived.Test.YtkkoolcdonhoaaaGreatDoorMAE
import Derived.Shelf.Strconv.AppendIntPublic10
namespace Go.Proofs.YtkkoolcdonhoaaaGreatDoor
theorem mixed:Tryz.prog.follows .mixedOrders=true:=by kernel_rfl
instance dqAll:Go.Den.DqAll Tryz.prog:=⟨fun g h=>by cases h⟩
instance dqUp:Go.Den.DqAll (CT:=Go.Den.ctxUp) Tryz.prog:=@Go.Den.DqAll.mk Go.Den.ctxUp Tryz.prog (fun g h=>by cases h)
end Go.Proofs.YtkkoolcdonhoaaaGreatDoor
namespace Go.Proofs.YtkkoolcdonhoaaaGreatDoor
open Go.Den
set_option linter.unusedVariables false
set_option maxRecDepth 100000
def qgh:Ann := .nil
noncomputable def cmpIsNaN_int_con:Con:=⟨[Zt39],true,[],.bool,fun x=>qe5 x.1,some fun x=>qaY x.1⟩
noncomputable def qge:Env:=[]
theorem qjL (x:DL cmpIsNaN_int_con.ps):cmpIsNaN_int_con.φ x=denF (CT:=ctxUp) Tryz.prog qge qgh Tryz.f89 cmpIsNaN_int_con.ps cmpIsNaN_int_con.one cmpIsNaN_int_con.res cmpIsNaN_int_con.ρ x:=by kernel_rfl
theorem qkX:ConOK (CT:=ctxUp) Tryz.prog 89 cmpIsNaN_int_con :=
  ql (CT:=ctxUp) (env:=qge) ((EnvOK.nil (CT:=ctxUp) _)) mixed Tryz.func89 cmpIsNaN_int_con qgh (by kernel_rfl) (fun h=>by first | rfl | cases h) (fun g hg x=>by
    cases hg
    exact qlN _) qjL
def qeS:Ann := .nil
noncomputable def cmpCompare_int_con:Con:=⟨[Zt39,Zt39],true,[],Zt39,fun x=>qdI x.1 x.2.1,some fun x=>qaV x.1 x.2.1⟩
noncomputable def qeH:Env:=(89,.con cmpIsNaN_int_con)::[]
theorem qh5 (x:DL cmpCompare_int_con.ps):cmpCompare_int_con.φ x=denF (CT:=ctxUp) Tryz.prog qeH qeS Tryz.f54 cmpCompare_int_con.ps cmpCompare_int_con.one cmpCompare_int_con.res cmpCompare_int_con.ρ x:=by kernel_rfl
theorem qiJ:ConOK (CT:=ctxUp) Tryz.prog 54 cmpCompare_int_con :=
  ql (CT:=ctxUp) (env:=qeH) ((EnvOK.cons (CT:=ctxUp) (EnvOK.nil (CT:=ctxUp) _) qkX)) mixed Tryz.func54 cmpCompare_int_con qeS (by kernel_rfl) (fun h=>by first | rfl | cases h) (fun g hg x=>by
    cases hg
    exact qj4 _ _) qh5
def qjA:Ann:=(.two .nil (.two .nil (.two (.two .nil (.joinE ⟨[3],[],[]⟩ (.two (.loop ⟨[3,6,7],[(8,Zt39)],[]⟩ .nil) .nil))) .nil)))
noncomputable def cmpOr_int_con:Con:=⟨[Zt38],true,[],Zt39,fun x=>qi3 x.1,none⟩
noncomputable def qi0:Env:=[]
theorem qmt (x:DL cmpOr_int_con.ps):cmpOr_int_con.φ x=denF (CT:=ctxUp) Tryz.prog qi0 qjA Tryz.f53 cmpOr_int_con.ps cmpOr_int_con.one cmpOr_int_con.res cmpOr_int_con.ρ x:=by kernel_rfl
theorem qnz:ConOK (CT:=ctxUp) Tryz.prog 53 cmpOr_int_con :=
  ql (CT:=ctxUp) (env:=qi0) ((EnvOK.nil (CT:=ctxUp) _)) mixed Tryz.func53 cmpOr_int_con qjA (by kernel_rfl) (fun h=>by first | rfl | cases h) (fun g hg=>by cases hg) qmt
def qkl:Ann:=(.two .nil (.two (.tail 15 .nil) .nil))
noncomputable def movesCmp_con:Con:=⟨[Zt30,Zt30],true,[],Zt39,fun x=>qnJ x.1 x.2.1,none⟩
noncomputable def qkI:Env:=(53,.con cmpOr_int_con)::(54,.con cmpCompare_int_con)::[]
theorem qpC (x:DL movesCmp_con.ps):movesCmp_con.φ x=denF (CT:=ctxUp) Tryz.prog qkI qkl Tryz.f52 movesCmp_con.ps movesCmp_con.one movesCmp_con.res movesCmp_con.ρ x:=by kernel_rfl
theorem qqs:ConOK (CT:=ctxUp) Tryz.prog 52 movesCmp_con :=
  ql (CT:=ctxUp) (env:=qkI) ((EnvOK.cons (CT:=ctxUp) (EnvOK.cons (CT:=ctxUp) (EnvOK.nil (CT:=ctxUp) _) qiJ) qnz)) mixed Tryz.func52 movesCmp_con qkl (by kernel_rfl) (fun h=>by first | rfl | cases h) (fun g hg=>by cases hg) qpC
def qoB:Go.Shelf.Ren:=⟨fun | 6=>51 | 15=>88 | 14=>87 | 28=>109 | 29=>110 | 20=>101 | 21=>102 | 22=>103 | 23=>104 | 24=>105 | 25=>106 | 26=>107 | 27=>108 | 46=>115 | 47=>116 | 48=>117 | 49=>118 | 50=>119 | 57=>121 | n=>n,fun | 22=>41 | 24=>52 | 25=>114 | 3=>3 | 39=>71 | 0=>0 | 53=>167 | 55=>169 | 4=>4 | 46=>161 | 45=>160 | 50=>122 | 5=>5 | 9=>9 | 66=>175 | 70=>179 | 76=>182 | 77=>183 | n=>n,fun | n=>n⟩
theorem msort_lay:SlLaysF0.n6 Tryz.prog qoB where
  mixed:=by kernel_rfl
  f6:=⟨Tryz.f51.name,by decide,Tryz.func51.trans (congrArg some (by kernel_rfl))⟩
  f14:=⟨Tryz.f87.name,by decide,Tryz.func87.trans (congrArg some (by kernel_rfl))⟩
  f15:=Tryz.func88.trans (congrArg some (by kernel_rfl))
  f20:=⟨Tryz.f101.name,by decide,Tryz.func101.trans (congrArg some (by kernel_rfl))⟩
  f21:=⟨Tryz.f102.name,by decide,Tryz.func102.trans (congrArg some (by kernel_rfl))⟩
  f22:=⟨Tryz.f103.name,by decide,Tryz.func103.trans (congrArg some (by kernel_rfl))⟩
  f23:=⟨Tryz.f104.name,by decide,Tryz.func104.trans (congrArg some (by kernel_rfl))⟩
  f24:=⟨Tryz.f105.name,by decide,Tryz.func105.trans (congrArg some (by kernel_rfl))⟩
  f25:=⟨Tryz.f106.name,by decide,Tryz.func106.trans (congrArg some (by kernel_rfl))⟩
  f26:=⟨Tryz.f107.name,by decide,Tryz.func107.trans (congrArg some (by kernel_rfl))⟩
  f27:=⟨Tryz.f108.name,by decide,Tryz.func108.trans (congrArg some (by kernel_rfl))⟩
  f28:=Tryz.func109.trans (congrArg some (by kernel_rfl))
  f29:=Tryz.func110.trans (congrArg some (by kernel_rfl))
  f46:=⟨Tryz.f115.name,by decide,Tryz.func115.trans (congrArg some (by kernel_rfl))⟩
  f47:=Tryz.func116.trans (congrArg some (by kernel_rfl))
  f48:=Tryz.func117.trans (congrArg some (by kernel_rfl))
  f49:=⟨Tryz.f118.name,by decide,Tryz.func118.trans (congrArg some (by kernel_rfl))⟩
  f50:=⟨Tryz.f119.name,by decide,Tryz.func119.trans (congrArg some (by kernel_rfl))⟩
  f57:=⟨Tryz.f121.name,by decide,Tryz.func121.trans (congrArg some (by kernel_rfl))⟩
  t0:=Tryz.underlying0
  a0:=Tryz.isAgg0
  z0:=Tryz.sizeOf0
  v0:=Tryz.zeroValue0
  t3:=Tryz.underlying3
  a3:=Tryz.isAgg3
  z3:=Tryz.sizeOf3
  v3:=Tryz.zeroValue3
  t4:=Tryz.underlying4
  a4:=Tryz.isAgg4
  z4:=Tryz.sizeOf4
  v4:=Tryz.zeroValue4
  t5:=Tryz.underlying5
  a5:=Tryz.isAgg5
  z5:=Tryz.sizeOf5
  v5:=Tryz.zeroValue5
  t9:=Tryz.underlying9
  a9:=Tryz.isAgg9
  z9:=Tryz.sizeOf9
  v9:=Tryz.zeroValue9
  t22:=Tryz.underlying41
  a22:=Tryz.isAgg41
  z22:=Tryz.sizeOf41
  v22:=Tryz.zeroValue41
  t25:=Tryz.underlying114
  a25:=Tryz.isAgg114
  z25:=Tryz.sizeOf114
  v25:=Tryz.zeroValue114
  t39:=Tryz.underlying71
  a39:=Tryz.isAgg71
  z39:=Tryz.sizeOf71
  v39:=Tryz.zeroValue71
  t45:=Tryz.underlying160
  a45:=Tryz.isAgg160
  z45:=Tryz.sizeOf160
  v45:=Tryz.zeroValue160
  t46:=Tryz.underlying161
  a46:=Tryz.isAgg161
  z46:=Tryz.sizeOf161
  v46:=Tryz.zeroValue161
  t50:=Tryz.underlying122
  a50:=Tryz.isAgg122
  z50:=Tryz.sizeOf122
  v50:=Tryz.zeroValue122
  t53:=Tryz.underlying167
  a53:=Tryz.isAgg167
  z53:=Tryz.sizeOf167
  v53:=Tryz.zeroValue167
  t55:=Tryz.underlying169
  a55:=Tryz.isAgg169
  z55:=Tryz.sizeOf169
  v55:=Tryz.zeroValue169
  t66:=Tryz.underlying175
  a66:=Tryz.isAgg175
  z66:=Tryz.sizeOf175
  v66:=Tryz.zeroValue175
  t70:=Tryz.underlying179
  a70:=Tryz.isAgg179
  z70:=Tryz.sizeOf179
  v70:=Tryz.zeroValue179
  t76:=Tryz.underlying182
  a76:=Tryz.isAgg182
  z76:=Tryz.sizeOf182
  v76:=Tryz.zeroValue182
  t77:=Tryz.underlying183
  a77:=Tryz.isAgg183
  z77:=Tryz.sizeOf183
  v77:=Tryz.zeroValue183
open Go.Sort Go.Lib in
section
def cmp3 (a b:Int):Int:=if a<b then -1 else if b<a then 1 else 0
theorem qqe (a b:Int):qaV a b=cmp3 a b:=by
  unfold qaV qaY cmp3
  by_cases h:a<b
  · simp[h]
  · by_cases h2:b<a<;>simp[h,h2]
theorem qr1 (a b c:Int):qi3 [a,b,c]=some (if a=0 then if b=0 then c else b else a):=by
  unfold qi3
  by_cases ha:a=0
  · subst ha
    rw[qx (y:=((1,()),())) (by simp[qbz,at?,qk])]
    by_cases hb:b=0
    · subst hb
      rw[qx (y:=((2,()),())) (by simp[qbz,at?,qk])]
      by_cases hc:c=0
      · subst hc
        rw[qx (y:=((3,()),())) (by simp[qbz,at?,qk])]
        rw[qn (r := .inl ((),())) (by simp[qbz])]
        rfl
      · rw[qn (r := .inr c) (by simp[qbz,at?,bne_t hc])]
        simp
    · rw[qn (r := .inr b) (by simp[qbz,at?,bne_t hb])]
      simp[hb]
  · rw[qn (r := .inr a) (by simp[qbz,at?,bne_t ha])]
    simp[ha]
def mvCf (x y:Mv):Int:=if cmp3 x.1 y.1=0 then if cmp3 x.2.1 y.2.1=0 then cmp3 x.2.2.1 y.2.2.1 else cmp3 x.2.1 y.2.1 else cmp3 x.1 y.1
theorem qn3 (x y:Mv):qnJ x y=some (mvCf x y):=by
  unfold qnJ mvCf
  rw[qqe,qqe,qqe,qr1]
  rfl
theorem qpN (a b:Int):cmp3 a b=0↔a=b:=by
  unfold cmp3
  split
  · constructor<;>intro h<;>omega
  · split<;>constructor<;>intro h<;>omega
theorem qqc (a b:Int):cmp3 a b<0↔a<b:=by
  unfold cmp3
  split
  · constructor<;>intro h<;>omega
  · split<;>constructor<;>intro h<;>omega
theorem qnL:ltOf mvCf=mvLt:=by
  funext x y
  unfold ltOf mvCf mvLt
  by_cases h1:x.1=y.1
  · by_cases h2:x.2.1=y.2.1
    · simp[h1,h2,(qpN y.1 y.1).2 rfl,(qpN y.2.1 y.2.1).2 rfl,qqc]
    · have:¬cmp3 x.2.1 y.2.1=0:=fun h=>h2 ((qpN _ _).1 h)
      simp[h1,h2,(qpN y.1 y.1).2 rfl,this,qqc]
  · have:¬cmp3 x.1 y.1=0:=fun h=>h1 ((qpN _ _).1 h)
    simp[h1,this,qqc]
theorem qq4 (x y:Mv):mvLt x y=true↔x.1<y.1∨x.1=y.1∧(x.2.1<y.2.1∨x.2.1=y.2.1∧x.2.2.1<y.2.2.1):=by simp[mvLt]
theorem mvLt_f (x y:Mv):mvLt x y=false↔¬(x.1<y.1∨x.1=y.1∧(x.2.1<y.2.1∨x.2.1=y.2.1∧x.2.2.1<y.2.2.1)):=by rw[←qq4,Bool.not_eq_true]
theorem mv_swo:SWO mvLt where
  irrefl x:=by rw[mvLt_f];omega
  trans x y z h1 h2:=by rw[qq4] at *;omega
  ntrans x y z h1 h2:=by rw[mvLt_f] at *;omega
theorem mv_tot (x y:Mv) (h1:mvLt x y=false) (h2:mvLt y x=false):x=y:=by
  rw[mvLt_f] at h1 h2
  obtain⟨a,b,c,⟨⟩⟩:=x
  obtain⟨a',b',c',⟨⟩⟩:=y
  simp only at h1 h2
  have e1:a=a':=by omega
  subst e1
  have e2:b=b':=by omega
  subst e2
  have e3:c=c':=by omega
  subst e3
  rfl
def qf6:Srt:=⟨52,Zt30,some 52,qb6⟩
theorem qpf:SrtOK Tryz.prog 51 qf6:=by
  have h:=qqn (ρ:=qoB) (g:=52) (f:=51) (τ:=Zt30) (i:=52) msort_lay rfl rfl rfl rfl Tryz.isAgg52 Tryz.sizeOf52 qqs mvCf (fun x y=>qn3 x y) (show SWO (ltOf mvCf) from qnL▸mv_swo) (fun x y h1 h2=>mv_tot x y (by rw[←qnL];exact h1) (by rw[←qnL];exact h2)) (enters_of Tryz.func52 (by kernel_rfl) rfl)
  have e:(fun xs:List Mv=>xs.mergeSort fun x y=>!(ltOf mvCf) y x)=qb6:=by rw[qnL];rfl
  have:qf6=⟨52,Zt30,some 52,fun xs:List Mv=>xs.mergeSort fun x y=>!(ltOf mvCf) y x⟩:=by rw[e];rfl
  rw[this]
  exact h
end
end Go.Proofs.YtkkoolcdonhoaaaGreatDoor
namespace Go.Proofs.YtkkoolcdonhoaaaGreatDoor
open Go Go.Proofs Go.Shelf Go.RowKit Go.Sort Go.Lib Go.Den
set_option linter.unusedVariables false
set_option linter.unusedSimpArgs false
section
variable {P : Program} {ρ : Ren}
def NwB (w:World) (v v':Value):Prop:=v'.ownBlock=v.ownBlock∨∃k,w.heap.size≤k∧v'.ownBlock=some k
theorem wpl_str {w:World} {ops:Array Oper} {rest:List Oper} {o:Oper} {a:Act} {Q:Exit→Act→World→Prop} (hgd:o.guard=none) (sl x:Operand) (t u:TypeId)
    (ho:o.op = .call { callee := .builtin .append,args:=#[sl,x],argTypes:=#[t,u] }) (base:Nat) (e:TypeId) (i:TypeInfo) (ht:P.underlying t=some (.slice e)) (hu:P.underlying u=some .string) (hi:P.info? e=some i) (hz:i.zero=some (.int .u8 0))
    (hsize:i.size=1) (hby:i.bytes=1) (v:Value) (n:Nat) (xs:List Value) (hs:a.eval sl=v) (hown:w.ownsRow base e 1 v n xs) (s:ByteArray) (hx:a.eval x = .string s)
    (h63:n+s.size≤maxLen) (hbytes:n+s.size≤140737488355328) (hbase:base≤w.heap.size) (hn:0<n)
    (h:∀v' w',w'.ownsRow base e 1 v' (n+s.size) (xs++strCells s)→w.grownBy w' v.ownBlock→NwB w v v'→wpList P ops Q rest (a.put o.dst v') w'):wpList P ops Q (o::rest) a w:=by
  refine wpList_plain hgd fun K hK=>?_;obtain⟨v',w',hr,h2,h3,_⟩:=Lib.run_append_own_string (P:=P) w base t u o.type e i ht hu hi hz hsize hby v n xs hown s h63 hbytes hbase;have h5:NwB w v v':=by
    rcases hown.2 with ⟨_,hn0⟩ | ⟨g,cap,cur,rfl,hbg,hg,hnc,hcm,hcs,htake⟩
    · omega
    · have hxl:xs.length=n:=by simpa using hown.1
      have hcs':cur.size=cap:=by simpa using hcs
      by_cases hroom:n+s.size≤cap
      · have hr2:=Lib.run_append_room_string (P:=P) w t u o.type e i ht hu hi hsize g n cap cur hg s hroom (by omega);rw[hr2] at hr;cases hr;exact .inl rfl
      · have holds:∀j u,xs[j]?=some u→w.cell? ((⟨g,0,none⟩:Addr).add j)=some u:=hown.cells (g:=g) rfl;have hr2:=Lib.run_append_grow_string (P:=P) w t u o.type e i (.int .u8 0) ht hu hi hz ⟨g,0,none⟩ n cap xs (by rw[hsize];simpa using hxl) holds s (by omega) (by unfold maxLen at h63;omega) (by rw[hby];exact growslice_fits (by unfold maxLen at h63;omega) (by omega));rw[hr2] at hr;cases hr;exact .inr ⟨_,Nat.le_refl _,rfl⟩
  unfold Oper.wp execOp;simp only[ho,resolve,invoke,builtin,Sem.run_bind,Sem.run_pure,Result.andThen_ok,List.map_toArray,List.map_cons,List.map_nil,hs,hx,hr];exact hK _ _ (h v' w' h2 h3 h5)
theorem wpl_row {w:World} {ops:Array Oper} {rest:List Oper} {o:Oper} {a:Act} {Q:Exit→Act→World→Prop} (hgd:o.guard=none) (s x:Operand) (t:TypeId)
    (ho:o.op = .call { callee := .builtin .append,args:=#[s,x],argTypes:=#[t,t] }) (base:Nat) (e:TypeId) (i:TypeInfo) (z:Value) (ht:P.underlying t=some (.slice e)) (hi:P.info? e=some i) (hz:i.zero=some z)
    (hsize:i.size=1) (hby:i.bytes=1) (hzs:z.cells.size=1) (v:Value) (n:Nat) (xs:List Value) (hs:a.eval s=v) (hown:w.ownsRow base e 1 v n xs)
    (ad:Addr) (m c:Nat) (news:List Value) (hx:a.eval x = .slice (some ad) m c) (hl:news.length=m*1) (hnews:∀j u,news[j]?=some u→w.cell? (ad.add j)=some u) (h1:∀u∈news,u.oneCell'=true)
    (h63:n+m≤maxLen) (hbytes:(n+m)*1≤140737488355328) (hbase:base≤w.heap.size) (hn:0<n)
    (h:∀v' w',w'.ownsRow base e 1 v' (n+m) (xs++news)→w.grownBy w' v.ownBlock→NwB w v v'→wpList P ops Q rest (a.put o.dst v') w'):wpList P ops Q (o::rest) a w:=by
  refine wpList_plain hgd fun K hK=>?_;obtain⟨v',w',hr,h2,h3,_⟩:=run_append_own (P:=P) w base t o.type e i z 1 1 ht hi hz hsize hby hzs (by decide) v n xs hown ad m c news hl hnews h1 h63 hbytes hbase;have h5:NwB w v v':=by
    rcases hown.2 with ⟨_,hn0⟩ | ⟨g,cap,cur,rfl,hbg,hg,hnc,hcm,hcs,htake⟩
    · omega
    · by_cases hroom:n+m≤cap
      · have hr2:=run_append_room (P:=P) w t o.type e i ht hi g n cap cur hg ad m c news (by rw[hsize];exact hl) hnews h1 hroom (by rw[hsize,hl,hcs];omega);rw[hr2] at hr;cases hr;exact .inl rfl
      · have holds:∀j u,xs[j]?=some u→w.cell? ((⟨g,0,none⟩:Addr).add j)=some u:=hown.cells (g:=g) rfl;have hr2:=run_append_grow (P:=P) w t o.type e i z ht hi hz ⟨g,0,none⟩ n cap xs (by rw[hsize];exact hown.1) holds ad m c news (by rw[hsize];exact hl) hnews (by omega) (by unfold maxLen at h63;omega) (by rw[hby];exact growslice_fits (by unfold maxLen at h63;omega) hbytes);rw[hr2] at hr;cases hr;exact .inr ⟨_,Nat.le_refl _,rfl⟩
  unfold Oper.wp execOp;simp only[ho,resolve,invoke,builtin,Sem.run_bind,Sem.run_pure,Result.andThen_ok,List.map_toArray,List.map_cons,List.map_nil,hs,hx,hr];exact hK _ _ (h v' w' h2 h3 h5)


set_option maxHeartbeats 6400000 in
set_option maxRecDepth 100000 in
/-- numbers below 100 -/
theorem qr8 (L:LaysM.n288 P ρ) (B n u:Nat) (hu:u<100) (sv:Value) (xs:List Value) (w:World) (hown:w.ownsRow B (ρ.t 5) 1 sv n xs) (hBw:B≤w.heap.size) (hlim:n+20≤140737488355328) (hn:0<n) :
    Calls P (ρ.f 288) #[sv,.int .u64 u,.int .i64 10] w fun e w'=>∃v',e = .returned v'∧w'.ownsRow B (ρ.t 5) 1 v' (n+(Lib.decDigits u).length) (xs++Lib.byteCells (Lib.decDigits u))∧w.grownBy w' sv.ownBlock∧NwB w sv v':=by
  have mixed:=L.mixed;have t5:=L.t5;have a5:=L.a5;have z5:=L.z5;have v5:=L.v5;have t37:=L.t37;have u37:=run_underlying L.t37;have a37:=L.a37;have z37:=L.z37;have v37:=L.v37;have t53:=L.t53;have a53:=L.a53;have z53:=L.z53;have v53:=L.v53;have t3:=L.t3;have a3:=L.a3;have z3:=L.z3;have v3:=L.v3;have t4:=L.t4;have a4:=L.a4;have z4:=L.z4;have v4:=L.v4;have t9:=L.t9;have a9:=L.a9;have z9:=L.z9;have v9:=L.v9;have t171:=L.t171;have a171:=L.a171;have z171:=L.z171;have v171:=L.v171;have t0:=L.t0;have a0:=L.a0;have z0:=L.z0;have v0:=L.v0;have t173:=L.t173;have a173:=L.a173;have z173:=L.z173;have v173:=L.v173;have e283:∀args w,(callFunc (ρ.f 283) args).run P w = .ok (.enter (ρ.f 283) args) w:=enters_of L.f283 (by kernel_rfl) rfl;obtain⟨i0,hi,hz0,hz1,hz2⟩:=info_parts L.i5
  have hlen:(Lib.decDigits u).length≤20:=by
    rw[Lib.decDigits_length];by_cases h10:u<10
    · rw[Lib.nDigits_small h10];omega
    · rw[Lib.nDigits_big h10,Lib.nDigits_small (show u / 10<10 by omega)];omega
  have hsz:(⟨(Lib.decDigits u).toArray⟩:ByteArray).size=(Lib.decDigits u).length:=by simp[ByteArray.size]
  go_enter L.f288,Body.n288_ntmps ρ
  go_wp2_with (first
    | (go_at_fn (ρ.f 283);refine(Any.internal_strconv_small { L with } u hu _).mono ?_;rintro e w' ⟨rfl,rfl⟩)
    | (at_builtin;refine wpl_str rfl _ _ (ρ.t 37) (ρ.t 9) rfl B (ρ.t 5) i0 L.t37 L.t9 hi hz0 hz1 hz2 _ _ _ rfl hown ⟨(Lib.decDigits u).toArray⟩ rfl (by rw[hsz];unfold maxLen;omega) (by rw[hsz];omega) hBw hn ?_))
  intro v' w1 hown' hgrow hnw
  go_wp2
  go_ret
  refine⟨v',rfl,?_,hgrow,hnw⟩
  first | exact hown' | (rw[hsz] at hown';exact hown')

set_option maxHeartbeats 12800000 in
set_option maxRecDepth 100000 in
/-- numbers from 100 on -/
theorem appU_big (L:LaysM.n288 P ρ) (B n u:Nat) (hu:100≤u) (hu64:u<18446744073709551616) (sv:Value) (xs:List Value) (w:World) (hown:w.ownsRow B (ρ.t 5) 1 sv n xs) (hBw:B≤w.heap.size) (hlim:n+20≤140737488355328) (hn:0<n)
    (htab:Lib.TabIs P w "internal/strconv.uint64pow10" .u64 Lib.pow10Tab) :
    Calls P (ρ.f 288) #[sv,.int .u64 u,.int .i64 10] w fun e w'=>∃v',e = .returned v'∧w'.ownsRow B (ρ.t 5) 1 v' (n+(Lib.decDigits u).length) (xs++Lib.byteCells (Lib.decDigits u))∧w.grownBy w' sv.ownBlock∧NwB w sv v':=by
  have mixed:=L.mixed;have t5:=L.t5;have a5:=L.a5;have z5:=L.z5;have v5:=L.v5;have t37:=L.t37;have u37:=run_underlying L.t37;have a37:=L.a37;have z37:=L.z37;have v37:=L.v37;have t53:=L.t53;have a53:=L.a53;have z53:=L.z53;have v53:=L.v53;have t3:=L.t3;have a3:=L.a3;have z3:=L.z3;have v3:=L.v3;have t4:=L.t4;have a4:=L.a4;have z4:=L.z4;have v4:=L.v4;have t9:=L.t9;have a9:=L.a9;have z9:=L.z9;have v9:=L.v9;have t171:=L.t171;have a171:=L.a171;have z171:=L.z171;have v171:=L.v171;have t0:=L.t0;have a0:=L.a0;have z0:=L.z0;have v0:=L.v0;have t173:=L.t173;have a173:=L.a173;have z173:=L.z173;have v173:=L.v173;have e284:∀args w,(callFunc (ρ.f 284) args).run P w = .ok (.enter (ρ.f 284) args) w:=enters_of L.f284 (by kernel_rfl) rfl
  have e285:∀args w,(callFunc (ρ.f 285) args).run P w = .ok (.enter (ρ.f 285) args) w:=enters_of L.f285 (by kernel_rfl) rfl;obtain⟨i0,hi,hz0,hz1,hz2⟩:=info_parts L.i5
  have hu1:1≤u:=by omega
  have hnd20:Lib.nDigits u≤20:=by have:=Lib.numDigits_eq u hu1 hu64;split at this<;>omega
  have hal:P.arrayLen (ρ.t 171)=24:=by simp[Program.arrayLen,L.t171]
  have hsl:∀W,(Instr.sliceAt (ρ.t 171) (.pointer (some ⟨w.heap.size,0,none⟩)) none (some (.int .i64 (Lib.nDigits u:Int))) none).run P W = .ok (.slice (some ⟨w.heap.size,0,none⟩) (Lib.nDigits u) 24) W:=fun W=>by
    rw[run_sliceAt_array_h W (ρ.t 171) ⟨w.heap.size,0,none⟩ (by simp[Program.arrayLen,Program.elem,L.t171]) .i64 (Lib.nDigits u:Int) (by omega) (by rw[hal];omega)]
    go_simp
  have hH0:=Lib.holds_zero0 w (ρ.t 171) (Lib.nDigits u) (by omega);have hfmt:=Any.internal_strconv_formatBase10 { L with } w.heap.size 0 24 u (Array.replicate (Lib.nDigits u) 0) (w.alloc (.cells Lib.zeros24 (ρ.t 171))) hH0 (by rw[Array.size_replicate];exact Lib.lt_pow_nDigits u) hu64 (by rw[Array.size_replicate];omega);rw[Array.size_replicate] at hfmt;have HH0:=Lib.hid hH0
  have iu:(100:Int)≤(u:Int):=by omega
  clear hH0 hal
  go_enter L.f288,Body.n288_ntmps ρ
  go_wp2_with (first
    | (go_at_fn (ρ.f 284);refine(Any.internal_strconv_numDigits { L with } u hu1 hu64 _ (Lib.tabIs_alloc htab _)).mono ?_;rintro e w' ⟨rfl,rfl⟩))
  go_at_fn (ρ.f 285)
  refine hfmt.mono ?_
  rintro e w' ⟨rfl,k,v',dk,rfl,hF⟩
  have hcells:∀j u',(Lib.byteCells (Lib.decDigits u))[j]?=some u'→((putRow (fun (b:UInt8)=>Value.int .u8 (b.toNat:Int)) (w.alloc (.cells Lib.zeros24 (ρ.t 171))) w.heap.size 0 dk).drewN k).cell? ((⟨w.heap.size,0,none⟩:Addr).add j)=some u':=by
    intro j u' hj;have hjl:j<(Lib.decDigits u).length:=by
      have h5:=(List.getElem?_eq_some_iff.1 hj).1
      rwa [Lib.byteCells_length] at h5
    have e5:(Lib.byteCells (Lib.decDigits u))[j]?=some (Value.int .u8 ((Lib.decDigits u)[j].toNat:Int)):=by simp[Lib.byteCells,hjl]
    rw[e5] at hj;cases hj;rw[Lib.row_is_numeral hF j hjl,Lib.add_plain,World.cell?_drewN];exact cell?_putRow (fun (b:UInt8)=>Value.int .u8 (b.toNat:Int)) _ w.heap.size 0 _ dk HH0.out (by rw[hF.size,Array.size_replicate]) j (by rw[hF.size];rw[Lib.decDigits_length] at hjl;exact hjl)
  obtain⟨os,eo⟩:=Lib.fin_at w (.cells Lib.zeros24 (ρ.t 171)) dk k 0
  have hown2:((putRow (fun (b:UInt8)=>Value.int .u8 (b.toNat:Int)) (w.alloc (.cells Lib.zeros24 (ρ.t 171))) w.heap.size 0 dk).drewN k).ownsRow B (ρ.t 5) 1 sv n xs:=by rw[eo];exact Lib.ownsRow_grow hown k os
  have hnx2:Below w.heap.size w ((putRow (fun (b:UInt8)=>Value.int .u8 (b.toNat:Int)) (w.alloc (.cells Lib.zeros24 (ρ.t 171))) w.heap.size 0 dk).drewN k):=by rw[eo];exact Lib.below_grow w.heap.size w (Nat.le_refl _) k os
  have hsz2:w.heap.size≤((putRow (fun (b:UInt8)=>Value.int .u8 (b.toNat:Int)) (w.alloc (.cells Lib.zeros24 (ρ.t 171))) w.heap.size 0 dk).drewN k).heap.size:=by rw[eo];exact Lib.size_grow w k os
  generalize (putRow (fun (b:UInt8)=>Value.int .u8 (b.toNat:Int)) (w.alloc (.cells Lib.zeros24 (ρ.t 171))) w.heap.size 0 dk).drewN k=W2 at hcells hown2 hnx2 hsz2 ⊢;clear eo HH0 hfmt
  go_wp2_with (at_builtin;refine wpl_row rfl _ _ (ρ.t 37) rfl B (ρ.t 5) i0 (.int .u8 0) L.t37 hi hz0 hz1 hz2 rfl _ _ _ rfl hown2 ⟨w.heap.size,0,none⟩ (Lib.nDigits u) 24 (Lib.byteCells (Lib.decDigits u)) rfl ?c0 hcells ?c2 ?c3 ?c4 ?c5 hn ?_)
  case c0=>rw[Lib.byteCells_length,Lib.decDigits_length,Nat.mul_one]
  case c2=>intro u' hu';simp only[Lib.byteCells,List.mem_map] at hu';obtain⟨b,_,rfl⟩:=hu';rfl
  case c3=>unfold maxLen;omega
  case c4=>omega
  case c5=>omega
  intro v2 w3 hown' hgrow hnw
  go_wp2
  go_ret
  refine⟨v2,rfl,?_,⟨hgrow.os.trans hnx2.os,hgrow.tape.trans hnx2.tape,hgrow.output.trans hnx2.output,Nat.le_trans hnx2.size hgrow.size,fun k hk hne=>(hgrow.block k (Nat.lt_of_lt_of_le hk hnx2.size) hne).trans (hnx2.block k hk)⟩,hnw.imp id fun ⟨k,h1,h2⟩=>⟨k,Nat.le_trans hsz2 h1,h2⟩⟩;rw[Lib.decDigits_length];exact hown'

set_option maxHeartbeats 6400000 in
set_option maxRecDepth 100000 in
/-- the library's own function, at numbers that are not negative -/
theorem appI_nat (L:LaysM.n249 P ρ) (B n u:Nat) (hu:u≤9223372036854775807) (sv:Value) (xs:List Value) (w:World) (hown:w.ownsRow B (ρ.t 5) 1 sv n xs) (hBw:B≤w.heap.size) (hlim:n+20≤140737488355328) (hn:0<n)
    (htab:Lib.TabIs P w "internal/strconv.uint64pow10" .u64 Lib.pow10Tab) :
    Calls P (ρ.f 249) #[sv,.int .i64 (u:Int),.int .i64 10] w fun e w'=>∃v',e = .returned v'∧w'.ownsRow B (ρ.t 5) 1 v' (n+(Lib.decDigits u).length) (xs++Lib.byteCells (Lib.decDigits u))∧w.grownBy w' sv.ownBlock∧NwB w sv v':=by
  have mixed:=L.mixed;have t5:=L.t5;have a5:=L.a5;have z5:=L.z5;have v5:=L.v5;have t37:=L.t37;have u37:=run_underlying L.t37;have a37:=L.a37;have z37:=L.z37;have v37:=L.v37;have t2:=L.t2;have a2:=L.a2;have z2:=L.z2;have v2:=L.v2;have t3:=L.t3;have a3:=L.a3;have z3:=L.z3;have v3:=L.v3;have t53:=L.t53;have a53:=L.a53;have z53:=L.z53;have v53:=L.v53;have t4:=L.t4;have a4:=L.a4;have z4:=L.z4;have v4:=L.v4;have e288:∀args w,(callFunc (ρ.f 288) args).run P w = .ok (.enter (ρ.f 288) args) w:=enters_of L.f288 (by kernel_rfl) rfl;have hC:Calls P (ρ.f 288) #[sv,.int .u64 u,.int .i64 10] w fun e w'=>∃v',e = .returned v'∧w'.ownsRow B (ρ.t 5) 1 v' (n+(Lib.decDigits u).length) (xs++Lib.byteCells (Lib.decDigits u))∧w.grownBy w' sv.ownBlock∧NwB w sv v':=by
    by_cases h:u<100
    · exact qr8 { L with } B n u h sv xs w hown hBw hlim hn
    · exact appU_big { L with } B n u (by omega) (by omega) sv xs w hown hBw hlim hn htab
  have hneg:¬((u:Int)<0):=by omega
  have hu64:u<18446744073709551616:=by omega
  go_enter L.f249,Body.n249_ntmps ρ
  go_wp2_with (go_at_fn (ρ.f 288);refine hC.mono ?_;rintro e w2 ⟨v2,rfl,hown2,hg2,hn2⟩)
  go_wp2
  first | go_ret | go_ret2
  exact⟨v2,rfl,hown2,hg2,hn2⟩
set_option maxRecDepth 100000 in
/-- strconv.AppendInt -/
theorem appP_nat (L:LaysM.n176 P ρ) (B n u:Nat) (hu:u≤9223372036854775807) (sv:Value) (xs:List Value) (w:World) (hown:w.ownsRow B (ρ.t 5) 1 sv n xs) (hBw:B≤w.heap.size) (hlim:n+20≤140737488355328) (hn:0<n)
    (htab:Lib.TabIs P w "internal/strconv.uint64pow10" .u64 Lib.pow10Tab) :
    Calls P (ρ.f 176) #[sv,.int .i64 (u:Int),.int .i64 10] w fun e w'=>∃v',e = .returned v'∧w'.ownsRow B (ρ.t 5) 1 v' (n+(Lib.decDigits u).length) (xs++Lib.byteCells (Lib.decDigits u))∧w.grownBy w' sv.ownBlock∧NwB w sv v':=by
  have mixed:=L.mixed;have t5:=L.t5;have a5:=L.a5;have z5:=L.z5;have v5:=L.v5;have t37:=L.t37;have u37:=run_underlying L.t37;have a37:=L.a37;have z37:=L.z37;have v37:=L.v37;have t2:=L.t2;have a2:=L.a2;have z2:=L.z2;have v2:=L.v2;have t3:=L.t3;have a3:=L.a3;have z3:=L.z3;have v3:=L.v3;have e249:∀args w,(callFunc (ρ.f 249) args).run P w = .ok (.enter (ρ.f 249) args) w:=enters_of L.f249 (by kernel_rfl) rfl
  go_enter L.f176,Body.n176_ntmps ρ
  go_wp2_with (go_at_fn (ρ.f 249);refine(appI_nat { L with } B n u hu sv xs w hown hBw hlim hn htab).mono ?_;rintro e w2 ⟨v2,rfl,hown2,hg2,hn2⟩)
  go_wp2
  go_ret
  exact⟨v2,rfl,hown2,hg2,hn2⟩
end
end Go.Proofs.YtkkoolcdonhoaaaGreatDoor
namespace Go.Proofs.YtkkoolcdonhoaaaGreatDoor
open Go.Den
set_option linter.unusedVariables false
set_option linter.unusedSimpArgs false
set_option maxRecDepth 100000
theorem cond_inv {α:Type} {c:Bool} {x r:α} (h:(bif c then some x else none)=some r):c=true∧x=r:=by cases c<;>simp_all
theorem qsf {S:Nat→Prop} {w:World} (hT:TabR S w):Go.Lib.TabIs Tryz.prog w "internal/strconv.uint64pow10" .u64 Go.Lib.pow10Tab:=by
  obtain⟨_,T,fz,h⟩:=hT.tab 0 (Go.Lib.pow10Tab.map (Value.int .u64)) rfl
  have hg:Tryz.prog.globalNamed "internal/strconv.uint64pow10" = some 0:=by kernel_rfl
  unfold Go.Lib.TabIs World.var?
  rw[hg]
  show(match w.heap[0]? with | some (.cells cs _ _)=>some cs | _=>none)=_
  rw[h]
def appi_ren:Go.Shelf.Ren:=⟨fun | 176=>92 | 249=>112 | 288=>120 | 283=>122 | 284=>123 | 285=>124 | 286=>125 | 129=>110 | 317=>126 | 318=>127 | 319=>128 | 320=>129 | 337=>130 | 338=>131 | n=>n,fun | 37=>150 | 2=>2 | 3=>3 | 53=>169 | 4=>4 | 9=>9 | 171=>186 | 0=>0 | 173=>188 | 212=>191 | 51=>167 | 5=>5 | 20=>20 | 213=>192 | 46=>71 | 232=>193 | 233=>194 | n=>n,fun | 17=>0 | 18=>1 | 19=>2 | n=>n⟩
open Go.Shelf in
theorem appi_lay:Go.Proofs.LaysM.n176 Tryz.prog appi_ren where
  mixed:=by kernel_rfl
  f129:=Tryz.func110.trans (congrArg some (by kernel_rfl))
  f176:=Tryz.func92.trans (congrArg some (by kernel_rfl))
  f249:=Tryz.func112.trans (congrArg some (by kernel_rfl))
  f283:=Tryz.func122.trans (congrArg some (by kernel_rfl))
  f284:=Tryz.func123.trans (congrArg some (by kernel_rfl))
  f285:=Tryz.func124.trans (congrArg some (by kernel_rfl))
  f286:=Tryz.func125.trans (congrArg some (by kernel_rfl))
  f288:=Tryz.func120.trans (congrArg some (by kernel_rfl))
  f317:=Tryz.func126.trans (congrArg some (by kernel_rfl))
  f318:=Tryz.func127.trans (congrArg some (by kernel_rfl))
  f319:=Tryz.func128.trans (congrArg some (by kernel_rfl))
  f320:=Tryz.func129.trans (congrArg some (by kernel_rfl))
  f337:=Tryz.func130.trans (congrArg some (by kernel_rfl))
  f338:=Tryz.func131.trans (congrArg some (by kernel_rfl))
  t0:=Tryz.underlying0
  a0:=Tryz.isAgg0
  z0:=Tryz.sizeOf0
  v0:=Tryz.zeroValue0
  t2:=Tryz.underlying2
  a2:=Tryz.isAgg2
  z2:=Tryz.sizeOf2
  v2:=Tryz.zeroValue2
  t3:=Tryz.underlying3
  a3:=Tryz.isAgg3
  z3:=Tryz.sizeOf3
  v3:=Tryz.zeroValue3
  t4:=Tryz.underlying4
  a4:=Tryz.isAgg4
  z4:=Tryz.sizeOf4
  v4:=Tryz.zeroValue4
  t5:=Tryz.underlying5
  a5:=Tryz.isAgg5
  z5:=Tryz.sizeOf5
  v5:=Tryz.zeroValue5
  t9:=Tryz.underlying9
  a9:=Tryz.isAgg9
  z9:=Tryz.sizeOf9
  v9:=Tryz.zeroValue9
  t20:=Tryz.underlying20
  a20:=Tryz.isAgg20
  z20:=Tryz.sizeOf20
  v20:=Tryz.zeroValue20
  t37:=Tryz.underlying150
  a37:=Tryz.isAgg150
  z37:=Tryz.sizeOf150
  v37:=Tryz.zeroValue150
  t46:=Tryz.underlying71
  a46:=Tryz.isAgg71
  z46:=Tryz.sizeOf71
  v46:=Tryz.zeroValue71
  t51:=Tryz.underlying167
  a51:=Tryz.isAgg167
  z51:=Tryz.sizeOf167
  v51:=Tryz.zeroValue167
  t53:=Tryz.underlying169
  a53:=Tryz.isAgg169
  z53:=Tryz.sizeOf169
  v53:=Tryz.zeroValue169
  t171:=Tryz.underlying186
  a171:=Tryz.isAgg186
  z171:=Tryz.sizeOf186
  v171:=Tryz.zeroValue186
  t173:=Tryz.underlying188
  a173:=Tryz.isAgg188
  z173:=Tryz.sizeOf188
  v173:=Tryz.zeroValue188
  t212:=Tryz.underlying191
  a212:=Tryz.isAgg191
  z212:=Tryz.sizeOf191
  v212:=Tryz.zeroValue191
  t213:=Tryz.underlying192
  a213:=Tryz.isAgg192
  z213:=Tryz.sizeOf192
  t232:=Tryz.underlying193
  a232:=Tryz.isAgg193
  z232:=Tryz.sizeOf193
  v232:=Tryz.zeroValue193
  t233:=Tryz.underlying194
  a233:=Tryz.isAgg194
  z233:=Tryz.sizeOf194
  v233:=Tryz.zeroValue194
  g17:=by kernel_rfl
  g18:=by kernel_rfl
  g19:=by kernel_rfl
  i0:=by kernel_rfl
  i2:=by kernel_rfl
  i3:=by kernel_rfl
  i4:=by kernel_rfl
  i5:=by kernel_rfl
  i9:=by kernel_rfl
  i20:=by kernel_rfl
  i37:=by kernel_rfl
  i46:=by kernel_rfl
  i51:=by kernel_rfl
  i53:=by kernel_rfl
  i171:=by kernel_rfl
  i173:=by kernel_rfl
  i212:=by kernel_rfl
  i232:=by kernel_rfl
  i233:=by kernel_rfl
  m17:=by kernel_rfl
  m18:=by kernel_rfl
  m19:=by kernel_rfl
noncomputable def qlo:Goc:=⟨.nil,.st Zt37 .nil,[.int .i64,.int .i64],[1,2,2],none,none,true,[.osl 5 (.int .u8)],.osl 5 (.int .u8),fun x=>qlB x.2.1.1 x.2.2.2.1 x.2.2.2.2.1⟩
theorem qpu {w:World} {S:Sp}:∀l:List UInt8,RepL (fun (x:D (.int .u8)) c=>Rep w S (.int .u8) x [] c) (l.map fun b=>((b.toNat:Nat):Int)) (Go.Lib.byteCells l)
  | []=>rfl
  | b::l=>⟨[.int .u8 ((b.toNat:Nat):Int)],_,rfl,⟨rfl,rfl⟩,qpu l⟩
theorem appI_core {w:World} {S:Sp} (xs:List Int) (u:Nat) (hu:u≤9223372036854775807) (hn:0<xs.length) (hl:xs.length+20≤140737488355328) {M:List Nat} {v:Value} {us:List Value} (hT:TabR S w) (hO:OwnR w 5 1 v M xs.length us)
    (hU:RepL (fun (x:Int) c=>Rep w S (.int .u8) x [] c) xs us) :
    Calls Tryz.prog 92 #[v,.int .i64 (u:Int),.int .i64 10] w fun e w'=>∃v' g' us',e = .returned v'∧Go.Eng.Chg M w w'∧(g'∈M∨w.heap.size≤g')∧OwnR w' 5 1 v' [g'] (xs++(Go.Lib.decDigits u).map fun b=>((b.toNat:Nat):Int)).length us' ∧
      ∀(w2:World) (S':Sp),RepL (fun (x:Int) c=>Rep w2 S' (.int .u8) x [] c) (xs++(Go.Lib.decDigits u).map fun b=>((b.toNat:Nat):Int)) us':=by
  rcases hO with ⟨_,_,hz,_⟩ | ⟨g,cap,cur,rfl,rfl,hRow,hle,hcap,hsz,htk⟩
  · omega
  have hul:us.length=xs.length*1:=RepL.length (sz:=1) (fun x c h=>by obtain⟨_,rfl⟩:=h;rfl) hU
  have hg:g<w.heap.size:=hRow.lt
  obtain⟨fz,hRh,hfz⟩:=hRow
  obtain rfl:fz=(0,0):=by
    rcases hfz with h | ⟨_,h⟩
    · exact h
    · cases (show false=true from h)
  have hown:w.ownsRow g (appi_ren.t 5) 1 (.slice (some ⟨g,0,none⟩) xs.length cap) xs.length us:=⟨hul,.inr ⟨g,cap,cur,rfl,Nat.le_refl _,hRh,hle,hcap,hsz,htk⟩⟩
  refine(appP_nat (P:=Tryz.prog) (ρ:=appi_ren) appi_lay g xs.length u hu _ us w hown (Nat.le_of_lt hg) hl hn (qsf hT)).mono ?_
  rintro e w' ⟨v',rfl,hown',hgrow,hnw⟩
  rcases hown'.2 with ⟨_,hz⟩ | ⟨g',cap',cur',rfl,_,hg',hle',hcap',hsz',htk'⟩
  · omega
  have hM:g'∈[g]∨w.heap.size≤g':=by
    rcases hnw with h | ⟨k,hk,h⟩
    · left;cases h;exact List.mem_singleton.2 rfl
    · right;cases h;exact hk
  have hlen:(xs++(Go.Lib.decDigits u).map fun b=>((b.toNat:Nat):Int)).length=xs.length+(Go.Lib.decDigits u).length:=by rw[List.length_append,List.length_map]
  refine⟨_,g',us++Go.Lib.byteCells (Go.Lib.decDigits u),rfl,⟨hgrow.os,hgrow.tape,hgrow.output,hgrow.size,fun k hk hne=>hgrow.block k hk fun e=>hne (by cases e;exact List.mem_singleton.2 rfl),fun e=>by cases (show false=true from e)⟩,hM,?_,fun w2 S'=>?_⟩
  · rw[hlen]
    exact .inr ⟨g',cap',cur',rfl,rfl,.of hg',hle',hcap',hsz',htk'⟩
  · refine RepL.append (RepL.mono (fun x c h=>?_) hU) (qpu _)
    obtain⟨_,rfl⟩:=h
    exact⟨rfl,rfl⟩
theorem qsw:GocOK Tryz.prog 92 qlo:=by
  refine⟨rfl,rfl,fun h=>(by cases h),fun w S Mt Mm Ma va vcl vb args all x r hS hT hN h1 h2 h3 h4 h5 hw hr=>?_⟩
  obtain⟨⟨⟩,⟨xs,⟨⟩⟩,⟨⟩,i,b,⟨⟩⟩:=x
  obtain⟨rfl,rfl⟩:=h1
  obtain⟨c1,c2,M1,M2,rfl,rfl,⟨v,us,rfl,hO,hU⟩,⟨rfl,rfl⟩⟩:=h2
  obtain rfl:Ma=[]:=h3
  obtain rfl:vcl=[]:=h4
  obtain⟨v1,q1,rfl,⟨_,⟨_,rfl⟩,rfl⟩,v2,q2,rfl,⟨_,⟨_,rfl⟩,rfl⟩,rfl⟩:=h5
  obtain rfl:[v,.int .i64 i,.int .i64 b]=all:=Option.some.inj hw
  have hr:qlB xs i b=some r:=hr
  obtain⟨hc,rfl⟩:=cond_inv hr
  simp only[Bool.and_eq_true,decide_eq_true_eq,Nat.ble_eq,Nat.blt_eq] at hc
  obtain⟨hb,hc0,hc1,hc2,hc3⟩:=hc
  obtain rfl:b=(10:Int):=(beq_iff_eq (α:=Int)).1 hb
  obtain⟨u,rfl⟩:=Int.eq_ofNat_of_zero_le hc0
  refine(appI_core xs u (Int.ofNat_le.1 hc1) hc2 hc3 hT hO hU).mono ?_
  rintro e w' ⟨v',g',us',rfl,hch,hM,hO',hU'⟩
  refine⟨v',rfl,by simpa only[List.nil_append,List.append_nil] using hch,S.m,[],[g'],[],[v'],?_,?_,?_,fun _ _ h=>h,fun _=>rfl,⟨rfl,rfl⟩,⟨v',us',rfl,hO',hU' _ _⟩,rfl,rfl⟩
  · simp only[List.nil_append,List.append_nil]
    exact List.nodup_cons.2 ⟨List.not_mem_nil,List.nodup_nil⟩
  · intro k hk
    simp only[List.nil_append,List.append_nil,List.mem_singleton] at hk ⊢
    subst hk
    exact hM
  · intro i e h
    cases h

def qi9:Ann:=(.two .nil (.two (.two .nil (.joinE ⟨[0],[],[]⟩ (.two (.loop ⟨[0,6],[(7,Zt39)],[]⟩ .nil) .nil))) .nil))
noncomputable def rulesName_con:Con:=⟨[.str],true,[],.bool,fun x=>qi1 x.1,none⟩
noncomputable def qjr:Env:=[]
theorem qof (x:DL rulesName_con.ps):rulesName_con.φ x=denF Tryz.prog qjr qi9 Tryz.f78 rulesName_con.ps rulesName_con.one rulesName_con.res rulesName_con.ρ x:=by kernel_rfl
theorem qpP:ConOK Tryz.prog 78 rulesName_con :=
  ql (env:=qjr) ((EnvOK.nil _)) mixed Tryz.func78 rulesName_con qi9 (by kernel_rfl) (fun h=>by first | rfl | cases h) (fun g hg=>by cases hg) qof
def qgS:Ann := .nil
noncomputable def rulesWithin_con:Con:=⟨[Zt39,Zt39,Zt39],true,[],.bool,fun x=>qf7 x.1 x.2.1 x.2.2.1,some fun x=>qf x.1 x.2.1 x.2.2.1⟩
noncomputable def qgX:Env:=[]
theorem qlT (x:DL rulesWithin_con.ps):rulesWithin_con.φ x=denF Tryz.prog qgX qgS Tryz.f79 rulesWithin_con.ps rulesWithin_con.one rulesWithin_con.res rulesWithin_con.ρ x:=by kernel_rfl
theorem qfa:ConOK Tryz.prog 79 rulesWithin_con :=
  ql (env:=qgX) ((EnvOK.nil _)) mixed Tryz.func79 rulesWithin_con qgS (by kernel_rfl) (fun h=>by first | rfl | cases h) (fun g hg x=>by
    cases hg
    exact qmE _ _ _) qlT
def qgA:Ann:=(.two .nil (.two .nil (.two .nil (.two (.two .nil (.joinE ⟨[],[],[]⟩ (.two (.loop ⟨[1,16,17],[(18,Zt39)],[]⟩ (.two .nil (.two .nil (.two (.joinE ⟨[1,16,17,18],[],[]⟩ (.two (.two .nil (.two (.two (.two .nil (.two .nil (.two (.two (.two .nil (.two (.two (.two .nil (.two (.two .nil (.joinE ⟨[],[],[]⟩ (.two (.loop ⟨[0,1,7],[(8,Zt39)],[]⟩ .nil) .nil))) .nil)) .nil) .nil)) .nil) .nil))) .nil) (.two .nil (.joinE ⟨[1,16,17,18],[],[]⟩ (.two (.loop ⟨[1,16,17,18,59,60],[(61,Zt39)],[]⟩ .nil) .nil))))) .nil)) .nil)))) .nil))) .nil))))
noncomputable def rulesPieces_con:Con:=⟨[Zt9],true,[],Zt39,fun x=>qfQ x.1,none⟩
noncomputable def qgB:Env:=(79,.con rulesWithin_con)::(99,.body Tryz.f99)::(114,.body Tryz.f114)::(98,.body Tryz.f98)::[]
theorem qmf (x:DL rulesPieces_con.ps):rulesPieces_con.φ x=denF Tryz.prog qgB qgA Tryz.f80 rulesPieces_con.ps rulesPieces_con.one rulesPieces_con.res rulesPieces_con.ρ x:=by kernel_rfl
theorem qmF:ConOK Tryz.prog 80 rulesPieces_con :=
  ql (env:=qgB) ((EnvOK.cons (EnvOK.body (EnvOK.body (EnvOK.body (EnvOK.nil _) Tryz.func98) Tryz.func114) Tryz.func99) qfa)) mixed Tryz.func80 rulesPieces_con qgA (by kernel_rfl) (fun h=>by first | rfl | cases h) (fun g hg=>by cases hg) qmf
def qeb:Ann:=(.two .nil (.two .nil (.two (.two .nil (.joinE ⟨[],[],[]⟩ (.two (.loop ⟨[1,12,13],[(14,Zt39)],[]⟩ (.two .nil (.two .nil (.two (.two (.two .nil (.two .nil (.two (.two .nil (.two (.two .nil (.joinE ⟨[1,12,13,14],[(5,.bool),(6,.bool)],[]⟩ (.two .nil (.two .nil (.joinE ⟨[1,6,12,13,14],[(5,.bool)],[]⟩ .nil))))) .nil)) .nil))) .nil) .nil)))) .nil))) .nil)))
noncomputable def rulesConditions_con:Con:=⟨[Zt9],true,[],Zt39,fun x=>qbV x.1,none⟩
noncomputable def qep:Env:=(79,.con rulesWithin_con)::[]
theorem qii (x:DL rulesConditions_con.ps):rulesConditions_con.φ x=denF Tryz.prog qep qeb Tryz.f82 rulesConditions_con.ps rulesConditions_con.one rulesConditions_con.res rulesConditions_con.ρ x:=by kernel_rfl
theorem qjB:ConOK Tryz.prog 82 rulesConditions_con :=
  ql (env:=qep) ((EnvOK.cons (EnvOK.nil _) qfa)) mixed Tryz.func82 rulesConditions_con qeb (by kernel_rfl) (fun h=>by first | rfl | cases h) (fun g hg=>by cases hg) qii
def qhW:Ann:=(.two .nil (.two .nil (.two .nil (.two .nil (.two .nil (.two (.two (.two (.two .nil (.two (.two (.two .nil (.two (.two .nil (.joinE ⟨[],[],[]⟩ (.two (.loop ⟨[0,1,7],[(8,Zt39)],[]⟩ .nil) .nil))) .nil)) .nil) .nil)) .nil) .nil) .nil))))))
noncomputable def rulesCheck_con:Con:=⟨[Zt9],true,[],Zt39,fun x=>qfm x.1,none⟩
noncomputable def qhN:Env:=(82,.con rulesConditions_con)::(81,.body Tryz.f81)::(94,.body Tryz.f94)::(70,.body Tryz.f70)::(80,.con rulesPieces_con)::(79,.con rulesWithin_con)::(78,.con rulesName_con)::[]
theorem qmx (x:DL rulesCheck_con.ps):rulesCheck_con.φ x=denF Tryz.prog qhN qhW Tryz.f46 rulesCheck_con.ps rulesCheck_con.one rulesCheck_con.res rulesCheck_con.ρ x:=by kernel_rfl
theorem qiQ:ConOK Tryz.prog 46 rulesCheck_con :=
  ql (env:=qhN) ((EnvOK.cons (EnvOK.body (EnvOK.body (EnvOK.body (EnvOK.cons (EnvOK.cons (EnvOK.cons (EnvOK.nil _) qpP) qfa) qmF) Tryz.func70) Tryz.func94) Tryz.func81) qjB)) mixed Tryz.func46 rulesCheck_con qhW (by kernel_rfl) (fun h=>by first | rfl | cases h) (fun g hg=>by cases hg) qmx
def qdN:Ann:=(.two .nil (.two .nil (.two (.two .nil (.join ⟨[0],[(3,Zt39)],[]⟩ (.two (.loop ⟨[0,9,10],[(3,Zt39),(11,Zt39)],[]⟩ .nil) .nil))) (.two (.two (.two .nil (.two .nil (.two (.two .nil (.two .nil (.join ⟨[],[(0,Zt36)],[]⟩ (.two (.own (.own .nil)) .nil)))) .nil))) .nil) (.two (.two .nil (.join ⟨[],[(6,Zt36)],[(0,none)]⟩ (.two (.loop ⟨[25,26],[(6,Zt36),(27,Zt39)],[(0,none)]⟩ .nil) .nil))) .nil)))))
noncomputable def slicesConcat_int_con:Con:=⟨[(.sl Zt38)],true,[],Zt36,fun x=>qbM x.1,none⟩
noncomputable def qdR:Env:=(100,.body Tryz.f100)::[]
theorem qhx (x:DL slicesConcat_int_con.ps):slicesConcat_int_con.φ x=denF Tryz.prog qdR qdN Tryz.f85 slicesConcat_int_con.ps slicesConcat_int_con.one slicesConcat_int_con.res slicesConcat_int_con.ρ x:=by kernel_rfl
theorem qea:ConOK Tryz.prog 85 slicesConcat_int_con :=
  ql (env:=qdR) ((EnvOK.body (EnvOK.nil _) Tryz.func100)) mixed Tryz.func85 slicesConcat_int_con qdN (by kernel_rfl) (fun h=>by first | rfl | cases h) (fun g hg=>by cases hg) qhx
def qgt:Ann:=(.ord 6 0 (.two .nil (.two (.two (.two .nil (.two (.two .nil (.joinE ⟨[],[],[]⟩ (.two (.loop ⟨[0,1,7],[(8,Zt39)],[]⟩ .nil) .nil))) .nil)) .nil) .nil)) (.ord 7 0 .nil (.ord 8 0 .nil (.ord 9 0 .nil (.ord 10 0 .nil (.ord 11 0 (.two .nil (.two (.two (.two .nil (.two (.two .nil (.joinE ⟨[],[],[]⟩ (.two (.loop ⟨[0,1,7],[(8,Zt39)],[]⟩ .nil) .nil))) .nil)) .nil) .nil)) (.ord 12 0 .nil (.ord 13 0 .nil (.ord 14 0 .nil (.ord 15 0 .nil (.ord 16 0 .nil (.ord 17 0 .nil (.ord 18 0 .nil (.ord 19 0 .nil (.ord 20 0 .nil (.ord 21 0 .nil (.ord 22 0 .nil (.ord 23 0 .nil (.ord 24 0 .nil (.ord 25 0 .nil (.ord 26 0 .nil (.ord 27 0 .nil (.ord 28 0 .nil (.ord 29 0 .nil (.ord 30 0 .nil (.ord 31 0 .nil (.ord 32 0 .nil .nil)))))))))))))))))))))))))))
def qhP:Ann:=(.two .nil (.two .nil (.two .nil (.two .nil (.two .nil (.two (.two (.join ⟨[],[(76,.bool)],[]⟩ (.any 8589931423 0 (.ord 0 0 .nil (.ord 2 0 .nil (.ord 3 0 .nil (.ord 4 0 .nil (.alt (.ord 1 0 .nil (.ord 5 0 .nil qgt)) (.ord 5 0 .nil (.ord 1 0 .nil qgt))))))))) .nil) .nil))))))
noncomputable def placeSound_con:Con:=⟨[Zt9,Zt18],true,[],Zt39,fun x=>qhk x.1 x.2.1,none⟩
noncomputable def qhK:Env:=(84,.body Tryz.f84)::(94,.body Tryz.f94)::(70,.body Tryz.f70)::(83,.body Tryz.f83)::(85,.con slicesConcat_int_con)::[]
theorem qmo (x:DL placeSound_con.ps):placeSound_con.φ x=denF Tryz.prog qhK qhP Tryz.f47 placeSound_con.ps placeSound_con.one placeSound_con.res placeSound_con.ρ x:=by kernel_rfl
theorem qoc:ConOK Tryz.prog 47 placeSound_con :=
  ql (env:=qhK) ((EnvOK.body (EnvOK.body (EnvOK.body (EnvOK.body (EnvOK.cons (EnvOK.nil _) qea) Tryz.func83) Tryz.func70) Tryz.func94) Tryz.func84)) mixed Tryz.func47 placeSound_con qhP (by kernel_rfl) (fun h=>by first | rfl | cases h) (fun g hg=>by cases hg) qmo
def qhU:Ann := .nil
noncomputable def placeCheck_con:Con:=⟨[Zt9,Zt18],true,[],Zt39,fun x=>qcg x.1 x.2.1,none⟩
noncomputable def qhE:Env:=(47,.con placeSound_con)::(46,.con rulesCheck_con)::[]
theorem qmy (x:DL placeCheck_con.ps):placeCheck_con.φ x=denF Tryz.prog qhE qhU Tryz.f24 placeCheck_con.ps placeCheck_con.one placeCheck_con.res placeCheck_con.ρ x:=by kernel_rfl
theorem qc5:ConOK Tryz.prog 24 placeCheck_con :=
  ql (env:=qhE) ((EnvOK.cons (EnvOK.cons (EnvOK.nil _) qiQ) qoc)) mixed Tryz.func24 placeCheck_con qhU (by kernel_rfl) (fun h=>by first | rfl | cases h) (fun g hg=>by cases hg) qmy
def qkB:Ann:=(.two .nil (.two .nil (.two (.two .nil (.joinE ⟨[],[],[]⟩ (.two (.loop ⟨[3,4,9,19],[(20,Zt39)],[]⟩ (.two .nil (.two .nil (.two (.joinE ⟨[3,4,9,19,20],[],[]⟩ (.two (.two .nil (.two .nil (.joinE ⟨[3,4,9,19,20],[],[]⟩ (.two (.loop ⟨[3,4,9,10,19,20,27],[(28,Zt39)],[]⟩ (.two .nil (.two .nil (.two (.joinE ⟨[3,4,9,10,19,20,27,28],[],[]⟩ (.two (.two .nil (.two .nil (.two (.join ⟨[3,4,9,10,19,20,27,28],[(15,Zt39)],[]⟩ (.two (.loop ⟨[3,4,9,10,12,19,20,27,28],[(13,Zt39),(14,Zt39),(15,Zt39)],[]⟩ (.two (.two (.join ⟨[3,4,9,10,12,13,14,15,19,20,27,28],[(47,.bool)],[]⟩ .nil) .nil) .nil)) .nil)) .nil))) .nil)) .nil)))) .nil)))) .nil)) .nil)))) .nil))) .nil)))
noncomputable def endsLine_con:Con:=⟨[Zt9,Zt18,Zt39,Zt39],true,[],.bool,fun x=>qk0 x.1 x.2.1 x.2.2.1 x.2.2.2.1,none⟩
noncomputable def qky:Env:=(111,.body Tryz.f111)::[]
theorem qoH (x:DL endsLine_con.ps):endsLine_con.φ x=denF Tryz.prog qky qkB Tryz.f90 endsLine_con.ps endsLine_con.one endsLine_con.res endsLine_con.ρ x:=by kernel_rfl
theorem qqA:ConOK Tryz.prog 90 endsLine_con :=
  ql (env:=qky) ((EnvOK.body (EnvOK.nil _) Tryz.func111)) mixed Tryz.func90 endsLine_con qkB (by kernel_rfl) (fun h=>by first | rfl | cases h) (fun g hg=>by cases hg) qoH
def qg1:Ann := .nil
noncomputable def rulesIsLast_con:Con:=⟨[Zt9,Zt39,Zt39],true,[],.bool,fun x=>qd4 x.1 x.2.1 x.2.2.1,none⟩
noncomputable def qg6:Env:=[]
theorem qlC (x:DL rulesIsLast_con.ps):rulesIsLast_con.φ x=denF Tryz.prog qg6 qg1 Tryz.f50 rulesIsLast_con.ps rulesIsLast_con.one rulesIsLast_con.res rulesIsLast_con.ρ x:=by kernel_rfl
theorem qhX:ConOK Tryz.prog 50 rulesIsLast_con :=
  ql (env:=qg6) ((EnvOK.nil _)) mixed Tryz.func50 rulesIsLast_con qg1 (by kernel_rfl) (fun h=>by first | rfl | cases h) (fun g hg=>by cases hg) qlC
def qi4:Ann:=(.two .nil (.two (.two .nil (.joinE ⟨[3,5,6],[],[]⟩ (.two (.two .nil (.two .nil (.two .nil (.two (.two (.two .nil (.joinE ⟨[3,5,6],[],[]⟩ (.two (.loop ⟨[3,4,5,6,27,28],[(29,Zt39)],[]⟩ .nil) .nil))) .nil) .nil)))) .nil))) (.two .nil (.two (.two .nil (.join ⟨[6],[(11,Zt39)],[]⟩ (.two (.loop ⟨[3,6,50,51],[(11,Zt39),(52,Zt39)],[]⟩ (.two .nil (.two .nil (.two (.two (.two .nil (.two .nil (.join ⟨[3,6,50,51,52],[(11,Zt39)],[]⟩ .nil))) .nil) .nil)))) .nil))) .nil))))
noncomputable def endsHolds_con:Con:=⟨[Zt9,Zt18,Zt26,Zt39],true,[],.bool,fun x=>qiu x.1 x.2.1 x.2.2.1 x.2.2.2.1,none⟩
noncomputable def qjv:Env:=(50,.con rulesIsLast_con)::(90,.con endsLine_con)::[]
theorem qnO (x:DL endsHolds_con.ps):endsHolds_con.φ x=denF Tryz.prog qjv qi4 Tryz.f58 endsHolds_con.ps endsHolds_con.one endsHolds_con.res endsHolds_con.ρ x:=by kernel_rfl
theorem qoK:ConOK Tryz.prog 58 endsHolds_con :=
  ql (env:=qjv) ((EnvOK.cons (EnvOK.cons (EnvOK.nil _) qqA) qhX)) mixed Tryz.func58 endsHolds_con qi4 (by kernel_rfl) (fun h=>by first | rfl | cases h) (fun g hg=>by cases hg) qnO
def qkx:Ann := .nil
noncomputable def endsWins_con:Con:=⟨[Zt39],true,[],Zt39,fun x=>qjV x.1,some fun x=>qcZ x.1⟩
noncomputable def qkJ:Env:=[]
theorem qoM (x:DL endsWins_con.ps):endsWins_con.φ x=denF Tryz.prog qkJ qkx Tryz.f59 endsWins_con.ps endsWins_con.one endsWins_con.res endsWins_con.ρ x:=by kernel_rfl
theorem qpW:ConOK Tryz.prog 59 endsWins_con :=
  ql (env:=qkJ) ((EnvOK.nil _)) mixed Tryz.func59 endsWins_con qkx (by kernel_rfl) (fun h=>by first | rfl | cases h) (fun g hg x=>by
    cases hg
    exact qpQ _) qoM
def qhc:Ann:=(.two .nil (.two (.two .nil (.joinE ⟨[],[],[]⟩ (.two (.loop ⟨[3,4],[(2,Zt39)],[]⟩ .nil) .nil))) .nil))
noncomputable def movesFilled_con:Con:=⟨[Zt9,Zt18,Zt39],true,[],.bool,fun x=>qfI x.1 x.2.1 x.2.2.1,none⟩
noncomputable def qgF:Env:=[]
theorem qlg (x:DL movesFilled_con.ps):movesFilled_con.φ x=denF Tryz.prog qgF qhc Tryz.f86 movesFilled_con.ps movesFilled_con.one movesFilled_con.res movesFilled_con.ρ x:=by kernel_rfl
theorem qmz:ConOK Tryz.prog 86 movesFilled_con :=
  ql (env:=qgF) ((EnvOK.nil _)) mixed Tryz.func86 movesFilled_con qhc (by kernel_rfl) (fun h=>by first | rfl | cases h) (fun g hg=>by cases hg) qlg
def qiW:Ann:=(.two .nil (.two .nil (.two (.two .nil (.join ⟨[],[(5,Zt28)],[]⟩ (.two (.loop ⟨[2,3,11,12],[(5,Zt28),(13,Zt39)],[]⟩ (.two .nil (.two .nil (.two (.join ⟨[2,3,11,12,13],[(5,Zt28)],[(2,none)]⟩ (.two (.two .nil (.two .nil (.two .nil (.join ⟨[2,3,11,12,13],[(5,Zt28)],[(2,none)]⟩ (.two (.loop ⟨[2,3,6,11,12,13,41,42],[(5,Zt28),(43,Zt39)],[(2,none)]⟩ (.two .nil (.two .nil (.two (.two (.two .nil (.two .nil (.join ⟨[2,3,6,11,12,13,41,42,43],[(5,Zt28)],[(3,none)]⟩ .nil))) .nil) .nil)))) .nil))))) .nil)) .nil)))) .nil))) .nil)))
noncomputable def movesPuts_con:Con:=⟨[Zt9,Zt18],true,[],Zt28,fun x=>qiL x.1 x.2.1,none⟩
noncomputable def qjC:Env:=(86,.con movesFilled_con)::[]
theorem qod (x:DL movesPuts_con.ps):movesPuts_con.φ x=denF Tryz.prog qjC qiW Tryz.f48 movesPuts_con.ps movesPuts_con.one movesPuts_con.res movesPuts_con.ρ x:=by kernel_rfl
theorem qom:ConOK Tryz.prog 48 movesPuts_con :=
  ql (env:=qjC) ((EnvOK.cons (EnvOK.nil _) qmz)) mixed Tryz.func48 movesPuts_con qiW (by kernel_rfl) (fun h=>by first | rfl | cases h) (fun g hg=>by cases hg) qod
def qkt:Ann:=(.two .nil (.two .nil (.two .nil (.two (.two .nil (.join ⟨[2,4,5,7,9],[(10,Zt39)],[]⟩ .nil)) (.two .nil (.two (.two .nil (.join ⟨[],[(9,Zt36)],[]⟩ (.two (.loop ⟨[4,5,7,10,31],[(9,Zt36),(11,Zt39),(12,Zt39),(32,Zt39)],[]⟩ (.two .nil (.two .nil (.two (.two (.two .nil (.two .nil (.two .nil (.two .nil (.two (.two .nil (.join ⟨[4,5,7,10,11,12,13,31,32],[(9,Zt36)],[(3,none)]⟩ .nil)) .nil))))) .nil) .nil)))) .nil))) .nil))))))
noncomputable def movesWay_con:Con:=⟨[Zt9,Zt18,Zt39,Zt24],true,[],Zt36,fun x=>qkZ x.1 x.2.1 x.2.2.1 x.2.2.2.1,none⟩
noncomputable def qkD:Env:=[]
theorem qph (x:DL movesWay_con.ps):movesWay_con.φ x=denF Tryz.prog qkD qkt Tryz.f49 movesWay_con.ps movesWay_con.one movesWay_con.res movesWay_con.ρ x:=by kernel_rfl
theorem qp2:ConOK Tryz.prog 49 movesWay_con :=
  ql (env:=qkD) ((EnvOK.nil _)) mixed Tryz.func49 movesWay_con qkt (by kernel_rfl) (fun h=>by first | rfl | cases h) (fun g hg=>by cases hg) qph
def qjo:Ann:=(.two .nil (.two .nil (.two (.two .nil (.join ⟨[],[(5,Zt28)],[(2,none)]⟩ (.two (.loop ⟨[2,3,19,20],[(5,Zt28),(21,Zt39)],[(2,none)]⟩ (.two .nil (.two .nil (.two (.join ⟨[2,3,19,20,21],[(5,Zt28)],[(3,none)]⟩ (.two (.two .nil (.two .nil (.two .nil (.two .nil (.join ⟨[2,3,19,20,21],[(5,Zt28)],[(3,none)]⟩ (.two (.loop ⟨[2,3,6,8,19,20,21,44,45],[(5,Zt28),(46,Zt39)],[(3,none)]⟩ (.two .nil (.two .nil (.two (.join ⟨[2,3,6,8,19,20,21,44,45,46],[(5,Zt28)],[(4,none)]⟩ (.two (.two .nil (.two .nil (.join ⟨[2,3,6,8,19,20,21,44,45,46],[(5,Zt28)],[(4,none)]⟩ (.two (.loop ⟨[2,3,6,8,19,20,21,44,45,46,54,55],[(5,Zt28),(56,Zt39)],[(4,none)]⟩ (.two .nil (.two .nil (.two (.two (.two .nil (.two .nil (.two (.two .nil (.two .nil (.join ⟨[2,3,5,6,8,13,19,20,21,44,45,46,54,55,56],[],[(8,some (.box Zt30))]⟩ .nil))) .nil))) .nil) .nil)))) .nil)))) .nil)) .nil)))) .nil)))))) .nil)) .nil)))) .nil))) (.two .nil (.two (.join ⟨[],[(4,Zt28)],[(3,none)]⟩ (.two (.two .nil (.two .nil (.two (.two .nil (.joinE ⟨[0],[],[(3,some (.arr 52 Zt30))]⟩ (.two (.loop ⟨[0],[(3,Zt39)],[(3,some (.arr 52 Zt30))]⟩ (.two .nil (.two (.joinE ⟨[0],[(3,Zt39)],[(3,some (.arr 52 Zt30))]⟩ (.two (.two .nil (.two (.two (.own .nil) (.two (.two .nil (.join ⟨[0],[(3,Zt39)],[(3,some (.arr 52 Zt30))]⟩ (.two (.loop ⟨[0,4],[(3,Zt39),(5,Zt39)],[(3,some (.arr 52 Zt30))]⟩ (.two .nil (.two (.two (.two .nil (.join ⟨[0,4,5],[(3,Zt39)],[(3,some (.arr 52 Zt30))]⟩ .nil)) .nil) .nil))) .nil))) (.two (.own .nil) (.two (.own .nil) .nil)))) .nil)) .nil)) .nil))) .nil))) .nil))) .nil)) .nil)))))
noncomputable def movesList_con:Con:=⟨[Zt9,Zt18],true,[],Zt28,fun x=>qam x.1 x.2.1,none⟩
noncomputable def qiM:Env:=(55,.body Tryz.f55)::(51,.srt qf6)::(50,.con rulesIsLast_con)::(49,.con movesWay_con)::(48,.con movesPuts_con)::[]
theorem qnw (x:DL movesList_con.ps):movesList_con.φ x=denF Tryz.prog qiM qjo Tryz.f25 movesList_con.ps movesList_con.one movesList_con.res movesList_con.ρ x:=by kernel_rfl
theorem qbW:ConOK Tryz.prog 25 movesList_con :=
  ql (env:=qiM) ((EnvOK.body (EnvOK.sort (EnvOK.cons (EnvOK.cons (EnvOK.cons (EnvOK.nil _) qom) qp2) qhX) qpf) Tryz.func55)) mixed Tryz.func25 movesList_con qjo (by kernel_rfl) (fun h=>by first | rfl | cases h) (fun g hg=>by cases hg) qnw
def qhR:Ann:=(.two .nil (.two .nil (.two (.two (.two (.two .nil (.two (.two .nil (.joinE ⟨[],[],[]⟩ (.two (.loop ⟨[0,1,7],[(8,Zt39)],[]⟩ .nil) .nil))) .nil)) .nil) .nil) .nil)))
noncomputable def endsResult_con:Con:=⟨[Zt9,Zt18],true,[],Zt39,fun x=>qaj x.1 x.2.1,none⟩
noncomputable def qhQ:Env:=(59,.con endsWins_con)::(25,.con movesList_con)::(58,.con endsHolds_con)::(57,.body Tryz.f57)::(56,.body Tryz.f56)::[]
theorem qmr (x:DL endsResult_con.ps):endsResult_con.φ x=denF Tryz.prog qhQ qhR Tryz.f27 endsResult_con.ps endsResult_con.one endsResult_con.res endsResult_con.ρ x:=by kernel_rfl
theorem qbI:ConOK Tryz.prog 27 endsResult_con :=
  ql (env:=qhQ) ((EnvOK.cons (EnvOK.cons (EnvOK.cons (EnvOK.body (EnvOK.body (EnvOK.nil _) Tryz.func56) Tryz.func57) qoK) qbW) qpW)) mixed Tryz.func27 endsResult_con qhR (by kernel_rfl) (fun h=>by first | rfl | cases h) (fun g hg=>by cases hg) qmr
def qmH:Ann := .nil
noncomputable def endsOf_con:Con:=⟨[Zt9,Zt18],false,[Zt39,Zt39],Zt33,fun x=>qm9 x.1 x.2.1,none⟩
noncomputable def qm8:Env:=(27,.con endsResult_con)::(24,.con placeCheck_con)::[]
theorem qst (x:DL endsOf_con.ps):endsOf_con.φ x=denF Tryz.prog qm8 qmH Tryz.f22 endsOf_con.ps endsOf_con.one endsOf_con.res endsOf_con.ρ x:=by kernel_rfl
theorem endsOf_ok:ConOK Tryz.prog 22 endsOf_con :=
  ql (env:=qm8) ((EnvOK.cons (EnvOK.cons (EnvOK.nil _) qc5) qbI)) mixed Tryz.func22 endsOf_con qmH (by kernel_rfl) (fun h=>by first | rfl | cases h) (fun g hg=>by cases hg) qst
def qiG:Ann := .nil
noncomputable def endsMoves_con:Con:=⟨[Zt9,Zt18],true,[],Zt28,fun x=>qaC x.1 x.2.1,none⟩
noncomputable def qjI:Env:=(25,.con movesList_con)::(27,.con endsResult_con)::[]
theorem qny (x:DL endsMoves_con.ps):endsMoves_con.φ x=denF Tryz.prog qjI qiG Tryz.f30 endsMoves_con.ps endsMoves_con.one endsMoves_con.res endsMoves_con.ρ x:=by kernel_rfl
theorem qeT:ConOK Tryz.prog 30 endsMoves_con :=
  ql (env:=qjI) ((EnvOK.cons (EnvOK.cons (EnvOK.nil _) qbI) qbW)) mixed Tryz.func30 endsMoves_con qiG (by kernel_rfl) (fun h=>by first | rfl | cases h) (fun g hg=>by cases hg) qny
def qkH:Ann := .nil
noncomputable def movesAll_con:Con:=⟨[Zt9,Zt18],false,[Zt28,Zt39],Zt21,fun x=>qdu x.1 x.2.1,none⟩
noncomputable def qko:Env:=(25,.con movesList_con)::(24,.con placeCheck_con)::[]
theorem qpe (x:DL movesAll_con.ps):movesAll_con.φ x=denF Tryz.prog qko qkH Tryz.f9 movesAll_con.ps movesAll_con.one movesAll_con.res movesAll_con.ρ x:=by kernel_rfl
theorem qme:ConOK Tryz.prog 9 movesAll_con :=
  ql (env:=qko) ((EnvOK.cons (EnvOK.cons (EnvOK.nil _) qc5) qbW)) mixed Tryz.func9 movesAll_con qkH (by kernel_rfl) (fun h=>by first | rfl | cases h) (fun g hg=>by cases hg) qpe
def qeu:Ann := .nil
noncomputable def slicesClone_int_con:Con:=⟨[Zt38],true,[],Zt36,fun x=>qX x.1,none⟩
noncomputable def qeo:Env:=[]
theorem qib (x:DL slicesClone_int_con.ps):slicesClone_int_con.φ x=denF Tryz.prog qeo qeu Tryz.f45 slicesClone_int_con.ps slicesClone_int_con.one slicesClone_int_con.res slicesClone_int_con.ρ x:=by kernel_rfl
theorem qc6:ConOK Tryz.prog 45 slicesClone_int_con :=
  ql (env:=qeo) ((EnvOK.nil _)) mixed Tryz.func45 slicesClone_int_con qeu (by kernel_rfl) (fun h=>by first | rfl | cases h) (fun g hg=>by cases hg) qib
def qak:Ann:=(.ord 13 0 .nil (.ord 16 0 .nil (.ord 18 0 .nil (.ord 19 0 .nil .nil))))
def qcK:Ann:=(.alt (.ord 6 0 .nil (.ord 15 0 .nil (.ord 12 0 .nil qak))) (.ord 12 0 .nil (.ord 6 0 .nil (.ord 15 0 .nil qak))))
def qgL:Ann:=(.alt (.ord 6 0 .nil (.ord 9 155135 .nil (.ord 15 0 .nil (.ord 12 0 .nil qak)))) (.alt (.ord 9 0 .nil qcK) (.ord 12 0 .nil (.alt (.ord 6 0 .nil (.ord 9 0 .nil (.ord 15 0 .nil qak))) (.ord 9 0 .nil (.ord 6 0 .nil (.ord 15 0 .nil qak)))))))
def qed:Ann:=(.ord 11 182271 .nil (.ord 15 0 .nil (.ord 12 0 .nil qak)))
def qgN:Ann:=(.alt (.ord 5 0 .nil qcK) (.ord 12 0 .nil (.ord 5 0 .nil (.ord 6 0 .nil (.ord 15 0 .nil qak)))))
def qhT:Ann:=(.two .nil (.two .nil (.two .nil (.two (.two .nil (.join ⟨[2,5],[],[(2,none),(3,some (.box Zt19))]⟩ (.two (.loop ⟨[2,5,19,20],[(21,Zt39)],[(2,none),(3,some (.box Zt19))]⟩ (.two .nil (.two .nil (.two (.two (.two .nil (.join ⟨[2,5,19,20,21],[],[(3,some (.box Zt19)),(4,none),(5,none),(6,none)]⟩ (.any 446367 4128 (.ord 0 0 .nil (.ord 1 0 .nil (.ord 2 155579 .nil (.ord 3 0 .nil (.ord 4 155535 .nil (.ord 7 0 .nil (.ord 8 0 .nil (.ord 10 0 .nil (.ord 14 0 .nil (.ord 17 0 .nil (.alt (.ord 5 0 .nil (.alt (.ord 6 0 .nil (.ord 9 155135 .nil qed)) (.alt (.ord 9 0 .nil (.alt (.ord 6 0 .nil qed) (.ord 11 0 .nil qcK))) (.ord 11 0 .nil qgL)))) (.alt (.ord 9 0 .nil (.alt (.ord 5 0 .nil (.alt (.ord 6 0 .nil qed) (.ord 11 0 .nil qcK))) (.ord 11 0 .nil qgN))) (.ord 11 0 .nil (.alt (.ord 5 0 .nil qgL) (.alt (.ord 9 0 .nil qgN) (.ord 12 0 .nil (.alt (.ord 5 0 .nil (.alt (.ord 6 0 .nil (.ord 9 0 .nil (.ord 15 0 .nil qak))) (.ord 9 0 .nil (.ord 6 0 .nil (.ord 15 0 .nil qak))))) (.ord 9 0 .nil (.ord 5 0 .nil (.ord 6 0 .nil (.ord 15 0 .nil qak)))))))))))))))))))))))) .nil) .nil)))) .nil))) .nil))))
noncomputable def placeBegin_con:Con:=⟨[Zt9],false,[Zt17,Zt39],(.st Zt17 Zt35),fun x=>qar x.1,none⟩
noncomputable def qhI:Env:=(45,.con slicesClone_int_con)::(46,.con rulesCheck_con)::[]
theorem qmq (x:DL placeBegin_con.ps):placeBegin_con.φ x=denF Tryz.prog qhI qhT Tryz.f35 placeBegin_con.ps placeBegin_con.one placeBegin_con.res placeBegin_con.ρ x:=by kernel_rfl
theorem qfG:ConOK Tryz.prog 35 placeBegin_con :=
  ql (env:=qhI) ((EnvOK.cons (EnvOK.cons (EnvOK.nil _) qiQ) qc6)) mixed Tryz.func35 placeBegin_con qhT (by kernel_rfl) (fun h=>by first | rfl | cases h) (fun g hg=>by cases hg) qmq
def qei:Ann:=(.two .nil (.two .nil (.two (.two .nil (.joinE ⟨[],[],[]⟩ (.two (.loop ⟨[0,1,12],[(13,Zt39)],[]⟩ .nil) .nil))) .nil)))
noncomputable def slicesEqual_int_con:Con:=⟨[Zt38,Zt38],true,[],.bool,fun x=>qbs x.1 x.2.1,none⟩
noncomputable def qee:Env:=[]
theorem qid (x:DL slicesEqual_int_con.ps):slicesEqual_int_con.φ x=denF Tryz.prog qee qei Tryz.f113 slicesEqual_int_con.ps slicesEqual_int_con.one slicesEqual_int_con.res slicesEqual_int_con.ρ x:=by kernel_rfl
theorem qix:ConOK Tryz.prog 113 slicesEqual_int_con :=
  ql (env:=qee) ((EnvOK.nil _)) mixed Tryz.func113 slicesEqual_int_con qei (by kernel_rfl) (fun h=>by first | rfl | cases h) (fun g hg=>by cases hg) qid
def qjn:Ann := .nil
noncomputable def placeSame_con:Con:=⟨[Zt18,Zt18],true,[],.bool,fun x=>qg0 x.1 x.2.1,none⟩
noncomputable def qit:Env:=(113,.con slicesEqual_int_con)::[]
theorem qnR (x:DL placeSame_con.ps):placeSame_con.φ x=denF Tryz.prog qit qjn Tryz.f97 placeSame_con.ps placeSame_con.one placeSame_con.res placeSame_con.ρ x:=by kernel_rfl
theorem qo0:ConOK Tryz.prog 97 placeSame_con :=
  ql (env:=qit) ((EnvOK.cons (EnvOK.nil _) qix)) mixed Tryz.func97 placeSame_con qjn (by kernel_rfl) (fun h=>by first | rfl | cases h) (fun g hg=>by cases hg) qnR
def qiX:Ann:=(.two .nil (.two .nil (.two (.join ⟨[1,2],[],[(0,some (.box Zt19)),(2,none)]⟩ (.any 887 0 (.ord 0 0 .nil (.ord 1 0 .nil (.ord 2 115 .nil (.ord 4 0 .nil (.ord 5 0 .nil (.alt (.ord 3 0 .nil (.ord 6 0 .nil (.ord 7 0 .nil (.ord 8 0 .nil (.ord 9 0 .nil (.ord 10 0 .nil .nil)))))) (.ord 6 0 .nil (.ord 3 0 .nil (.ord 7 0 .nil (.ord 8 0 .nil (.ord 9 0 .nil (.ord 10 0 .nil .nil)))))))))))))) .nil)))
noncomputable def placeCopy_con:Con:=⟨[Zt18],true,[],Zt17,fun x=>qbY x.1,none⟩
noncomputable def qiA:Env:=(45,.con slicesClone_int_con)::[]
theorem qnK (x:DL placeCopy_con.ps):placeCopy_con.φ x=denF Tryz.prog qiA qiX Tryz.f23 placeCopy_con.ps placeCopy_con.one placeCopy_con.res placeCopy_con.ρ x:=by kernel_rfl
theorem qgV:ConOK Tryz.prog 23 placeCopy_con :=
  ql (env:=qiA) ((EnvOK.cons (EnvOK.nil _) qc6)) mixed Tryz.func23 placeCopy_con qiX (by kernel_rfl) (fun h=>by first | rfl | cases h) (fun g hg=>by cases hg) qnK
def qjt:Ann:=(.two .nil (.two .nil (.two .nil (.two (.two .nil (.join ⟨[3,4,5,6,7,8],[],[(4,some (.arr 3 Zt39)),(5,some (.arr 3 Zt39)),(6,some (.arr 3 Zt39))]⟩ (.two .nil (.join ⟨[3,4,5,6,7,8],[],[(5,some (.arr 3 Zt39)),(6,some (.arr 3 Zt39))]⟩ (.tail 11 .nil))))) (.two .nil (.two (.two .nil (.join ⟨[4,5,6,7,8],[],[(5,some (.arr 3 Zt39)),(6,some (.arr 3 Zt39))]⟩ (.two (.two .nil (.join ⟨[4,5,6,7,8],[],[(5,some (.arr 3 Zt39)),(6,some (.arr 3 Zt39))]⟩ (.tail 17 .nil))) .nil))) (.two .nil (.two (.two .nil (.join ⟨[4,6,7],[],[(4,none),(5,none),(6,none),(7,some (.box Zt19))]⟩ .nil)) .nil))))))))
noncomputable def movesMake_con:Con:=⟨[Zt9,Zt18,Zt30],true,[],Zt17,fun x=>qp x.1 x.2.1 x.2.2.1,none⟩
noncomputable def qjz:Env:=(23,.con placeCopy_con)::[]
theorem qoe (x:DL movesMake_con.ps):movesMake_con.φ x=denF Tryz.prog qjz qjt Tryz.f37 movesMake_con.ps movesMake_con.one movesMake_con.res movesMake_con.ρ x:=by kernel_rfl
theorem qbX:ConOK Tryz.prog 37 movesMake_con :=
  ql (env:=qjz) ((EnvOK.cons (EnvOK.nil _) qgV)) mixed Tryz.func37 movesMake_con qjt (by kernel_rfl) (fun h=>by first | rfl | cases h) (fun g hg=>by cases hg) qoe
def qc7:Ann := .nil
noncomputable def slicesClone_RuleWay_con:Con:=⟨[Zt22],true,[],(.osl 109 Zt24),fun x=>qbC x.1,none⟩
noncomputable def qcP:Env:=[]
theorem qfE (x:DL slicesClone_RuleWay_con.ps):slicesClone_RuleWay_con.φ x=denF Tryz.prog qcP qc7 Tryz.f66 slicesClone_RuleWay_con.ps slicesClone_RuleWay_con.one slicesClone_RuleWay_con.res slicesClone_RuleWay_con.ρ x:=by kernel_rfl
theorem qgn:ConOK Tryz.prog 66 slicesClone_RuleWay_con :=
  ql (env:=qcP) ((EnvOK.nil _)) mixed Tryz.func66 slicesClone_RuleWay_con qc7 (by kernel_rfl) (fun h=>by first | rfl | cases h) (fun g hg=>by cases hg) qfE
def qc2:Ann := .nil
noncomputable def slicesClone_RuleEnd_con:Con:=⟨[Zt25],true,[],Zt23,fun x=>qa4 x.1,none⟩
noncomputable def qcX:Env:=[]
theorem qf2 (x:DL slicesClone_RuleEnd_con.ps):slicesClone_RuleEnd_con.φ x=denF Tryz.prog qcX qc2 Tryz.f67 slicesClone_RuleEnd_con.ps slicesClone_RuleEnd_con.one slicesClone_RuleEnd_con.res slicesClone_RuleEnd_con.ρ x:=by kernel_rfl
theorem qgq:ConOK Tryz.prog 67 slicesClone_RuleEnd_con :=
  ql (env:=qcX) ((EnvOK.nil _)) mixed Tryz.func67 slicesClone_RuleEnd_con qc2 (by kernel_rfl) (fun h=>by first | rfl | cases h) (fun g hg=>by cases hg) qf2
def qiU:Ann:=(.two .nil (.two .nil (.two .nil (.two (.two .nil (.join ⟨[1,2,3],[],[(2,some (.box Zt8))]⟩ (.two (.loop ⟨[1,2,3,9,10],[(11,Zt39)],[(2,some (.box Zt8))]⟩ .nil) .nil))) (.two (.join ⟨[2,3],[],[(2,some (.box Zt7)),(3,none)]⟩ (.any 347 0 (.ord 0 0 .nil (.ord 1 25 .nil (.ord 3 0 .nil (.alt (.ord 2 0 .nil (.ord 4 79 .nil (.ord 6 0 .nil (.ord 5 0 .nil (.ord 7 0 .nil (.ord 8 0 .nil (.ord 9 0 .nil .nil))))))) (.ord 4 0 .nil (.ord 2 0 .nil (.ord 6 0 .nil (.ord 5 0 .nil (.ord 7 0 .nil (.ord 8 0 .nil (.ord 9 0 .nil .nil))))))))))))) .nil)))))
noncomputable def rulesCopy_con:Con:=⟨[Zt9],true,[],Zt9,fun x=>qaw x.1,none⟩
noncomputable def qiw:Env:=(67,.con slicesClone_RuleEnd_con)::(45,.con slicesClone_int_con)::(66,.con slicesClone_RuleWay_con)::[]
theorem qn2 (x:DL rulesCopy_con.ps):rulesCopy_con.φ x=denF Tryz.prog qiw qiU Tryz.f34 rulesCopy_con.ps rulesCopy_con.one rulesCopy_con.res rulesCopy_con.ρ x:=by kernel_rfl
theorem qgI:ConOK Tryz.prog 34 rulesCopy_con :=
  ql (env:=qiw) ((EnvOK.cons (EnvOK.cons (EnvOK.cons (EnvOK.nil _) qgn) qc6) qgq)) mixed Tryz.func34 rulesCopy_con qiU (by kernel_rfl) (fun h=>by first | rfl | cases h) (fun g hg=>by cases hg) qn2
def qdS:Ann:=(.two .nil (.two (.two .nil (.joinE ⟨[],[],[]⟩ (.two (.loop ⟨[0,3,7],[(8,Zt39)],[]⟩ .nil) .nil))) .nil))
noncomputable def slicesIndex_Move_con:Con:=⟨[Zt29,Zt30],true,[],Zt39,fun x=>qdJ x.1 x.2.1,none⟩
noncomputable def qdT:Env:=[]
theorem qhA (x:DL slicesIndex_Move_con.ps):slicesIndex_Move_con.φ x=denF Tryz.prog qdT qdS Tryz.f96 slicesIndex_Move_con.ps slicesIndex_Move_con.one slicesIndex_Move_con.res slicesIndex_Move_con.ρ x:=by kernel_rfl
theorem qih:ConOK Tryz.prog 96 slicesIndex_Move_con :=
  ql (env:=qdT) ((EnvOK.nil _)) mixed Tryz.func96 slicesIndex_Move_con qdS (by kernel_rfl) (fun h=>by first | rfl | cases h) (fun g hg=>by cases hg) qhA
def qc4:Ann := .nil
noncomputable def slicesContains_Move_con:Con:=⟨[Zt29,Zt30],true,[],.bool,fun x=>qL x.1 x.2.1,none⟩
noncomputable def qcU:Env:=(96,.con slicesIndex_Move_con)::[]
theorem qfT (x:DL slicesContains_Move_con.ps):slicesContains_Move_con.φ x=denF Tryz.prog qcU qc4 Tryz.f75 slicesContains_Move_con.ps slicesContains_Move_con.one slicesContains_Move_con.res slicesContains_Move_con.ρ x:=by kernel_rfl
theorem qgm:ConOK Tryz.prog 75 slicesContains_Move_con :=
  ql (env:=qcU) ((EnvOK.cons (EnvOK.nil _) qih)) mixed Tryz.func75 slicesContains_Move_con qc4 (by kernel_rfl) (fun h=>by first | rfl | cases h) (fun g hg=>by cases hg) qfT
def qfx:Ann := .nil
noncomputable def minimaxNearer_con:Con:=⟨[Zt39],true,[],Zt39,fun x=>qeh x.1,some fun x=>qbb x.1⟩
noncomputable def qfo:Env:=[]
theorem qjP (x:DL minimaxNearer_con.ps):minimaxNearer_con.φ x=denF Tryz.prog qfo qfx Tryz.f95 minimaxNearer_con.ps minimaxNearer_con.one minimaxNearer_con.res minimaxNearer_con.ρ x:=by kernel_rfl
theorem qkT:ConOK Tryz.prog 95 minimaxNearer_con :=
  ql (env:=qfo) ((EnvOK.nil _)) mixed Tryz.func95 minimaxNearer_con qfx (by kernel_rfl) (fun h=>by first | rfl | cases h) (fun g hg x=>by
    cases hg
    exact qkQ _) qjP
def qgs:Ann := .nil
noncomputable def minimaxOver_con:Con:=⟨[Zt18,Zt39],true,[],Zt39,fun x=>qfO x.1 x.2.1,some fun x=>qdg x.1 x.2.1⟩
noncomputable def qgG:Env:=[]
theorem qlz (x:DL minimaxOver_con.ps):minimaxOver_con.φ x=denF Tryz.prog qgG qgs Tryz.f73 minimaxOver_con.ps minimaxOver_con.one minimaxOver_con.res minimaxOver_con.ρ x:=by kernel_rfl
theorem qmw:ConOK Tryz.prog 73 minimaxOver_con :=
  ql (env:=qgG) ((EnvOK.nil _)) mixed Tryz.func73 minimaxOver_con qgs (by kernel_rfl) (fun h=>by first | rfl | cases h) (fun g hg x=>by
    cases hg
    exact qmp _ _) qlz
def qdV:Ann:=(.two .nil (.two .nil (.two .nil (.two (.two (.any 223 0 (.ord 0 0 .nil (.ord 1 0 .nil (.ord 2 0 .nil (.ord 3 151 .nil (.ord 4 143 .nil (.ord 7 0 .nil (.ord 5 0 .nil (.ord 6 0 .nil .nil))))))))) (.joinE ⟨[],[],[(0,some (.box Zt6))]⟩ (.two (.loop ⟨[0,2,4,35,36],[(37,Zt39)],[(0,some (.box Zt6))]⟩ (.two .nil (.two .nil (.two (.two (.two .nil (.two (.any 2943 0 (.ord 0 0 .nil (.ord 1 0 .nil (.ord 2 0 .nil (.ord 3 0 .nil (.ord 4 879 .nil (.ord 5 863 .nil (.ord 6 831 .nil (.ord 8 0 .nil (.ord 9 0 .nil (.ord 7 0 .nil (.ord 10 0 .nil (.ord 11 0 .nil .nil))))))))))))) .nil)) .nil) .nil)))) .nil))) .nil))))
noncomputable def qdP:Ioc:=⟨Zt5,[Zt18,Zt39],true,[],.bool,fun x=>qdM x.1 x.2.1 x.2.2.1⟩
noncomputable def qdQ (φ:DL (Zt5::[Zt18,Zt39])→Option (D Zt4)):Env:=(91,.io ⟨Zt5,[Zt18,Zt39],true,[],.bool,φ⟩)::(37,.con movesMake_con)::(30,.con endsMoves_con)::[]
theorem qhB (φ:DL (Zt5::[Zt18,Zt39])→Option (D Zt4)) (x:DL (Zt5::[Zt18,Zt39])):qau φ x=denIO Tryz.prog (qdQ φ) qdV Tryz.f91 Zt5 [Zt18,Zt39] true [] .bool x:=by kernel_rfl
theorem qil:IocOK Tryz.prog 91 qdP :=
  ioc_fix (bx:=Zt5) (ps:=[Zt18,Zt39]) (ρ := .bool) (G:=qau) (by kernel_rfl) (fun h=>by first | rfl | cases h) fun φ hφ =>
  qbO (env:=qdQ φ) ((EnvOK.inout (EnvOK.cons (EnvOK.cons (EnvOK.nil _) qeT) qbX) hφ)) mixed Tryz.func91 ⟨Zt5,[Zt18,Zt39],true,[],.bool,qau φ⟩ qdV (by kernel_rfl) (fun h=>by first | rfl | cases h) (qhB φ)
def qhL:Ann := .nil
noncomputable def perftCheck_con:Con:=⟨[Zt9,Zt18,Zt39],false,[Zt39,Zt39,Zt39],Zt30,fun x=>qhp x.1 x.2.1 x.2.2.1,none⟩
noncomputable def qhD:Env:=(91,.io qdP)::(24,.con placeCheck_con)::[]
theorem qmB (x:DL perftCheck_con.ps):perftCheck_con.φ x=denF Tryz.prog qhD qhL Tryz.f60 perftCheck_con.ps perftCheck_con.one perftCheck_con.res perftCheck_con.ρ x:=by kernel_rfl
theorem qns:ConOK Tryz.prog 60 perftCheck_con :=
  ql (env:=qhD) ((EnvOK.inout (EnvOK.cons (EnvOK.nil _) qc5) qil)) mixed Tryz.func60 perftCheck_con qhL (by kernel_rfl) (fun h=>by first | rfl | cases h) (fun g hg=>by cases hg) qmB
def qiB:Ann := .nil
noncomputable def perftTree_con:Con:=⟨[Zt9,Zt18,Zt39],false,[Zt39,Zt39],Zt33,fun x=>qgW x.1 x.2.1 x.2.2.1,none⟩
noncomputable def qiF:Env:=(60,.con perftCheck_con)::[]
theorem qnS (x:DL perftTree_con.ps):perftTree_con.φ x=denF Tryz.prog qiF qiB Tryz.f28 perftTree_con.ps perftTree_con.one perftTree_con.res perftTree_con.ρ x:=by kernel_rfl
theorem qkr:ConOK Tryz.prog 28 perftTree_con :=
  ql (env:=qiF) ((EnvOK.cons (EnvOK.nil _) qns)) mixed Tryz.func28 perftTree_con qiB (by kernel_rfl) (fun h=>by first | rfl | cases h) (fun g hg=>by cases hg) qnS
def qiv:Ann:=(.two .nil (.two .nil (.two .nil (.two (.two (.two .nil (.two .nil (.two .nil (.two (.two .nil (.join ⟨[6,8],[(9,Zt39)],[(5,some (.box Zt30))]⟩ (.two (.loop ⟨[2,3,4,6,8,15,16],[(9,Zt39),(17,Zt39)],[(5,some (.box Zt30))]⟩ (.two .nil (.two .nil (.two (.two (.two .nil (.two (.join ⟨[2,3,4,6,8,9,11,15,16,17],[(12,Zt39)],[]⟩ (.any 1391 0 (.ord 1 109 .nil (.ord 2 107 .nil (.ord 3 103 .nil (.ord 5 0 .nil (.ord 6 0 .nil (.alt (.ord 0 0 .nil (.ord 4 0 .nil (.ord 7 0 .nil (.ord 8 0 .nil (.ord 9 0 .nil (.ord 10 0 .nil .nil)))))) (.ord 4 0 .nil (.ord 0 0 .nil (.ord 7 0 .nil (.ord 8 0 .nil (.ord 9 0 .nil (.ord 10 0 .nil .nil)))))))))))))) (.two .nil (.join ⟨[2,3,4,6,8,15,16,17],[(9,Zt39)],[(5,some (.box Zt30))]⟩ .nil)))) .nil) .nil)))) .nil))) .nil)))) .nil) .nil))))
noncomputable def minimaxOf_con:Con:=⟨[Zt9,Zt18,Zt39],true,[],Zt39,fun x=>qlh x.1 x.2.1 x.2.2.1,none⟩
noncomputable def qiS (φ:DL [Zt9,Zt18,Zt39]→Option (D Zt39)):Env:=(95,.con minimaxNearer_con)::(39,.con ⟨[Zt9,Zt18,Zt39],true,[],Zt39,φ,none⟩)::(37,.con movesMake_con)::(25,.con movesList_con)::(74,.body Tryz.f74)::(73,.con minimaxOver_con)::(27,.con endsResult_con)::[]
theorem qnP (φ:DL [Zt9,Zt18,Zt39]→Option (D Zt39)) (x:DL [Zt9,Zt18,Zt39]):qcw φ x=denF Tryz.prog (qiS φ) qiv Tryz.f39 minimaxOf_con.ps minimaxOf_con.one minimaxOf_con.res minimaxOf_con.ρ x:=by kernel_rfl
theorem qps:ConOK Tryz.prog 39 minimaxOf_con :=
  con_fix (ps:=[Zt9,Zt18,Zt39]) (ρ:=Zt39) (G:=qcw) (by kernel_rfl) (fun h=>by first | rfl | cases h) fun φ hφ =>
  ql (env:=qiS φ) ((EnvOK.cons (EnvOK.cons (EnvOK.cons (EnvOK.cons (EnvOK.body (EnvOK.cons (EnvOK.cons (EnvOK.nil _) qbI) qmw) Tryz.func74) qbW) qbX) hφ) qkT)) mixed Tryz.func39 ⟨[Zt9,Zt18,Zt39],true,[],Zt39,qcw φ,none⟩ qiv (by kernel_rfl) (fun h=>by first | rfl | cases h) (fun g hg=>by cases hg) (qnP φ)
def qgk:Ann := .nil
noncomputable def minimaxScore_con:Con:=⟨[Zt9,Zt18,Zt39],false,[Zt39,Zt39],Zt33,fun x=>qag x.1 x.2.1 x.2.2.1,none⟩
noncomputable def qf9:Env:=(39,.con minimaxOf_con)::(28,.con perftTree_con)::[]
theorem qkR (x:DL minimaxScore_con.ps):minimaxScore_con.φ x=denF Tryz.prog qf9 qgk Tryz.f19 minimaxScore_con.ps minimaxScore_con.one minimaxScore_con.res minimaxScore_con.ρ x:=by kernel_rfl
theorem qlj:ConOK Tryz.prog 19 minimaxScore_con :=
  ql (env:=qf9) ((EnvOK.cons (EnvOK.cons (EnvOK.nil _) qkr) qps)) mixed Tryz.func19 minimaxScore_con qgk (by kernel_rfl) (fun h=>by first | rfl | cases h) (fun g hg=>by cases hg) qkR
def qeK:Ann:=(.two .nil (.two .nil (.two (.two .nil (.join ⟨[],[(3,Zt39)],[]⟩ (.two (.loop ⟨[0,9,10],[(3,Zt39),(11,Zt39)],[]⟩ (.two .nil (.two .nil (.two (.two (.two .nil (.two (.join ⟨[0,3,9,10,11],[(18,.bool)],[]⟩ (.any 3 0 (.ord 1 0 .nil (.alt (.ord 0 0 .nil (.ord 2 0 (.two .nil (.two (.tail 12 .nil) .nil)) (.ord 3 0 .nil .nil))) (.ord 2 0 (.two .nil (.two (.tail 12 .nil) .nil)) (.ord 0 0 .nil (.ord 3 0 .nil .nil))))))) (.join ⟨[0,9,10,11],[(3,Zt39)],[]⟩ .nil))) .nil) .nil)))) .nil))) .nil)))
noncomputable def plainGameCount_con:Con:=⟨[Zt2],true,[],Zt39,fun x=>qdv x.1,none⟩
noncomputable def qeF:Env:=(97,.con placeSame_con)::(76,.body Tryz.f76)::[]
theorem qiE (x:DL plainGameCount_con.ps):plainGameCount_con.φ x=denB Tryz.prog qeF qeK Tryz.f77 true plainGameCount_con.ps plainGameCount_con.one plainGameCount_con.res plainGameCount_con.ρ x:=by kernel_rfl
theorem qj8:qpk Tryz.prog 77 plainGameCount_con :=
  qlA (env:=qeF) ((EnvOK.cons (EnvOK.body (EnvOK.nil _) Tryz.func76) qo0)) mixed Tryz.func77 plainGameCount_con qeK (by kernel_rfl) (fun h=>by first | rfl | cases h) (fun g hg=>by cases hg) qiE
def qd7:Ann:=(.two .nil (.two (.join ⟨[0],[(3,Zt39)],[]⟩ (.any 159 0 (.ord 0 0 .nil (.ord 1 0 .nil (.ord 2 0 .nil (.ord 4 0 .nil (.alt (.ord 3 0 .nil (.ord 5 0 (.two .nil (.two (.tail 12 .nil) .nil)) (.ord 6 0 .nil (.ord 7 0 .nil .nil)))) (.ord 5 0 (.two .nil (.two (.tail 12 .nil) .nil)) (.ord 3 0 .nil (.ord 6 0 .nil (.ord 7 0 .nil .nil))))))))))) .nil))
noncomputable def plainGameResult_con:Con:=⟨[Zt2],true,[],Zt39,fun x=>qbx x.1,none⟩
noncomputable def qen:Env:=(77,.rd plainGameCount_con)::(27,.con endsResult_con)::(76,.body Tryz.f76)::[]
theorem qiq (x:DL plainGameResult_con.ps):plainGameResult_con.φ x=denB Tryz.prog qen qd7 Tryz.f44 true plainGameResult_con.ps plainGameResult_con.one plainGameResult_con.res plainGameResult_con.ρ x:=by kernel_rfl
theorem qeU:qpk Tryz.prog 44 plainGameResult_con :=
  qlA (env:=qen) ((EnvOK.readonly (EnvOK.cons (EnvOK.body (EnvOK.nil _) Tryz.func76) qbI) qj8)) mixed Tryz.func44 plainGameResult_con qd7 (by kernel_rfl) (fun h=>by first | rfl | cases h) (fun g hg=>by cases hg) qiq
def qaL:Ann:=(.ord 13 0 .nil (.ord 14 0 .nil (.ord 15 0 .nil (.ord 16 0 .nil (.ord 17 0 .nil .nil)))))
def qba:Ann:=(.alt (.ord 4 0 .nil (.ord 12 0 .nil qaL)) (.ord 12 0 .nil (.ord 4 16367 .nil qaL)))
def qbQ:Ann:=(.ord 10 0 (.two .nil (.two (.tail 12 .nil) .nil)) (.ord 12 0 .nil qaL))
def qaf:Ann:=(.ord 8 0 .nil (.ord 9 0 .nil (.ord 10 0 .nil .nil)))
def qeR:Ann:=(.alt (.ord 10 0 (.two .nil (.two (.tail 12 .nil) .nil)) (.ord 11 0 .nil (.ord 12 0 .nil qaL))) (.ord 11 0 .nil qbQ))
def qe1:Ann:=(.alt (.ord 8 0 .nil qbQ) (.ord 10 0 (.two .nil (.two (.tail 12 .nil) .nil)) (.ord 8 0 .nil (.ord 12 0 .nil qaL))))
def qfp:Ann:=(.two .nil (.two (.two (.two .nil (.two .nil (.two (.join ⟨[0,3],[(9,.bool)],[]⟩ (.any 1695 0 (.ord 0 0 .nil (.ord 1 0 .nil (.ord 2 0 .nil (.ord 4 0 .nil (.alt (.ord 3 0 .nil (.alt (.ord 5 0 (.two .nil (.two (.tail 12 .nil) .nil)) (.alt (.ord 6 0 .nil (.ord 7 0 .nil qaf)) (.ord 7 0 .nil (.ord 6 0 .nil qaf)))) (.ord 7 0 .nil (.ord 5 0 (.two .nil (.two (.tail 12 .nil) .nil)) (.ord 6 0 .nil qaf))))) (.alt (.ord 5 0 (.two .nil (.two (.tail 12 .nil) .nil)) (.ord 3 183 .nil (.alt (.ord 6 0 .nil (.ord 7 0 .nil qaf)) (.ord 7 0 .nil (.ord 6 0 .nil qaf))))) (.ord 7 0 .nil (.alt (.ord 3 0 .nil (.ord 5 0 (.two .nil (.two (.tail 12 .nil) .nil)) (.ord 6 0 .nil qaf))) (.ord 5 0 (.two .nil (.two (.tail 12 .nil) .nil)) (.ord 3 0 .nil (.ord 6 0 .nil qaf))))))))))))) .nil))) .nil) (.two (.join ⟨[0,3],[],[(0,some (.box Zt3)),(1,none),(2,none)]⟩ (.any 101375 8192 (.ord 0 0 .nil (.ord 1 0 .nil (.ord 2 0 .nil (.ord 3 0 .nil (.ord 5 0 .nil (.ord 6 0 .nil (.ord 7 0 .nil (.ord 9 0 .nil (.alt (.ord 4 0 .nil (.alt (.ord 8 0 .nil qeR) (.alt (.ord 10 0 (.two .nil (.two (.tail 12 .nil) .nil)) (.ord 8 3839 .nil (.ord 11 0 .nil (.ord 12 0 .nil qaL)))) (.ord 11 0 .nil qe1)))) (.alt (.ord 8 0 .nil (.alt (.ord 4 0 .nil qeR) (.alt (.ord 10 0 (.two .nil (.two (.tail 12 .nil) .nil)) (.ord 11 2047 .nil qba)) (.ord 11 0 .nil (.alt (.ord 4 0 .nil qbQ) (.ord 10 0 (.two .nil (.two (.tail 12 .nil) .nil)) qba)))))) (.alt (.ord 10 0 (.two .nil (.two (.tail 12 .nil) .nil)) (.ord 8 3839 .nil (.ord 11 2047 .nil qba))) (.ord 11 0 .nil (.alt (.ord 4 0 .nil qe1) (.alt (.ord 8 0 .nil (.alt (.ord 4 0 .nil qbQ) (.ord 10 0 (.two .nil (.two (.tail 12 .nil) .nil)) qba))) (.ord 10 0 (.two .nil (.two (.tail 12 .nil) .nil)) (.ord 8 3839 .nil qba)))))))))))))))))) (.two (.any 831 64 (.ord 0 0 .nil (.ord 1 0 .nil (.ord 2 0 .nil (.ord 3 0 .nil (.ord 4 111 .nil (.ord 5 0 .nil (.ord 6 0 .nil (.ord 7 0 .nil qaf))))))))) .nil))))
noncomputable def plainGamePlay_con:Ioc:=⟨Zt1,[Zt30],true,[],Zt39,fun x=>qcR x.1 x.2.1⟩
noncomputable def qfu:Env:=(37,.con movesMake_con)::(75,.con slicesContains_Move_con)::(25,.con movesList_con)::(76,.body Tryz.f76)::(44,.rd plainGameResult_con)::[]
theorem qj3 (x:DL (Zt1::[Zt30])):plainGamePlay_con.φ x=denIO Tryz.prog qfu qfp Tryz.f42 Zt1 [Zt30] true [] Zt39 x:=by kernel_rfl
theorem qkS:IocOK Tryz.prog 42 plainGamePlay_con :=
  qbO (env:=qfu) ((EnvOK.cons (EnvOK.cons (EnvOK.cons (EnvOK.body (EnvOK.readonly (EnvOK.nil _) qeU) Tryz.func76) qbW) qgm) qbX)) mixed Tryz.func42 plainGamePlay_con qfp (by kernel_rfl) (fun h=>by first | rfl | cases h) qj3
def qdD:Ann:=(.two .nil (.two (.two (.two .nil (.two (.tail 12 .nil) .nil)) .nil) .nil))
noncomputable def plainGamePosition_con:Con:=⟨[Zt2],true,[],Zt17,fun x=>qbr x.1,none⟩
noncomputable def qdB:Env:=(76,.body Tryz.f76)::(23,.con placeCopy_con)::[]
theorem qgT (x:DL plainGamePosition_con.ps):plainGamePosition_con.φ x=denB Tryz.prog qdB qdD Tryz.f43 true plainGamePosition_con.ps plainGamePosition_con.one plainGamePosition_con.res plainGamePosition_con.ρ x:=by kernel_rfl
theorem qhz:qpk Tryz.prog 43 plainGamePosition_con :=
  qlA (env:=qdB) ((EnvOK.body (EnvOK.cons (EnvOK.nil _) qgV) Tryz.func76)) mixed Tryz.func43 plainGamePosition_con qdD (by kernel_rfl) (fun h=>by first | rfl | cases h) (fun g hg=>by cases hg) qgT
def qkN:Ann:=(.two .nil (.two (.two (.two .nil (.two .nil (.two .nil (.two (.frz [3,4,5] (.join ⟨[],[(2,(.obx Zt1)),(3,Zt39)],[]⟩ (.any 213 40 (.ord 0 12 .nil (.alt (.ord 1 0 .nil (.ord 2 0 .nil (.ord 3 0 .nil (.ord 4 0 .nil (.ord 5 0 .nil (.ord 6 0 .nil (.ord 7 0 .nil .nil))))))) (.ord 2 0 .nil (.alt (.ord 1 0 .nil (.ord 3 0 .nil (.ord 4 0 .nil (.ord 5 0 .nil (.ord 6 0 .nil (.ord 7 0 .nil .nil)))))) (.ord 3 0 .nil (.ord 1 0 .nil (.ord 4 0 .nil (.ord 5 0 .nil (.ord 6 0 .nil (.ord 7 0 .nil .nil))))))))))))) .nil)))) .nil) (.sel 7 1000013 (.two .nil (.two (.two .nil (.joinE ⟨[4,7],[],[(1,some (.box Zt19)),(7,some (.box Zt3)),(8,none),(9,none)]⟩ (.two (.loop ⟨[4,7,21,22],[(23,Zt39)],[(1,some (.box Zt19)),(7,some (.box Zt3)),(8,none),(9,none)]⟩ .nil) .nil))) .nil)) (.two .nil (.two (.two .nil (.joinE ⟨[4,7],[],[]⟩ (.two (.loop ⟨[4,7,21,22],[(23,Zt39)],[]⟩ .nil) .nil))) .nil)))))
noncomputable def plainRun_con:Con:=⟨[Zt9,Zt29],false,[Zt17,Zt39,Zt39],(.st Zt17 Zt33),fun x=>qiK x.1 x.2.1,none⟩
noncomputable def qkn:Env:=(44,.rd plainGameResult_con)::(43,.rd plainGamePosition_con)::(42,.io plainGamePlay_con)::(34,.con rulesCopy_con)::(35,.con placeBegin_con)::(41,.body Tryz.f41)::[]
theorem qoN (x:DL plainRun_con.ps):plainRun_con.φ x=denF Tryz.prog qkn qkN Tryz.f21 plainRun_con.ps plainRun_con.one plainRun_con.res plainRun_con.ρ x:=by kernel_rfl
theorem qqd:ConOK Tryz.prog 21 plainRun_con :=
  ql (env:=qkn) ((EnvOK.readonly (EnvOK.readonly (EnvOK.inout (EnvOK.cons (EnvOK.cons (EnvOK.body (EnvOK.nil _) Tryz.func41) qfG) qgI) qkS) qhz) qeU)) mixed Tryz.func21 plainRun_con qkN (by kernel_rfl) (fun h=>by first | rfl | cases h) (fun g hg=>by cases hg) qoN
end Go.Proofs.YtkkoolcdonhoaaaGreatDoor
