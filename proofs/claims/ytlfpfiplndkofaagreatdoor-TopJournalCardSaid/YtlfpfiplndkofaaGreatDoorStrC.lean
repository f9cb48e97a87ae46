/- Contracts of functions of Go's library. No condition of its own. -/
import Derived.Test.YtlfpfiplndkofaaGreatDoorMAA
import Derived.Test.YtlfpfiplndkofaaGreatDoorMAH
import Derived.Test.YtlfpfiplndkofaaGreatDoorMAD
import Derived.Test.YtlfpfiplndkofaaGreatDoorMAE
import Derived.Shelf.Strconv.Itoa3
import Derived.Shelf.Strings.OnBuilder
import Derived.Shelf.Small.Strs
import Derived.Shelf.Strings.Split
import Derived.Shelf.GgClosure.StringsIndexFuncTop
import Derived.Shelf.Strconv.AtoiAll
import Derived.Shelf.Strings.Repeat
import Derived.Shelf.Strings.Search2
import Derived.Shelf.Strconv.Clone
import Derived.Shelf.Strings.SlTrimAscii
import Derived.Shelf.Spec.TrailingZeros
import Derived.Shelf.Strings.Builder1
namespace Go.Proofs.YtlfpfiplndkofaaGreatDoor
open Go.Den
set_option linter.unusedVariables false
set_option linter.unusedSimpArgs false
set_option maxRecDepth 100000
theorem qfL {w w':World} (hd:Go.Den.Ctx.drawsUp=false) (h:Go.RowKit.Below w.heap.size w w'):Go.Eng.Chg [] w w' :=
  ⟨h.os,h.tape,h.output,h.size,fun k hk _=>h.block k hk,fun e=>by rw[hd] at e;cases e⟩
theorem qgE {α:Type} {c:Bool} {x r:α} (h:(bif c then some x else none)=some r):c=true∧x=r:=by cases c<;>simp_all
theorem qvi {w:World} {S:Nat→Prop}:∀ {l:List ByteArray} {us:List Value},RepL (fun (x:D .str) c=>Rep w S .str x [] c) l us→us=l.map Value.string
  | [],us,h=>h
  | n::ns,us,⟨c,r,h1,h2,h3⟩=>by
    subst h1
    rw[h2.2,qvi h3]
    rfl
theorem qxh {w:World} {S:Nat→Prop}:∀l:List ByteArray,RepL (fun (x:D .str) c=>Rep w S .str x [] c) l (l.map Value.string)
  | []=>rfl
  | s::l=>⟨[.string s],_,rfl,⟨rfl,rfl⟩,qxh l⟩
theorem open_int {S:Nat→Prop} {w:World} {g:Nat} (hT:TabR S w) (hg:(g,false)∈Ctx.opens):∃m,w.cell? ⟨g,0,none⟩=some (.int .i64 m):=by
  obtain⟨_,v,T,fz,hh,hv⟩:=hT.opn g false hg
  rw[if_neg (by decide)] at hv
  obtain⟨m,rfl⟩:=hv
  exact⟨m,by simp[World.cell?,hh]⟩

theorem chg_grown {w:World} {k:Nat} {os:Array Obj}:Go.Eng.Chg [] w (Go.Sort.grow (w.drewN k) os) :=
  ⟨rfl,rfl,rfl,by simp[Go.Sort.grow],fun j hj _=>by
    show(w.heap++os)[j]?=_
    rw[Array.getElem?_append_left hj],fun _=>Nat.le_add_right _ _⟩
theorem tab_pow10 {S:Nat→Prop} {w:World} (hT:TabR S w):Go.Lib.TabIs Tryz.prog w "internal/strconv.uint64pow10" .u64 Go.Lib.pow10Tab:=by
  obtain⟨_,T,fz,h⟩:=hT.tab 0 (Go.Lib.pow10Tab.map (Value.int .u64)) rfl
  have hg:Tryz.prog.globalNamed "internal/strconv.uint64pow10" = some 0:=by kernel_rfl
  unfold Go.Lib.TabIs World.var?
  rw[hg]
  show(match w.heap[0]? with | some (.cells cs _ _)=>some cs | _=>none)=_
  rw[h]
def qxQ:Go.Shelf.Ren:=⟨fun | 171=>48 | 243=>87 | 246=>138 | 283=>96 | 284=>97 | 285=>98 | 286=>99 | 129=>156 | 317=>155 | 318=>157 | 319=>158 | 320=>159 | 337=>213 | 338=>214 | n=>n,fun | 3=>3 | 9=>9 | 2=>2 | 4=>4 | 171=>184 | 0=>0 | 53=>44 | 37=>84 | 5=>5 | 173=>187 | 212=>238 | 51=>191 | 20=>20 | 213=>239 | 46=>150 | 232=>301 | 233=>302 | n=>n,fun | 17=>0 | 18=>4 | 19=>5 | n=>n⟩
open Go.Shelf in
theorem itoa_lay:Go.Proofs.LaysM.n171 Tryz.prog qxQ where
  mixed:=by kernel_rfl
  f129:=Tryz.func156.trans (congrArg some (by kernel_rfl))
  f171:=Tryz.func48.trans (congrArg some (by kernel_rfl))
  f243:=Tryz.func87.trans (congrArg some (by kernel_rfl))
  f246:=Tryz.func138.trans (congrArg some (by kernel_rfl))
  f283:=Tryz.func96.trans (congrArg some (by kernel_rfl))
  f284:=Tryz.func97.trans (congrArg some (by kernel_rfl))
  f285:=Tryz.func98.trans (congrArg some (by kernel_rfl))
  f286:=Tryz.func99.trans (congrArg some (by kernel_rfl))
  f317:=Tryz.func155.trans (congrArg some (by kernel_rfl))
  f318:=Tryz.func157.trans (congrArg some (by kernel_rfl))
  f319:=Tryz.func158.trans (congrArg some (by kernel_rfl))
  f320:=Tryz.func159.trans (congrArg some (by kernel_rfl))
  f337:=Tryz.func213.trans (congrArg some (by kernel_rfl))
  f338:=Tryz.func214.trans (congrArg some (by kernel_rfl))
  t0:=Tryz.underlying0
  a0:=Tryz.isAgg0
  z0:=Tryz.sizeOf0
  v0:=Tryz.zeroValue0
  t2:=Tryz.underlying2
  a2:=Tryz.isAgg2
  z2:=Tryz.sizeOf2
  v2:=Tryz.zeroValue2
  t3:=Tryz.underlying3
  a3:=Tryz.isAgg3
  z3:=Tryz.sizeOf3
  v3:=Tryz.zeroValue3
  t4:=Tryz.underlying4
  a4:=Tryz.isAgg4
  z4:=Tryz.sizeOf4
  v4:=Tryz.zeroValue4
  t5:=Tryz.underlying5
  a5:=Tryz.isAgg5
  z5:=Tryz.sizeOf5
  v5:=Tryz.zeroValue5
  t9:=Tryz.underlying9
  a9:=Tryz.isAgg9
  z9:=Tryz.sizeOf9
  v9:=Tryz.zeroValue9
  t20:=Tryz.underlying20
  a20:=Tryz.isAgg20
  z20:=Tryz.sizeOf20
  v20:=Tryz.zeroValue20
  t37:=Tryz.underlying84
  a37:=Tryz.isAgg84
  z37:=Tryz.sizeOf84
  v37:=Tryz.zeroValue84
  t46:=Tryz.underlying150
  a46:=Tryz.isAgg150
  z46:=Tryz.sizeOf150
  v46:=Tryz.zeroValue150
  t51:=Tryz.underlying191
  a51:=Tryz.isAgg191
  z51:=Tryz.sizeOf191
  v51:=Tryz.zeroValue191
  t53:=Tryz.underlying44
  a53:=Tryz.isAgg44
  z53:=Tryz.sizeOf44
  v53:=Tryz.zeroValue44
  t171:=Tryz.underlying184
  a171:=Tryz.isAgg184
  z171:=Tryz.sizeOf184
  v171:=Tryz.zeroValue184
  t173:=Tryz.underlying187
  a173:=Tryz.isAgg187
  z173:=Tryz.sizeOf187
  v173:=Tryz.zeroValue187
  t212:=Tryz.underlying238
  a212:=Tryz.isAgg238
  z212:=Tryz.sizeOf238
  v212:=Tryz.zeroValue238
  t213:=Tryz.underlying239
  a213:=Tryz.isAgg239
  z213:=Tryz.sizeOf239
  t232:=Tryz.underlying301
  a232:=Tryz.isAgg301
  z232:=Tryz.sizeOf301
  v232:=Tryz.zeroValue301
  t233:=Tryz.underlying302
  a233:=Tryz.isAgg302
  z233:=Tryz.sizeOf302
  v233:=Tryz.zeroValue302
  g17:=by kernel_rfl
  g18:=by kernel_rfl
  g19:=by kernel_rfl
  i0:=by kernel_rfl
  i2:=by kernel_rfl
  i3:=by kernel_rfl
  i4:=by kernel_rfl
  i5:=by kernel_rfl
  i9:=by kernel_rfl
  i20:=by kernel_rfl
  i37:=by kernel_rfl
  i46:=by kernel_rfl
  i51:=by kernel_rfl
  i53:=by kernel_rfl
  i171:=by kernel_rfl
  i173:=by kernel_rfl
  i212:=by kernel_rfl
  i232:=by kernel_rfl
  i233:=by kernel_rfl
  m17:=by kernel_rfl
  m18:=by kernel_rfl
  m19:=by kernel_rfl
noncomputable def qjk:Con:=⟨[.int .i64],true,[],.str,fun x=>itoaS x.1,none⟩
theorem qpG:ConOK Tryz.prog 48 qjk:=by
  refine⟨rfl,fun h=>(by cases h),fun g h=>(by cases h),fun w S args x r hS hT ha hr=>?_⟩
  obtain⟨n,⟨⟩⟩:=x
  obtain⟨v,q,e1,⟨cs,⟨_,rfl⟩,rfl⟩,h2⟩:=ha
  obtain rfl:q=[]:=h2
  obtain rfl:args = #[.int .i64 n]:=by rw[←Array.toList_inj,e1];rfl
  have hr:itoaS n=some r:=hr
  obtain⟨hb,rfl⟩:=qgE hr
  · simp only[Bool.and_eq_true,decide_eq_true_eq] at hb
    refine(Any.strconv_Itoa (P:=Tryz.prog) (ρ:=qxQ) itoa_lay n hb.1 hb.2 w (tab_pow10 hT)).mono ?_
    rintro e w' ⟨rfl,k,os,rfl⟩
    exact⟨_,rfl,chg_grown,[],[.string ⟨(Go.Lib.itoa n).toArray⟩],List.nodup_nil,(by simp),⟨rfl,rfl⟩,rfl⟩

def qpH:Go.Shelf.Ren:=⟨fun | 156=>52 | 165=>60 | 166=>22 | 169=>24 | 240=>57 | 241=>104 | 276=>100 | 277=>160 | n=>n,fun | 31=>108 | 9=>9 | 3=>3 | 4=>4 | 0=>0 | 20=>20 | 72=>86 | 76=>90 | 70=>83 | 37=>84 | 75=>89 | 127=>155 | 164=>189 | 5=>5 | 80=>93 | n=>n,fun | n=>n⟩
open Go.Shelf in
theorem qw5:Go.Proofs.Lays.n156 Tryz.prog qpH where
  mixed:=by kernel_rfl
  f156:=Tryz.func52.trans (congrArg some (by kernel_rfl))
  f165:=Tryz.func60.trans (congrArg some (by kernel_rfl))
  f166:=Tryz.func22.trans (congrArg some (by kernel_rfl))
  f169:=Tryz.func24.trans (congrArg some (by kernel_rfl))
  f240:=Tryz.func57.trans (congrArg some (by kernel_rfl))
  f241:=Tryz.func104.trans (congrArg some (by kernel_rfl))
  f276:=Tryz.func100.trans (congrArg some (by kernel_rfl))
  f277:=Tryz.func160.trans (congrArg some (by kernel_rfl))
  t0:=Tryz.underlying0
  a0:=Tryz.isAgg0
  z0:=Tryz.sizeOf0
  v0:=Tryz.zeroValue0
  t3:=Tryz.underlying3
  a3:=Tryz.isAgg3
  z3:=Tryz.sizeOf3
  v3:=Tryz.zeroValue3
  t4:=Tryz.underlying4
  a4:=Tryz.isAgg4
  z4:=Tryz.sizeOf4
  v4:=Tryz.zeroValue4
  t9:=Tryz.underlying9
  a9:=Tryz.isAgg9
  z9:=Tryz.sizeOf9
  v9:=Tryz.zeroValue9
  t20:=Tryz.underlying20
  a20:=Tryz.isAgg20
  z20:=Tryz.sizeOf20
  v20:=Tryz.zeroValue20
  t31:=Tryz.underlying108
  a31:=Tryz.isAgg108
  z31:=Tryz.sizeOf108
  v31:=Tryz.zeroValue108
  t37:=Tryz.underlying84
  a37:=Tryz.isAgg84
  z37:=Tryz.sizeOf84
  v37:=Tryz.zeroValue84
  t70:=Tryz.underlying83
  a70:=Tryz.isAgg83
  z70:=Tryz.sizeOf83
  v70:=Tryz.zeroValue83
  t72:=Tryz.underlying86
  a72:=Tryz.isAgg86
  z72:=Tryz.sizeOf86
  v72:=Tryz.zeroValue86
  t75:=Tryz.underlying89
  a75:=Tryz.isAgg89
  z75:=Tryz.sizeOf89
  v75:=Tryz.zeroValue89
  t76:=Tryz.underlying90
  a76:=Tryz.isAgg90
  z76:=Tryz.sizeOf90
  v76:=Tryz.zeroValue90
  t127:=Tryz.underlying155
  a127:=Tryz.isAgg155
  z127:=Tryz.sizeOf155
  v127:=Tryz.zeroValue155
  t164:=Tryz.underlying189
  a164:=Tryz.isAgg189
  z164:=Tryz.sizeOf189
  v164:=Tryz.zeroValue189
theorem qsn:Go.Proofs.Builder.Extra Tryz.prog qpH where
  sizeBuilder:=by kernel_rfl
  liesBuilder:=by kernel_rfl
  t5:=Tryz.underlying5
  a5:=Tryz.isAgg5
  z5:=Tryz.sizeOf5
  v5:=Tryz.zeroValue5
  infoByte:=by kernel_rfl
  cellsByte:=by kernel_rfl
  sizeByte:=by kernel_rfl
  neB5:=by decide
noncomputable def qjv:Con:=⟨[.sl .str,.str],true,[],.str,fun x=>joinS x.1 x.2.1,none⟩
theorem qtw:ConOK Tryz.prog 52 qjv:=by
  refine⟨rfl,fun h=>(by cases h),fun g h=>(by cases h),fun w S args x r hS hT ha hr=>?_⟩
  obtain⟨l,sep,⟨⟩⟩:=x
  obtain⟨v,q,e1,⟨cs,⟨_,ao,cap,us,rfl,hcap,hrep,hne⟩,rfl⟩,v2,q2,rfl,⟨cs2,⟨_,rfl⟩,rfl⟩,h2⟩:=ha
  obtain rfl:q2=[]:=h2
  obtain rfl:args = #[.slice ao l.length cap,.string sep]:=by rw[←Array.toList_inj,e1];rfl
  have hr:joinS l sep=some r:=hr
  obtain⟨hb,rfl⟩:=qgE hr
  · simp only[Bool.and_eq_true] at hb
    have h3:=Nat.le_of_ble_eq_true hb.1
    have h4:=Nat.le_of_ble_eq_true hb.2
    have hus:=qvi hrep
    subst hus
    have fin:∀w',Go.Eng.Chg [] w w'→∃v,Ending.returned (.string ⟨(Go.Lib.join (l.map (·.data.toList)) sep.data.toList).toArray⟩)=Ending.returned v∧Go.Eng.Chg [] w w'∧ResR w w' S qjv (⟨(Go.Lib.join (l.map (·.data.toList)) sep.data.toList).toArray⟩:ByteArray) v :=
      fun w' hc=>⟨_,rfl,hc,[],[.string ⟨(Go.Lib.join (l.map (·.data.toList)) sep.data.toList).toArray⟩],List.nodup_nil,(by simp),⟨rfl,rfl⟩,rfl⟩
    by_cases h0:l=[]
    · subst h0
      refine(Any.strings_Join_none (P:=Tryz.prog) (ρ:=qpH) qw5 qsn ao cap sep w).mono ?_
      rintro e w' ⟨rfl,rfl⟩
      exact fin _ (Go.Eng.Chg.refl _ _)
    · obtain⟨a,rfl,ha,hcells⟩:=hne h0
      obtain⟨bk,o,spot⟩:=a
      have hsp:spot=none:=by
        cases l with
        | nil=>exact absurd rfl h0
        | cons x l' =>
          have:=hcells 0 (.string x) rfl
          cases spot with
          | none=>rfl
          | some s=>exact absurd this (by simp[Addr.add,World.cell?];split<;>simp)
      subst hsp
      refine(Any.strings_Join (P:=Tryz.prog) (ρ:=qpH) qw5 qsn bk o cap l sep w (fun j x hj=>by
        have:=hcells j (.string x) ((List.getElem?_map (f:=Value.string) (l:=(l:List ByteArray)) (i:=j)).trans (congrArg (Option.map Value.string) hj))
        rwa [Go.Eng.adr_add] at this) (hS bk ha) h3 hcap h4).mono ?_
      rintro e w' ⟨rfl,hb⟩
      exact fin _ (qfL rfl hb)

def ixb_ren:Go.Shelf.Ren:=⟨fun | 137=>198 | 217=>161 | 266=>215 | n=>n,fun | 9=>9 | 5=>5 | 3=>3 | n=>n,fun | n=>n⟩
open Go.Shelf in
theorem ixb_lay:Go.Proofs.Lays.n137 Tryz.prog ixb_ren where
  mixed:=by kernel_rfl
  f137:=Tryz.func198.trans (congrArg some (by kernel_rfl))
  f217:=Tryz.func161.trans (congrArg some (by kernel_rfl))
  f266:=Tryz.func215.trans (congrArg some (by kernel_rfl))
  t3:=Tryz.underlying3
  a3:=Tryz.isAgg3
  z3:=Tryz.sizeOf3
  v3:=Tryz.zeroValue3
  t5:=Tryz.underlying5
  a5:=Tryz.isAgg5
  z5:=Tryz.sizeOf5
  v5:=Tryz.zeroValue5
  t9:=Tryz.underlying9
  a9:=Tryz.isAgg9
  z9:=Tryz.sizeOf9
  v9:=Tryz.zeroValue9
noncomputable def qlb:Con:=⟨[.str,.int .u8],true,[],.int .i64,fun x=>some (qfx x.1 x.2.1),some fun x=>qfx x.1 x.2.1⟩
theorem qsT:ConOK Tryz.prog 198 qlb:=by
  refine⟨rfl,fun h=>(by cases h),fun g h x=>(by cases h;rfl),fun w S args x r hS hT ha hr=>?_⟩
  obtain⟨s,c,⟨⟩⟩:=x
  obtain⟨v,q,e1,⟨cs,⟨_,rfl⟩,rfl⟩,v2,q2,rfl,⟨cs2,⟨_,rfl⟩,rfl⟩,h2⟩:=ha
  obtain rfl:q2=[]:=h2
  obtain rfl:args = #[.string s,.int .u8 c]:=by rw[←Array.toList_inj,e1];rfl
  obtain rfl:qfx s c=r:=Option.some.inj hr
  refine(Any.strings_IndexByte (P:=Tryz.prog) (ρ:=ixb_ren) ixb_lay s c w).mono ?_
  rintro e w' ⟨rfl,rfl⟩
  exact⟨_,rfl,Go.Eng.Chg.refl _ _,[],[.int .i64 _],List.nodup_nil,(by simp),⟨rfl,rfl⟩,rfl⟩

def split_ren:Go.Shelf.Ren:=⟨fun | 146=>32 | 221=>69 | 268=>119 | 138=>120 | 143=>121 | 195=>177 | 197=>166 | 218=>178 | 219=>105 | 260=>217 | 217=>161 | 225=>162 | 224=>163 | 267=>164 | 266=>215 | 314=>216 | n=>n,fun | 9=>9 | 31=>108 | 3=>3 | 4=>4 | 0=>0 | 105=>244 | 21=>21 | 5=>5 | 46=>150 | 119=>303 | 139=>306 | 138=>305 | 146=>192 | 51=>191 | n=>n,fun | 1=>1 | 3=>6 | 4=>7 | n=>n⟩
open Go.Shelf in
theorem split_lay:Go.Proofs.Lays.n146 Tryz.prog split_ren where
  mixed:=by kernel_rfl
  f138:=Tryz.func120.trans (congrArg some (by kernel_rfl))
  f143:=Tryz.func121.trans (congrArg some (by kernel_rfl))
  f146:=Tryz.func32.trans (congrArg some (by kernel_rfl))
  f195:=Tryz.func177.trans (congrArg some (by kernel_rfl))
  f197:=Tryz.func166.trans (congrArg some (by kernel_rfl))
  f217:=Tryz.func161.trans (congrArg some (by kernel_rfl))
  f218:=Tryz.func178.trans (congrArg some (by kernel_rfl))
  f219:=Tryz.func105.trans (congrArg some (by kernel_rfl))
  f221:=Tryz.func69.trans (congrArg some (by kernel_rfl))
  f224:=Tryz.func163.trans (congrArg some (by kernel_rfl))
  f225:=Tryz.func162.trans (congrArg some (by kernel_rfl))
  f260:=Tryz.func217.trans (congrArg some (by kernel_rfl))
  f266:=Tryz.func215.trans (congrArg some (by kernel_rfl))
  f267:=Tryz.func164.trans (congrArg some (by kernel_rfl))
  f268:=Tryz.func119.trans (congrArg some (by kernel_rfl))
  f314:=Tryz.func216.trans (congrArg some (by kernel_rfl))
  t0:=Tryz.underlying0
  a0:=Tryz.isAgg0
  z0:=Tryz.sizeOf0
  v0:=Tryz.zeroValue0
  t3:=Tryz.underlying3
  a3:=Tryz.isAgg3
  z3:=Tryz.sizeOf3
  v3:=Tryz.zeroValue3
  t4:=Tryz.underlying4
  a4:=Tryz.isAgg4
  z4:=Tryz.sizeOf4
  v4:=Tryz.zeroValue4
  t5:=Tryz.underlying5
  a5:=Tryz.isAgg5
  z5:=Tryz.sizeOf5
  v5:=Tryz.zeroValue5
  t9:=Tryz.underlying9
  a9:=Tryz.isAgg9
  z9:=Tryz.sizeOf9
  v9:=Tryz.zeroValue9
  t21:=Tryz.underlying21
  a21:=Tryz.isAgg21
  z21:=Tryz.sizeOf21
  v21:=Tryz.zeroValue21
  t31:=Tryz.underlying108
  a31:=Tryz.isAgg108
  z31:=Tryz.sizeOf108
  v31:=Tryz.zeroValue108
  t46:=Tryz.underlying150
  a46:=Tryz.isAgg150
  z46:=Tryz.sizeOf150
  v46:=Tryz.zeroValue150
  t51:=Tryz.underlying191
  a51:=Tryz.isAgg191
  z51:=Tryz.sizeOf191
  v51:=Tryz.zeroValue191
  t105:=Tryz.underlying244
  a105:=Tryz.isAgg244
  z105:=Tryz.sizeOf244
  v105:=Tryz.zeroValue244
  t119:=Tryz.underlying303
  a119:=Tryz.isAgg303
  z119:=Tryz.sizeOf303
  t138:=Tryz.underlying305
  a138:=Tryz.isAgg305
  z138:=Tryz.sizeOf305
  v138:=Tryz.zeroValue305
  t139:=Tryz.underlying306
  a139:=Tryz.isAgg306
  z139:=Tryz.sizeOf306
  v139:=Tryz.zeroValue306
  t146:=Tryz.underlying192
  a146:=Tryz.isAgg192
  z146:=Tryz.sizeOf192
  v146:=Tryz.zeroValue192
  g1:=by kernel_rfl
  g3:=by kernel_rfl
  g4:=by kernel_rfl
noncomputable def qrY:Con:=⟨[.str,.str],true,[],.sl .str,fun x=>qse x.1 x.2.1,none⟩
theorem splitS_ok:ConOK Tryz.prog 32 qrY:=by
  refine⟨rfl,fun h=>(by cases h),fun g h=>(by cases h),fun w S args x r hS hT ha hr=>?_⟩
  obtain⟨s,sep,⟨⟩⟩:=x
  obtain⟨v,q,e1,⟨cs,⟨_,rfl⟩,rfl⟩,v2,q2,rfl,⟨cs2,⟨_,rfl⟩,rfl⟩,h2⟩:=ha
  obtain rfl:q2=[]:=h2
  obtain rfl:args = #[.string s,.string sep]:=by rw[←Array.toList_inj,e1];rfl
  have hr:qse s sep=some r:=hr
  obtain⟨hb,rfl⟩:=qgE hr
  simp only[Bool.and_eq_true] at hb
  have h3:=Nat.le_of_ble_eq_true hb.1
  have h4:=Nat.le_of_ble_eq_true hb.2
  obtain⟨m,hm⟩:=open_int (g:=1) hT (by decide)
  have hlen:=Go.Lib.splitB_all sep h4 0 _ s rfl
  refine(Any.strings_Split (P:=Tryz.prog) (ρ:=split_ren) split_lay (by kernel_rfl) s sep m w (Nat.lt_succ_of_le h3) hm h4).mono ?_
  rintro e w' ⟨rfl,rfl⟩
  generalize Go.Lib.splitB sep 0 (Go.Lib.countB s sep) s=l at hlen ⊢
  rw[←hlen]
  have hnew:=Go.Eng.alloc_blk w (l.map Value.string).toArray (split_ren.t 9)
  have hsz:=Go.Eng.alloc_size w (.cells (l.map Value.string).toArray (split_ren.t 9))
  refine⟨_,rfl,Go.Eng.alloc_chg _ _,[],[.slice (some ⟨w.heap.size,0,none⟩) l.length l.length],List.nodup_nil,(by simp),⟨rfl,_,_,l.map Value.string,rfl,Nat.le_refl _,qxh l,fun _=>⟨_,rfl,⟨by rw[hsz];exact Nat.lt_succ_self _,.inr (Nat.le_refl _),by simp⟩,?_⟩⟩,rfl⟩
  have:=qfH (w:=w.alloc (.cells (l.map Value.string).toArray (split_ren.t 9))) (b:=w.heap.size) hnew 0
  simpa using this

noncomputable def qfE:Con:=⟨[.str],true,[],.int .i64,fun x=>some (qat x.1),some fun x=>qat x.1⟩
theorem qlA:ConOK Tryz.prog 65 qfE:=by
  refine⟨rfl,fun h=>(by cases h),fun g h=>(by cases h;intro x;rfl),fun w S args x r hS hT ha hr=>?_⟩
  obtain⟨s,⟨⟩⟩:=x
  obtain⟨v,q,e1,⟨cs,⟨_,rfl⟩,rfl⟩,h2⟩:=ha
  obtain rfl:q=[]:=h2
  obtain rfl:args = #[.string s]:=by rw[←Array.toList_inj,e1];rfl
  have hr:some (qat s)=some r:=hr
  cases hr
  refine(qwr s w).mono ?_
  rintro e w' ⟨rfl,hb⟩
  exact⟨_,rfl,qfL rfl hb,[],[.int .i64 (qat s)],List.nodup_nil,(by simp),⟨rfl,rfl⟩,rfl⟩

def ato_ren:Go.Shelf.Ren:=⟨fun | 172=>68 | 244=>118 | 245=>114 | 247=>176 | 279=>171 | 280=>172 | 281=>173 | 282=>174 | 287=>113 | 316=>115 | 171=>48 | 205=>220 | 321=>169 | 322=>170 | 243=>87 | 246=>138 | 283=>96 | 284=>97 | 285=>98 | 286=>99 | 129=>156 | 317=>155 | 318=>157 | 319=>158 | 320=>159 | 337=>213 | 338=>214 | n=>n,fun | 9=>9 | 3=>3 | 75=>89 | 76=>90 | 4=>4 | 5=>5 | 167=>247 | 37=>84 | 0=>0 | 85=>253 | 2=>2 | 168=>249 | 53=>44 | 175=>157 | 46=>150 | 210=>285 | 127=>155 | 145=>309 | 143=>307 | 21=>21 | 171=>184 | 173=>187 | 212=>238 | 51=>191 | 20=>20 | 213=>239 | 232=>301 | 233=>302 | 80=>93 | n=>n,fun | 15=>2 | 16=>3 | 17=>0 | 18=>4 | 19=>5 | n=>n⟩
open Go.Shelf in
theorem ato_lay:Go.Proofs.LaysC.n172 Tryz.prog ato_ren where
  mixed:=by kernel_rfl
  f129:=Tryz.func156.trans (congrArg some (by kernel_rfl))
  f171:=Tryz.func48.trans (congrArg some (by kernel_rfl))
  f172:=Tryz.func68.trans (congrArg some (by kernel_rfl))
  f205:=Tryz.func220.trans (congrArg some (by kernel_rfl))
  f243:=Tryz.func87.trans (congrArg some (by kernel_rfl))
  f244:=Tryz.func118.trans (congrArg some (by kernel_rfl))
  f245:=Tryz.func114.trans (congrArg some (by kernel_rfl))
  f246:=Tryz.func138.trans (congrArg some (by kernel_rfl))
  f247:=Tryz.func176.trans (congrArg some (by kernel_rfl))
  f279:=Tryz.func171.trans (congrArg some (by kernel_rfl))
  f280:=Tryz.func172.trans (congrArg some (by kernel_rfl))
  f281:=Tryz.func173.trans (congrArg some (by kernel_rfl))
  f282:=Tryz.func174.trans (congrArg some (by kernel_rfl))
  f283:=Tryz.func96.trans (congrArg some (by kernel_rfl))
  f284:=Tryz.func97.trans (congrArg some (by kernel_rfl))
  f285:=Tryz.func98.trans (congrArg some (by kernel_rfl))
  f286:=Tryz.func99.trans (congrArg some (by kernel_rfl))
  f287:=Tryz.func113.trans (congrArg some (by kernel_rfl))
  f316:=Tryz.func115.trans (congrArg some (by kernel_rfl))
  f317:=Tryz.func155.trans (congrArg some (by kernel_rfl))
  f318:=Tryz.func157.trans (congrArg some (by kernel_rfl))
  f319:=Tryz.func158.trans (congrArg some (by kernel_rfl))
  f320:=Tryz.func159.trans (congrArg some (by kernel_rfl))
  f321:=Tryz.func169.trans (congrArg some (by kernel_rfl))
  f322:=Tryz.func170.trans (congrArg some (by kernel_rfl))
  f337:=Tryz.func213.trans (congrArg some (by kernel_rfl))
  f338:=Tryz.func214.trans (congrArg some (by kernel_rfl))
  t0:=Tryz.underlying0
  a0:=Tryz.isAgg0
  z0:=Tryz.sizeOf0
  v0:=Tryz.zeroValue0
  t2:=Tryz.underlying2
  a2:=Tryz.isAgg2
  z2:=Tryz.sizeOf2
  v2:=Tryz.zeroValue2
  t3:=Tryz.underlying3
  a3:=Tryz.isAgg3
  z3:=Tryz.sizeOf3
  v3:=Tryz.zeroValue3
  t4:=Tryz.underlying4
  a4:=Tryz.isAgg4
  z4:=Tryz.sizeOf4
  v4:=Tryz.zeroValue4
  t5:=Tryz.underlying5
  a5:=Tryz.isAgg5
  z5:=Tryz.sizeOf5
  v5:=Tryz.zeroValue5
  t9:=Tryz.underlying9
  a9:=Tryz.isAgg9
  z9:=Tryz.sizeOf9
  v9:=Tryz.zeroValue9
  t20:=Tryz.underlying20
  a20:=Tryz.isAgg20
  z20:=Tryz.sizeOf20
  v20:=Tryz.zeroValue20
  t21:=Tryz.underlying21
  a21:=Tryz.isAgg21
  z21:=Tryz.sizeOf21
  v21:=Tryz.zeroValue21
  t37:=Tryz.underlying84
  a37:=Tryz.isAgg84
  z37:=Tryz.sizeOf84
  v37:=Tryz.zeroValue84
  t46:=Tryz.underlying150
  a46:=Tryz.isAgg150
  z46:=Tryz.sizeOf150
  v46:=Tryz.zeroValue150
  t51:=Tryz.underlying191
  a51:=Tryz.isAgg191
  z51:=Tryz.sizeOf191
  v51:=Tryz.zeroValue191
  t53:=Tryz.underlying44
  a53:=Tryz.isAgg44
  z53:=Tryz.sizeOf44
  v53:=Tryz.zeroValue44
  t75:=Tryz.underlying89
  a75:=Tryz.isAgg89
  z75:=Tryz.sizeOf89
  v75:=Tryz.zeroValue89
  t76:=Tryz.underlying90
  a76:=Tryz.isAgg90
  z76:=Tryz.sizeOf90
  v76:=Tryz.zeroValue90
  t85:=Tryz.underlying253
  a85:=Tryz.isAgg253
  z85:=Tryz.sizeOf253
  v85:=Tryz.zeroValue253
  t127:=Tryz.underlying155
  a127:=Tryz.isAgg155
  z127:=Tryz.sizeOf155
  v127:=Tryz.zeroValue155
  t143:=Tryz.underlying307
  a143:=Tryz.isAgg307
  z143:=Tryz.sizeOf307
  v143:=Tryz.zeroValue307
  t145:=Tryz.underlying309
  a145:=Tryz.isAgg309
  z145:=Tryz.sizeOf309
  v145:=Tryz.zeroValue309
  t167:=Tryz.underlying247
  a167:=Tryz.isAgg247
  z167:=Tryz.sizeOf247
  v167:=Tryz.zeroValue247
  t168:=Tryz.underlying249
  a168:=Tryz.isAgg249
  z168:=Tryz.sizeOf249
  v168:=Tryz.zeroValue249
  t171:=Tryz.underlying184
  a171:=Tryz.isAgg184
  z171:=Tryz.sizeOf184
  v171:=Tryz.zeroValue184
  t173:=Tryz.underlying187
  a173:=Tryz.isAgg187
  z173:=Tryz.sizeOf187
  v173:=Tryz.zeroValue187
  t175:=Tryz.underlying157
  a175:=Tryz.isAgg157
  z175:=Tryz.sizeOf157
  v175:=Tryz.zeroValue157
  t210:=Tryz.underlying285
  a210:=Tryz.isAgg285
  z210:=Tryz.sizeOf285
  v210:=Tryz.zeroValue285
  t212:=Tryz.underlying238
  a212:=Tryz.isAgg238
  z212:=Tryz.sizeOf238
  v212:=Tryz.zeroValue238
  t213:=Tryz.underlying239
  a213:=Tryz.isAgg239
  z213:=Tryz.sizeOf239
  t232:=Tryz.underlying301
  a232:=Tryz.isAgg301
  z232:=Tryz.sizeOf301
  v232:=Tryz.zeroValue301
  t233:=Tryz.underlying302
  a233:=Tryz.isAgg302
  z233:=Tryz.sizeOf302
  v233:=Tryz.zeroValue302
  g15:=by kernel_rfl
  g16:=by kernel_rfl
  g17:=by kernel_rfl
  g18:=by kernel_rfl
  g19:=by kernel_rfl
  t80:=Tryz.underlying93
  a80:=Tryz.isAgg93
  z80:=Tryz.sizeOf93
  v80:=Tryz.zeroValue93
  i0:=by kernel_rfl
  i2:=by kernel_rfl
  i3:=by kernel_rfl
  i4:=by kernel_rfl
  i5:=by kernel_rfl
  i9:=by kernel_rfl
  i20:=by kernel_rfl
  i21:=by kernel_rfl
  i37:=by kernel_rfl
  i46:=by kernel_rfl
  i51:=by kernel_rfl
  i53:=by kernel_rfl
  i75:=by kernel_rfl
  i76:=by kernel_rfl
  i80:=by kernel_rfl
  i85:=by kernel_rfl
  i127:=by kernel_rfl
  i143:=by kernel_rfl
  i145:=by kernel_rfl
  i167:=by kernel_rfl
  i168:=by kernel_rfl
  i171:=by kernel_rfl
  i173:=by kernel_rfl
  i175:=by kernel_rfl
  i210:=by kernel_rfl
  i212:=by kernel_rfl
  i232:=by kernel_rfl
  i233:=by kernel_rfl
  m15:=by kernel_rfl
  m16:=by kernel_rfl
  m17:=by kernel_rfl
  m18:=by kernel_rfl
  m19:=by kernel_rfl
  c0:=by kernel_rfl
  c2:=by kernel_rfl
  c3:=by kernel_rfl
  c4:=by kernel_rfl
  c5:=by kernel_rfl
  c9:=by kernel_rfl
  c20:=by kernel_rfl
  c21:=by kernel_rfl
  c37:=by kernel_rfl
  c46:=by kernel_rfl
  c51:=by kernel_rfl
  c53:=by kernel_rfl
  c75:=by kernel_rfl
  c76:=by kernel_rfl
  c80:=by kernel_rfl
  c85:=by kernel_rfl
  c127:=by kernel_rfl
  c143:=by kernel_rfl
  c145:=by kernel_rfl
  c167:=by kernel_rfl
  c168:=by kernel_rfl
  c171:=by kernel_rfl
  c173:=by kernel_rfl
  c175:=by kernel_rfl
  c210:=by kernel_rfl
  c212:=by kernel_rfl
  c213:=by kernel_rfl
  c232:=by kernel_rfl
  c233:=by kernel_rfl
noncomputable def quV:Con:=⟨[.str],false,[.int .i64,.err],.st Zt59 (.st .err .nil),fun x=>atoiS x.1,none⟩
theorem atoiS_ok:ConOK Tryz.prog 68 quV:=by
  refine⟨rfl,fun _=>rfl,fun g h=>(by cases h),fun w S args x r hS hT ha hr=>?_⟩
  obtain⟨s,⟨⟩⟩:=x
  obtain⟨v,q,e1,⟨cs,⟨_,rfl⟩,rfl⟩,h2⟩:=ha
  obtain rfl:q=[]:=h2
  obtain rfl:args = #[.string s]:=by rw[←Array.toList_inj,e1];rfl
  have hr:atoiS s=some r:=hr
  obtain⟨hb,hr⟩:Nat.ble s.size 9223372036854775806=true∧(match Go.Lib.atoiAll s.data.toList with | .ok v=>some (v,(false,())) | _=>none)=some r:=by
    unfold atoiS at hr
    cases h:Nat.ble s.size 9223372036854775806
    · rw[h] at hr;cases hr
    · rw[h] at hr;exact⟨rfl,hr⟩
  have hb:=Nat.le_of_ble_eq_true hb
  cases hq:Go.Lib.atoiAll s.data.toList with
  | ok v =>
    rw[hq] at hr
    cases hr
    refine(Any.strconv_Atoi_ok (P:=Tryz.prog) (ρ:=ato_ren) ato_lay s hb v hq w).mono ?_
    rintro e w' ⟨rfl,hw⟩
    have hch:Go.Eng.Chg [] w w':=by
      rcases hw with rfl | ⟨t,rfl⟩
      · exact Go.Eng.Chg.refl _ _
      · exact qfL rfl (Go.Lib.bytesWorld_below w _ t)
    exact⟨_,rfl,hch,[],[.int .i64 v,.nilIface],List.nodup_nil,(by simp),⟨[.int .i64 v],[.nilIface],[],[],rfl,rfl,⟨rfl,rfl⟩,⟨[.nilIface],[],[],[],rfl,rfl,⟨rfl,.nilIface,rfl,.inl ⟨rfl,rfl⟩⟩,⟨rfl,rfl⟩⟩⟩,rfl⟩
  | _=>rw[hq] at hr;cases hr

def qwz:Go.Shelf.Ren:=⟨fun | 105=>23 | 212=>58 | 99=>59 | 165=>60 | 166=>22 | 170=>54 | 169=>24 | 263=>101 | 264=>102 | 206=>103 | 240=>57 | 241=>104 | 276=>100 | 277=>160 | n=>n,fun | 9=>9 | 3=>3 | 4=>4 | 20=>20 | 0=>0 | 46=>150 | 109=>151 | 5=>5 | 72=>86 | 76=>90 | 51=>191 | 146=>192 | 53=>44 | 148=>194 | 70=>83 | 37=>84 | 75=>89 | 127=>155 | 164=>189 | 80=>93 | n=>n,fun | n=>n⟩
open Go.Shelf in
theorem rep_lay:Go.Proofs.Lays.n105 Tryz.prog qwz where
  mixed:=by kernel_rfl
  f99:=Tryz.func59.trans (congrArg some (by kernel_rfl))
  f105:=Tryz.func23.trans (congrArg some (by kernel_rfl))
  f165:=Tryz.func60.trans (congrArg some (by kernel_rfl))
  f166:=Tryz.func22.trans (congrArg some (by kernel_rfl))
  f169:=Tryz.func24.trans (congrArg some (by kernel_rfl))
  f170:=Tryz.func54.trans (congrArg some (by kernel_rfl))
  f206:=Tryz.func103.trans (congrArg some (by kernel_rfl))
  f212:=Tryz.func58.trans (congrArg some (by kernel_rfl))
  f240:=Tryz.func57.trans (congrArg some (by kernel_rfl))
  f241:=Tryz.func104.trans (congrArg some (by kernel_rfl))
  f263:=Tryz.func101.trans (congrArg some (by kernel_rfl))
  f264:=Tryz.func102.trans (congrArg some (by kernel_rfl))
  f276:=Tryz.func100.trans (congrArg some (by kernel_rfl))
  f277:=Tryz.func160.trans (congrArg some (by kernel_rfl))
  t0:=Tryz.underlying0
  a0:=Tryz.isAgg0
  z0:=Tryz.sizeOf0
  v0:=Tryz.zeroValue0
  t3:=Tryz.underlying3
  a3:=Tryz.isAgg3
  z3:=Tryz.sizeOf3
  v3:=Tryz.zeroValue3
  t4:=Tryz.underlying4
  a4:=Tryz.isAgg4
  z4:=Tryz.sizeOf4
  v4:=Tryz.zeroValue4
  t5:=Tryz.underlying5
  a5:=Tryz.isAgg5
  z5:=Tryz.sizeOf5
  v5:=Tryz.zeroValue5
  t9:=Tryz.underlying9
  a9:=Tryz.isAgg9
  z9:=Tryz.sizeOf9
  v9:=Tryz.zeroValue9
  t20:=Tryz.underlying20
  a20:=Tryz.isAgg20
  z20:=Tryz.sizeOf20
  v20:=Tryz.zeroValue20
  t37:=Tryz.underlying84
  a37:=Tryz.isAgg84
  z37:=Tryz.sizeOf84
  v37:=Tryz.zeroValue84
  t46:=Tryz.underlying150
  a46:=Tryz.isAgg150
  z46:=Tryz.sizeOf150
  v46:=Tryz.zeroValue150
  t51:=Tryz.underlying191
  a51:=Tryz.isAgg191
  z51:=Tryz.sizeOf191
  v51:=Tryz.zeroValue191
  t53:=Tryz.underlying44
  a53:=Tryz.isAgg44
  z53:=Tryz.sizeOf44
  v53:=Tryz.zeroValue44
  t70:=Tryz.underlying83
  a70:=Tryz.isAgg83
  z70:=Tryz.sizeOf83
  v70:=Tryz.zeroValue83
  t72:=Tryz.underlying86
  a72:=Tryz.isAgg86
  z72:=Tryz.sizeOf86
  v72:=Tryz.zeroValue86
  t75:=Tryz.underlying89
  a75:=Tryz.isAgg89
  z75:=Tryz.sizeOf89
  v75:=Tryz.zeroValue89
  t76:=Tryz.underlying90
  a76:=Tryz.isAgg90
  z76:=Tryz.sizeOf90
  v76:=Tryz.zeroValue90
  t109:=Tryz.underlying151
  a109:=Tryz.isAgg151
  z109:=Tryz.sizeOf151
  v109:=Tryz.zeroValue151
  t127:=Tryz.underlying155
  a127:=Tryz.isAgg155
  z127:=Tryz.sizeOf155
  v127:=Tryz.zeroValue155
  t146:=Tryz.underlying192
  a146:=Tryz.isAgg192
  z146:=Tryz.sizeOf192
  v146:=Tryz.zeroValue192
  t148:=Tryz.underlying194
  a148:=Tryz.isAgg194
  z148:=Tryz.sizeOf194
  v148:=Tryz.zeroValue194
  t164:=Tryz.underlying189
  a164:=Tryz.isAgg189
  z164:=Tryz.sizeOf189
  v164:=Tryz.zeroValue189
theorem rep_extra:Go.Proofs.Builder.Extra Tryz.prog qwz where
  sizeBuilder:=by kernel_rfl
  liesBuilder:=by kernel_rfl
  t5:=Tryz.underlying5
  a5:=Tryz.isAgg5
  z5:=Tryz.sizeOf5
  v5:=Tryz.zeroValue5
  infoByte:=by kernel_rfl
  cellsByte:=by kernel_rfl
  sizeByte:=by kernel_rfl
  neB5:=by decide
noncomputable def qqQ:Con:=⟨[.str,.int .i64],true,[],.str,fun x=>qof x.1 x.2.1,none⟩
theorem qyG:ConOK Tryz.prog 23 qqQ:=by
  refine⟨rfl,fun h=>(by cases h),fun g h=>(by cases h),fun w S args x r hS hT ha hr=>?_⟩
  obtain⟨s,n,⟨⟩⟩:=x
  obtain⟨v,q,e1,⟨cs,⟨_,rfl⟩,rfl⟩,v2,q2,rfl,⟨cs2,⟨_,rfl⟩,rfl⟩,h2⟩:=ha
  obtain rfl:q2=[]:=h2
  obtain rfl:args = #[.string s,.int .i64 n]:=by rw[←Array.toList_inj,e1];rfl
  have hr:qof s n=some r:=hr
  obtain⟨hb,rfl⟩:=qgE hr
  simp only[Bool.and_eq_true,decide_eq_true_eq] at hb
  obtain⟨h0,h1,h3⟩:=hb
  have h3:=Nat.le_of_ble_eq_true h3
  obtain⟨m,rfl⟩:=Int.eq_ofNat_of_zero_le h0
  rw[Int.toNat_natCast] at h3
  refine(Any.strings_Repeat (P:=Tryz.prog) (ρ:=qwz) rep_lay rep_extra s m w (by omega) h3).mono ?_
  rintro e w' ⟨rfl,hb⟩
  exact⟨_,rfl,qfL rfl hb,[],[.string _],List.nodup_nil,(by simp),⟨rfl,rfl⟩,rfl⟩

def ix1_ren:Go.Shelf.Ren:=⟨fun | 219=>105 | 217=>161 | 225=>162 | 224=>163 | 267=>164 | 266=>215 | 314=>216 | n=>n,fun | 9=>9 | 3=>3 | 4=>4 | 5=>5 | 46=>150 | 146=>192 | 51=>191 | n=>n,fun | 1=>1 | n=>n⟩
open Go.Shelf in
theorem ix1_lay:Go.Proofs.Lays.n219 Tryz.prog ix1_ren where
  mixed:=by kernel_rfl
  f217:=Tryz.func161.trans (congrArg some (by kernel_rfl))
  f219:=Tryz.func105.trans (congrArg some (by kernel_rfl))
  f224:=Tryz.func163.trans (congrArg some (by kernel_rfl))
  f225:=Tryz.func162.trans (congrArg some (by kernel_rfl))
  f266:=Tryz.func215.trans (congrArg some (by kernel_rfl))
  f267:=Tryz.func164.trans (congrArg some (by kernel_rfl))
  f314:=Tryz.func216.trans (congrArg some (by kernel_rfl))
  t3:=Tryz.underlying3
  a3:=Tryz.isAgg3
  z3:=Tryz.sizeOf3
  v3:=Tryz.zeroValue3
  t4:=Tryz.underlying4
  a4:=Tryz.isAgg4
  z4:=Tryz.sizeOf4
  v4:=Tryz.zeroValue4
  t5:=Tryz.underlying5
  a5:=Tryz.isAgg5
  z5:=Tryz.sizeOf5
  v5:=Tryz.zeroValue5
  t9:=Tryz.underlying9
  a9:=Tryz.isAgg9
  z9:=Tryz.sizeOf9
  v9:=Tryz.zeroValue9
  t46:=Tryz.underlying150
  a46:=Tryz.isAgg150
  z46:=Tryz.sizeOf150
  v46:=Tryz.zeroValue150
  t51:=Tryz.underlying191
  a51:=Tryz.isAgg191
  z51:=Tryz.sizeOf191
  v51:=Tryz.zeroValue191
  t146:=Tryz.underlying192
  a146:=Tryz.isAgg192
  z146:=Tryz.sizeOf192
  v146:=Tryz.zeroValue192
  g1:=by kernel_rfl
noncomputable def qvr:Con:=⟨[.str,.str],true,[],.int .i64,fun x=>idx1S x.1 x.2.1,none⟩
theorem idx1S_ok:ConOK Tryz.prog 105 qvr:=by
  refine⟨rfl,fun h=>(by cases h),fun g h=>(by cases h),fun w S args x r hS hT ha hr=>?_⟩
  obtain⟨s,sep,⟨⟩⟩:=x
  obtain⟨v,q,e1,⟨cs,⟨_,rfl⟩,rfl⟩,v2,q2,rfl,⟨cs2,⟨_,rfl⟩,rfl⟩,h2⟩:=ha
  obtain rfl:q2=[]:=h2
  obtain rfl:args = #[.string s,.string sep]:=by rw[←Array.toList_inj,e1];rfl
  have hr:idx1S s sep=some r:=hr
  obtain⟨hb,rfl⟩:=qgE hr
  obtain⟨c,rfl⟩:∃c:UInt8,sep=⟨#[c]⟩:=by
    have hb:=Nat.eq_of_beq_eq_true hb
    obtain⟨⟨l⟩⟩:=sep
    cases l with
    | nil=>cases hb
    | cons c l =>
      cases l with
      | nil=>exact⟨c,rfl⟩
      | cons d l=>exact absurd hb (by simp[ByteArray.size])
  refine(Any.stringslite_Index_one (P:=Tryz.prog) (ρ:=ix1_ren) ix1_lay s c w).mono ?_
  rintro e w' ⟨rfl,rfl⟩
  exact⟨_,rfl,Go.Eng.Chg.refl _ _,[],[.int .i64 _],List.nodup_nil,(by simp),⟨rfl,rfl⟩,rfl⟩

def clo_ren:Go.Shelf.Ren:=⟨fun | 316=>115 | n=>n,fun | 9=>9 | 3=>3 | 4=>4 | 37=>84 | 0=>0 | 127=>155 | 5=>5 | n=>n,fun | n=>n⟩
open Go.Shelf in
theorem clo_lay:Go.Proofs.LaysM.n316 Tryz.prog clo_ren where
  mixed:=by kernel_rfl
  f316:=Tryz.func115.trans (congrArg some (by kernel_rfl))
  t0:=Tryz.underlying0
  a0:=Tryz.isAgg0
  z0:=Tryz.sizeOf0
  v0:=Tryz.zeroValue0
  t3:=Tryz.underlying3
  a3:=Tryz.isAgg3
  z3:=Tryz.sizeOf3
  v3:=Tryz.zeroValue3
  t4:=Tryz.underlying4
  a4:=Tryz.isAgg4
  z4:=Tryz.sizeOf4
  v4:=Tryz.zeroValue4
  t9:=Tryz.underlying9
  a9:=Tryz.isAgg9
  z9:=Tryz.sizeOf9
  v9:=Tryz.zeroValue9
  t37:=Tryz.underlying84
  a37:=Tryz.isAgg84
  z37:=Tryz.sizeOf84
  v37:=Tryz.zeroValue84
  t127:=Tryz.underlying155
  a127:=Tryz.isAgg155
  z127:=Tryz.sizeOf155
  v127:=Tryz.zeroValue155
  t5:=Tryz.underlying5
  a5:=Tryz.isAgg5
  z5:=Tryz.sizeOf5
  v5:=Tryz.zeroValue5
  i0:=by kernel_rfl
  i3:=by kernel_rfl
  i4:=by kernel_rfl
  i5:=by kernel_rfl
  i9:=by kernel_rfl
  i37:=by kernel_rfl
  i127:=by kernel_rfl
noncomputable def qsm:Con:=⟨[.str],true,[],.str,fun x=>qxq x.1,none⟩
theorem cloneS_ok:ConOK Tryz.prog 115 qsm:=by
  refine⟨rfl,fun h=>(by cases h),fun g h=>(by cases h),fun w S args x r hS hT ha hr=>?_⟩
  obtain⟨s,⟨⟩⟩:=x
  obtain⟨v,q,e1,⟨cs,⟨_,rfl⟩,rfl⟩,h2⟩:=ha
  obtain rfl:q=[]:=h2
  obtain rfl:args = #[.string s]:=by rw[←Array.toList_inj,e1];rfl
  have hr:qxq s=some r:=hr
  obtain⟨hb,rfl⟩:=qgE hr
  refine(Any.stringslite_Clone (P:=Tryz.prog) (ρ:=clo_ren) clo_lay s w (Nat.le_of_ble_eq_true hb)).mono ?_
  rintro e w' ⟨rfl,hb⟩
  exact⟨_,rfl,qfL rfl hb,[],[.string s],List.nodup_nil,(by simp),⟨rfl,rfl⟩,rfl⟩

def tri_ren:Go.Shelf.Ren:=⟨fun | 160=>62 | 232=>107 | 231=>106 | 227=>108 | 234=>110 | 233=>109 | 236=>112 | 235=>111 | 228=>165 | 271=>168 | 151=>167 | 197=>166 | 120=>219 | 152=>218 | 260=>217 | 137=>198 | 119=>244 | 224=>163 | 225=>162 | 217=>161 | 266=>215 | n=>n,fun | 9=>9 | 4=>4 | 3=>3 | 5=>5 | 117=>200 | 116=>199 | 0=>0 | 124=>203 | 21=>21 | 105=>244 | 46=>150 | 119=>303 | 139=>306 | 138=>305 | n=>n,fun | 3=>6 | 4=>7 | n=>n⟩
open Go.Shelf in
theorem tri_lay:Go.Proofs.Lays.n160 Tryz.prog tri_ren where
  mixed:=by kernel_rfl
  f119:=Tryz.func244.trans (congrArg some (by kernel_rfl))
  f120:=Tryz.func219.trans (congrArg some (by kernel_rfl))
  f137:=Tryz.func198.trans (congrArg some (by kernel_rfl))
  f151:=Tryz.func167.trans (congrArg some (by kernel_rfl))
  f152:=Tryz.func218.trans (congrArg some (by kernel_rfl))
  f160:=Tryz.func62.trans (congrArg some (by kernel_rfl))
  f197:=Tryz.func166.trans (congrArg some (by kernel_rfl))
  f217:=Tryz.func161.trans (congrArg some (by kernel_rfl))
  f224:=Tryz.func163.trans (congrArg some (by kernel_rfl))
  f225:=Tryz.func162.trans (congrArg some (by kernel_rfl))
  f227:=Tryz.func108.trans (congrArg some (by kernel_rfl))
  f228:=Tryz.func165.trans (congrArg some (by kernel_rfl))
  f231:=Tryz.func106.trans (congrArg some (by kernel_rfl))
  f232:=Tryz.func107.trans (congrArg some (by kernel_rfl))
  f233:=Tryz.func109.trans (congrArg some (by kernel_rfl))
  f234:=Tryz.func110.trans (congrArg some (by kernel_rfl))
  f235:=Tryz.func111.trans (congrArg some (by kernel_rfl))
  f236:=Tryz.func112.trans (congrArg some (by kernel_rfl))
  f260:=Tryz.func217.trans (congrArg some (by kernel_rfl))
  f266:=Tryz.func215.trans (congrArg some (by kernel_rfl))
  f271:=Tryz.func168.trans (congrArg some (by kernel_rfl))
  t0:=Tryz.underlying0
  a0:=Tryz.isAgg0
  z0:=Tryz.sizeOf0
  v0:=Tryz.zeroValue0
  t3:=Tryz.underlying3
  a3:=Tryz.isAgg3
  z3:=Tryz.sizeOf3
  v3:=Tryz.zeroValue3
  t4:=Tryz.underlying4
  a4:=Tryz.isAgg4
  z4:=Tryz.sizeOf4
  v4:=Tryz.zeroValue4
  t5:=Tryz.underlying5
  a5:=Tryz.isAgg5
  z5:=Tryz.sizeOf5
  v5:=Tryz.zeroValue5
  t9:=Tryz.underlying9
  a9:=Tryz.isAgg9
  z9:=Tryz.sizeOf9
  v9:=Tryz.zeroValue9
  t21:=Tryz.underlying21
  a21:=Tryz.isAgg21
  z21:=Tryz.sizeOf21
  v21:=Tryz.zeroValue21
  t46:=Tryz.underlying150
  a46:=Tryz.isAgg150
  z46:=Tryz.sizeOf150
  v46:=Tryz.zeroValue150
  t105:=Tryz.underlying244
  a105:=Tryz.isAgg244
  z105:=Tryz.sizeOf244
  v105:=Tryz.zeroValue244
  t116:=Tryz.underlying199
  a116:=Tryz.isAgg199
  z116:=Tryz.sizeOf199
  t117:=Tryz.underlying200
  a117:=Tryz.isAgg200
  z117:=Tryz.sizeOf200
  v117:=Tryz.zeroValue200
  t119:=Tryz.underlying303
  a119:=Tryz.isAgg303
  z119:=Tryz.sizeOf303
  t124:=Tryz.underlying203
  a124:=Tryz.isAgg203
  z124:=Tryz.sizeOf203
  v124:=Tryz.zeroValue203
  t138:=Tryz.underlying305
  a138:=Tryz.isAgg305
  z138:=Tryz.sizeOf305
  v138:=Tryz.zeroValue305
  t139:=Tryz.underlying306
  a139:=Tryz.isAgg306
  z139:=Tryz.sizeOf306
  v139:=Tryz.zeroValue306
  g3:=by kernel_rfl
  g4:=by kernel_rfl
noncomputable def qvb:Con:=⟨[.str,.str],true,[],.str,fun x=>trimS x.1 x.2.1,none⟩
theorem trimS_ok:ConOK Tryz.prog 62 qvb:=by
  refine⟨rfl,fun h=>(by cases h),fun g h=>(by cases h),fun w S args x r hS hT ha hr=>?_⟩
  obtain⟨s,sep,⟨⟩⟩:=x
  obtain⟨v,q,e1,⟨cs,⟨_,rfl⟩,rfl⟩,v2,q2,rfl,⟨cs2,⟨_,rfl⟩,rfl⟩,h2⟩:=ha
  obtain rfl:q2=[]:=h2
  obtain rfl:args = #[.string s,.string sep]:=by rw[←Array.toList_inj,e1];rfl
  have hr:trimS s sep=some r:=hr
  obtain⟨hb,rfl⟩:=qgE hr
  simp only[Bool.and_eq_true] at hb
  obtain⟨h3,h4,h5⟩:=hb
  have h3:=Nat.le_of_ble_eq_true h3
  have h4:=Nat.le_of_ble_eq_true h4
  refine(Any.strings_Trim_laid (P:=Tryz.prog) (ρ:=tri_ren) tri_lay (by kernel_rfl) s sep w h3 (by omega) (fun j b hj=>of_decide_eq_true (List.all_eq_true.1 h5 b (List.mem_of_getElem? hj)))).mono ?_
  rintro e w' ⟨rfl,hb⟩
  exact⟨_,rfl,qfL rfl hb,[],[.string _],List.nodup_nil,(by simp),⟨rfl,rfl⟩,rfl⟩

noncomputable def qsl:Con:=⟨[.int .u64,.int .i64],true,[],.str,fun x=>qsH x.1 x.2.1,none⟩
theorem tz_tab {S:Nat→Prop} {w:World} (hT:TabR S w):Go.Proofs.TabAt 5 Go.Lib.deBruijn64tab w:=by
  obtain⟨h1,T,fz,h⟩:=hT.tab 5 (Go.Lib.deBruijn64tab.map fun n=>Value.int .u8 ((n:Nat):Int)) rfl
  intro j hj
  simp only[World.cell?,h]
  rw[if_neg (by simp),List.getElem?_toArray]
  rw[List.getElem?_map,List.getElem?_eq_getElem hj,List.getD_eq_getElem?_getD,List.getElem?_eq_getElem hj]
  rfl
theorem fmt16S_ok:ConOK Tryz.prog 21 qsl:=by
  refine⟨rfl,fun h=>(by cases h),fun g h=>(by cases h),fun w S args x r hS hT ha hr=>?_⟩
  obtain⟨u,b,⟨⟩⟩:=x
  obtain⟨v,q,e1,⟨cs,⟨_,rfl⟩,rfl⟩,v2,q2,rfl,⟨cs2,⟨_,rfl⟩,rfl⟩,h2⟩:=ha
  obtain rfl:q2=[]:=h2
  obtain rfl:args = #[.int .u64 u,.int .i64 b]:=by rw[←Array.toList_inj,e1];rfl
  have hr:qsH u b=some r:=hr
  obtain⟨hb,rfl⟩:=qgE hr
  simp only[Bool.and_eq_true,decide_eq_true_eq] at hb
  obtain⟨rfl,h0,h1⟩:=hb
  obtain⟨n,rfl⟩:=Int.eq_ofNat_of_zero_le h0
  rw[Int.toNat_natCast]
  refine(fmt_calls n (by omega) w (tz_tab hT)).mono ?_
  rintro e w' ⟨rfl,hb⟩
  exact⟨_,rfl,qfL rfl hb,[],[.string _],List.nodup_nil,(by simp),⟨rfl,rfl⟩,rfl⟩

def bck_ren:Go.Shelf.Ren:=⟨fun | 240=>57 | 276=>100 | n=>n,fun | 0=>0 | 4=>4 | 5=>5 | 9=>9 | 20=>20 | 37=>84 | 70=>83 | 72=>86 | 164=>189 | n=>n,fun | n=>n⟩
open Go.Shelf in
theorem bck_lay:Go.Proofs.Lays.n240 Tryz.prog bck_ren where
  mixed:=by kernel_rfl
  f240:=Tryz.func57.trans (congrArg some (by kernel_rfl))
  f276:=Tryz.func100.trans (congrArg some (by kernel_rfl))
  t0:=Tryz.underlying0
  a0:=Tryz.isAgg0
  z0:=Tryz.sizeOf0
  v0:=Tryz.zeroValue0
  t4:=Tryz.underlying4
  a4:=Tryz.isAgg4
  z4:=Tryz.sizeOf4
  v4:=Tryz.zeroValue4
  t9:=Tryz.underlying9
  a9:=Tryz.isAgg9
  z9:=Tryz.sizeOf9
  v9:=Tryz.zeroValue9
  t20:=Tryz.underlying20
  a20:=Tryz.isAgg20
  z20:=Tryz.sizeOf20
  v20:=Tryz.zeroValue20
  t70:=Tryz.underlying83
  a70:=Tryz.isAgg83
  z70:=Tryz.sizeOf83
  v70:=Tryz.zeroValue83
  t72:=Tryz.underlying86
  a72:=Tryz.isAgg86
  z72:=Tryz.sizeOf86
  v72:=Tryz.zeroValue86
  t164:=Tryz.underlying189
  a164:=Tryz.isAgg189
  z164:=Tryz.sizeOf189
  v164:=Tryz.zeroValue189
theorem qc:CkOK Tryz.prog 57 86:=ck_of (P:=Tryz.prog) (ρ:=bck_ren) bck_lay ⟨by kernel_rfl,by kernel_rfl⟩

def qv9:Go.Shelf.Ren:=⟨fun | 169=>24 | n=>n,fun | 70=>83 | 9=>9 | 0=>0 | 72=>86 | 37=>84 | 127=>155 | 3=>3 | 5=>5 | n=>n,fun | n=>n⟩
open Go.Shelf in
theorem bst_lay:Go.Proofs.Lays.n169 Tryz.prog qv9 where
  mixed:=by kernel_rfl
  f169:=Tryz.func24.trans (congrArg some (by kernel_rfl))
  t0:=Tryz.underlying0
  a0:=Tryz.isAgg0
  z0:=Tryz.sizeOf0
  v0:=Tryz.zeroValue0
  t3:=Tryz.underlying3
  a3:=Tryz.isAgg3
  z3:=Tryz.sizeOf3
  v3:=Tryz.zeroValue3
  t9:=Tryz.underlying9
  a9:=Tryz.isAgg9
  z9:=Tryz.sizeOf9
  v9:=Tryz.zeroValue9
  t37:=Tryz.underlying84
  a37:=Tryz.isAgg84
  z37:=Tryz.sizeOf84
  v37:=Tryz.zeroValue84
  t70:=Tryz.underlying83
  a70:=Tryz.isAgg83
  z70:=Tryz.sizeOf83
  v70:=Tryz.zeroValue83
  t72:=Tryz.underlying86
  a72:=Tryz.isAgg86
  z72:=Tryz.sizeOf86
  v72:=Tryz.zeroValue86
  t127:=Tryz.underlying155
  a127:=Tryz.isAgg155
  z127:=Tryz.sizeOf155
  v127:=Tryz.zeroValue155
theorem bst_extra:Go.Proofs.Builder.Extra Tryz.prog qv9 where
  sizeBuilder:=by kernel_rfl
  liesBuilder:=by kernel_rfl
  t5:=Tryz.underlying5
  a5:=Tryz.isAgg5
  z5:=Tryz.sizeOf5
  v5:=Tryz.zeroValue5
  infoByte:=by kernel_rfl
  cellsByte:=by kernel_rfl
  sizeByte:=by kernel_rfl
  neB5:=by decide
theorem qiF:BsOK Tryz.prog 24 86 5:=bs_of (P:=Tryz.prog) (ρ:=qv9) bst_lay bst_extra

end Go.Proofs.YtlfpfiplndkofaaGreatDoor

