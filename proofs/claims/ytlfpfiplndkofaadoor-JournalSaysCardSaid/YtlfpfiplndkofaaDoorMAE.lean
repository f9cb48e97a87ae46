/- Several texts in one: Base, Jtx, FmtW, StrC, JournalC, JournalSaysC. -/
import Derived.Test.YtlfpfiplndkofaaDoorProg
import Derived.Test.YtlfpfiplndkofaaDoorMAD
import Derived.Shelf.GgClosure.StringsIndexFuncTop
import Derived.TacticsInMore
import Derived.WalkKit
import Derived.WalkSmall
import Derived.Shelf.LaysM
import Derived.Lib.Walk
import Derived.Lib.ItoaWalk
import Derived.Lib.ItoaMem
import Derived.Lib.OwnBridge
import Derived.RegionTactic
import Derived.BigCall
import Derived.BigGuard
import Derived.CellFam
import Derived.Shelf.Spec.TrailingZeros
import Derived.Test.YtlfpfiplndkofaaDoorMAA
import Derived.Shelf.Strconv.Itoa3
import Derived.Shelf.Small.Strs
import Derived.Shelf.Strings.Repeat
import Derived.Shelf.Strings.Search2
import Derived.Shelf.Strconv.Clone
import Derived.Shelf.Strings.SlTrimAscii
import Derived.Shelf.Strings.Builder1
namespace Go.Proofs.YtlfpfiplndkofaaDoor
theorem mixed:Tryd.prog.follows .mixedOrders=true:=by kernel_rfl
end Go.Proofs.YtlfpfiplndkofaaDoor
namespace Go.Proofs.YtlfpfiplndkofaaDoor
open Go Go.Proofs Go.RowKit Go.Shelf
set_option linter.unusedVariables false
set_option linter.unusedSimpArgs false
attribute [local go_sem] Oper.semAt_some
def jix_ren:Go.Shelf.Ren:=⟨fun | 15=>27 | 20=>39 | n=>n,fun | 9=>9 | 23=>64 | 3=>3 | 4=>4 | 0=>0 | 21=>21 | n=>n,fun | n=>n⟩
open Go.Shelf in
theorem jix_lay:Go.Proofs.LaysGw.n15 Tryd.prog jix_ren where
  mixed:=by kernel_rfl
  f15:=Tryd.func27.trans (congrArg some (by kernel_rfl))
  f20:=Tryd.func39.trans (congrArg some (by kernel_rfl))
  t0:=Tryd.underlying0
  a0:=Tryd.isAgg0
  z0:=Tryd.sizeOf0
  v0:=Tryd.zeroValue0
  i0:=by kernel_rfl
  t3:=Tryd.underlying3
  a3:=Tryd.isAgg3
  z3:=Tryd.sizeOf3
  v3:=Tryd.zeroValue3
  i3:=by kernel_rfl
  t4:=Tryd.underlying4
  a4:=Tryd.isAgg4
  z4:=Tryd.sizeOf4
  v4:=Tryd.zeroValue4
  i4:=by kernel_rfl
  t9:=Tryd.underlying9
  a9:=Tryd.isAgg9
  z9:=Tryd.sizeOf9
  v9:=Tryd.zeroValue9
  i9:=by kernel_rfl
  t21:=Tryd.underlying21
  a21:=Tryd.isAgg21
  z21:=Tryd.sizeOf21
  v21:=Tryd.zeroValue21
  i21:=by kernel_rfl
  t23:=Tryd.underlying64
  a23:=Tryd.isAgg64
  z23:=Tryd.sizeOf64
  v23:=Tryd.zeroValue64
  i23:=by kernel_rfl
theorem jclos (w:World):PredAt Tryd.prog 28 #[] encR qat w:=fun W r _=>by
  unfold FnGives
  by_cases h1:r<32<;>by_cases h2:126<r
  all_goals
    have z1:(r:Int)<32↔r<32:=by omega
    have z2:(126:Int)<(r:Int)↔126<r:=by omega
    go_enter Tryd.func28,Tryd.ntmps28
    go_wp2
    all_goals first | (exfalso;omega) | (go_ret;exact⟨by simp[qat,h1,h2],0,rfl⟩)
set_option maxHeartbeats 1000000 in
theorem qhc (s:ByteArray) (w:World):Calls Tryd.prog 16 #[.string s] w fun e w'=>e = .returned (.int .i64 (qm s))∧Below w.heap.size w w':=by
  have hC:=Any.strings_IndexFunc (P:=Tryd.prog) (ρ:=jix_ren) jix_lay 28 #[] (enters_of Tryd.func28 (by kernel_rfl) rfl) qat s w (jclos w);change Calls Tryd.prog 27 _ _ _ at hC;obtain⟨I,hI⟩:∃I,Lib.idxFunc qat true s=I:=⟨_,rfl⟩;unfold qm;rw[hI] at hC ⊢;by_cases h1:200<s.size
  · have z1:(200:Int)<(s.size:Int):=by omega
    rw[if_pos h1]
    go_enter Tryd.func16,Tryd.ntmps16
    go_wp2
    all_goals first | (exfalso;omega) | (go_ret;exact⟨rfl,Below.refl _ _⟩)
  · have z1:¬(200:Int)<(s.size:Int):=by omega
    rw[if_neg h1];by_cases h2:0≤I
    · rw[if_pos h2]
      go_enter Tryd.func16,Tryd.ntmps16
      go_wp2_with (go_at_call 27;refine hC.mono ?_;rintro e w' ⟨rfl,hb⟩)
      all_goals first | (exfalso;omega) | (go_ret;exact⟨rfl,hb⟩)
    · rw[if_neg h2]
      go_enter Tryd.func16,Tryd.ntmps16
      go_wp2_with (go_at_call 27;refine hC.mono ?_;rintro e w' ⟨rfl,hb⟩)
      all_goals first | (exfalso;omega) | (go_ret;exact⟨rfl,hb⟩)
end Go.Proofs.YtlfpfiplndkofaaDoor
namespace Go.Proofs.YtlfpfiplndkofaaDoor
open Go Go.Proofs Go.RowKit Go.Shelf Go.Sort Go.Lib
set_option linter.unusedVariables false
set_option linter.unusedSimpArgs false
attribute [local go_sem] Oper.semAt_some
def tz_ren:Go.Shelf.Ren:=⟨fun | 29=>81 | n=>n,fun | 22=>23 | 3=>3 | 4=>4 | 25=>47 | 54=>122 | 0=>0 | 5=>5 | n=>n,fun | 1=>5 | n=>n⟩
open Go.Shelf in
theorem tz_lay:Go.Proofs.Lays7.n29 Tryd.prog tz_ren where
  mixed:=by kernel_rfl
  f29:=Tryd.func81.trans (congrArg some (by kernel_rfl))
  t0:=Tryd.underlying0
  a0:=Tryd.isAgg0
  z0:=Tryd.sizeOf0
  v0:=Tryd.zeroValue0
  i0:=by kernel_rfl
  t3:=Tryd.underlying3
  a3:=Tryd.isAgg3
  z3:=Tryd.sizeOf3
  v3:=Tryd.zeroValue3
  i3:=by kernel_rfl
  t4:=Tryd.underlying4
  a4:=Tryd.isAgg4
  z4:=Tryd.sizeOf4
  v4:=Tryd.zeroValue4
  i4:=by kernel_rfl
  t5:=Tryd.underlying5
  a5:=Tryd.isAgg5
  z5:=Tryd.sizeOf5
  v5:=Tryd.zeroValue5
  i5:=by kernel_rfl
  t22:=Tryd.underlying23
  a22:=Tryd.isAgg23
  z22:=Tryd.sizeOf23
  v22:=Tryd.zeroValue23
  i22:=by kernel_rfl
  t25:=Tryd.underlying47
  a25:=Tryd.isAgg47
  z25:=Tryd.sizeOf47
  v25:=Tryd.zeroValue47
  i25:=by kernel_rfl
  t54:=Tryd.underlying122
  a54:=Tryd.isAgg122
  z54:=Tryd.sizeOf122
  g1:=by kernel_rfl
theorem isP2 (w:World):Calls Tryd.prog 63 #[.int .i64 16] w fun e w'=>e = .returned (.bool true)∧w'=w:=by
  go_enter Tryd.func63,Tryd.ntmps63
  go_wp2
  go_ret
  exact⟨rfl,rfl⟩
theorem tz16 (w:World) (hT:TabAt 5 Lib.deBruijn64tab w):Calls Tryd.prog 64 #[.int .u64 16] w fun e w'=>e = .returned (.int .i64 4)∧w'=w:=by
  have hC:∀w,TabAt 5 Lib.deBruijn64tab w→Calls Tryd.prog 81 #[.int .u64 ((16:Nat):Int)] w fun e w'=>e = .returned (.int .i64 (Lib.ctz 64 16))∧w'=w:=fun w hT=>Any7.bits_TrailingZeros64 (P:=Tryd.prog) (ρ:=tz_ren) tz_lay 16 (by decide) w (fun _=>hT)
  go_enter Tryd.func64,Tryd.ntmps64
  go_wp2_with (go_at_call 81;refine(hC _ hT).mono ?_;rintro e w' ⟨rfl,rfl⟩)
  go_ret
  exact⟨rfl,rfl⟩
def digs:ByteArray:=ByteArray.mk #[48,49,50,51,52,53,54,55,56,57,97,98,99,100,101,102,103,104,105,106,107,108,109,110,111,112,113,114,115,116,117,118,119,120,121,122]
theorem digs_at:∀i,i<16→digs.data.toList[i]?=some (qK i):=by decide
theorem qgy:digs.size=36:=rfl
theorem qh1 (i:Nat) (h:i<digs.size) (h':i<16):digs[i]=qK i:=by
  have:=digs_at i h';have e:digs.data.toList[i]?=some digs[i]:=by
    rw[List.getElem?_eq_getElem (by simpa using h)];rfl
  rw[e] at this;exact Option.some.inj this
structure HexInv (u k v:Nat) (dk:Array UInt8):Prop where
  size:dk.size=65
  rest:v=u / 16 ^ k
  le:k≤15
  dig:∀t,t<k→dk[64-t]! = qK (u / 16 ^ t % 16)
  big:∀t,t<k→16≤u / 16 ^ t
abbrev encB (b:UInt8):Value:=Value.int .u8 (b.toNat:Int)
theorem HexInv.step {u k v:Nat} {dk:Array UInt8} (hu:u<18446744073709551616) (h:HexInv u k v dk) (hv:16≤v):HexInv u (k+1) (v / 16) (dk.setIfInBounds (64-k) (qK (v % 16))):=by
  have hr:=h.rest;have hk:k+1≤15:=by
    rcases Nat.lt_or_ge k 15 with c | c
    · omega
    · exfalso
      have:k=15:=by have:=h.le;omega
      subst this;have:u / 16 ^ 15<16:=by
        rw[Nat.div_lt_iff_lt_mul (by decide)];omega
      omega
  refine⟨by rw[Array.size_setIfInBounds];exact h.size,by rw[hr,Nat.div_div_eq_div_mul,Nat.pow_succ],hk,fun t ht=>?_,fun t ht=>?_⟩
  · by_cases e:t=k
    · subst e;rw[getElem!_set_same _ _ _ (by rw[h.size];omega),hr]
    · rw[getElem!_set_other _ _ _ _ (by omega)];exact h.dig t (by omega)
  · by_cases e:t=k
    · subst e;omega
    · exact h.big t (by omega)
theorem qib:∀(k f u:Nat),k<f→(∀t,t<k→16≤u / 16 ^ t)→u / 16 ^ k<16→(hexR f u).length=k+1∧∀t,t≤k→(hexR f u)[t]?=some (qK (u / 16 ^ t % 16))
  | 0,f+1,u,_,_,hv=>by
    rw[Nat.pow_zero,Nat.div_one] at hv;refine⟨by simp[hexR,hv],fun t ht=>?_⟩
    obtain rfl:t=0:=by omega
    simp[hexR,hv]
  | k+1,0,_,h,_,_=>absurd h (by omega)
  | k+1,f+1,u,h,hb,hv=>by
    have h0:16≤u:=by have:=hb 0 (by omega);rwa [Nat.pow_zero,Nat.div_one] at this
    obtain⟨e,hi⟩:=qib k f (u / 16) (by omega) (fun t ht=>by
      rw[Nat.div_div_eq_div_mul,Nat.mul_comm,←Nat.pow_succ]
      exact hb (t+1) (by omega)) (by rwa [Nat.div_div_eq_div_mul,Nat.mul_comm,←Nat.pow_succ])
    refine⟨by simp[hexR,Nat.not_lt.2 h0,e],fun t ht=>?_⟩
    cases t with
    | zero=>simp[hexR]
    | succ t =>
      have:=hi t (by omega);rw[Nat.div_div_eq_div_mul,Nat.mul_comm,←Nat.pow_succ] at this;simpa[hexR,Nat.not_lt.2 h0] using this
theorem HexInv.last {u k v:Nat} {dk:Array UInt8} (hu:u<18446744073709551616) (h:HexInv u k v dk) (hv:v<16):(dk.setIfInBounds (64-k) (qK v)).size=65∧(∀j,j<k+1→(hexR 16 u).reverse[j]?=some (dk.setIfInBounds (64-k) (qK v))[64-k+j]!)∧(hexR 16 u).length=k+1:=by
  have hle:=h.le;obtain⟨hn,hi⟩:=qib k 16 u (by omega) h.big (by rw[←h.rest];exact hv);refine⟨by rw[Array.size_setIfInBounds];exact h.size,fun j hj=>?_,hn⟩;rw[List.getElem?_reverse (by omega),hn,hi _ (by omega)];congr 1;by_cases e:j=0
  · subst e;rw[show 64-k+0=64-k by omega,getElem!_set_same _ _ _ (by rw[h.size];omega),show k+1-1-0=k by omega,←h.rest,Nat.mod_eq_of_lt hv]
  · rw[getElem!_set_other _ _ _ _ (by omega),show 64-k+j=64-(k-j) by omega,h.dig _ (by omega),show k+1-1-j=k-j by omega]
theorem tab_new {w:World} {o:Obj} (hG:5<w.heap.size) (hT:TabAt 5 Lib.deBruijn64tab w):TabAt 5 Lib.deBruijn64tab (w.alloc o):=fun j hj=>(((Below.refl _ w).alloc (Nat.le_refl _) o).cell (p:=⟨5,j,none⟩) hG).trans (hT j hj)
set_option maxHeartbeats 6400000 in
set_option maxRecDepth 100000 in
theorem bits16 (u:Nat) (hu:u<18446744073709551616) (w:World) (hG:5<w.heap.size) (hT:TabAt 5 Lib.deBruijn64tab w) :
    Calls Tryd.prog 43 #[.slice none 0 0,.int .u64 u,.int .i64 16,.bool false,.bool false] w fun e w'=>e = .returned (.tuple #[.slice none 0 0,.string ⟨(hexR 16 u).reverse.toArray⟩])∧Below w.heap.size w w':=by
  go_enter Tryd.func43,Tryd.ntmps43
  go_name_bytes MSG hMSG
  clear hMSG
  go_name_bytes DG hDG
  have eDG:DG=digs:=by rw[←hDG];decide +kernel
  subst eDG;clear hDG
  go_wp2_with (first | (go_at_call 63;refine(isP2 _).mono ?_;rintro e w' ⟨rfl,rfl⟩) | (go_at_call 64;refine(tz16 _ (tab_new hG hT)).mono ?_;rintro e w' ⟨rfl,rfl⟩))
  have hz:Tryd.zeroCells100=Array.replicate 65 (Value.int .u8 0):=by kernel_rfl
  have hH0:Holds encB (w.alloc (.cells Tryd.zeroCells100 100)) w.heap.size 0 (Array.replicate 65 (0:UInt8)):=fun j hj=>by
    have hj':j<65:=by simpa using hj
    refine⟨?_,World.frozen?_alloc_new _ _ _ _⟩;rw[World.cell?_alloc_new,hz,getElem!_pos _ j hj];simp[hj']
  go_loopw [1,13] (fun vu vn wr=>∃(k v:Nat) (dk:Array UInt8),vu = .int .u64 v∧vn = .int .i64 ((65-k:Nat):Int)∧wr=putRow encB (w.alloc (.cells Tryd.zeroCells100 100)) w.heap.size 0 dk∧Hid (HexInv u k v dk)) (fun vu _ _=>(RowKit.intOf vu).toNat)
  case atStart=>exact⟨0,u,_,rfl,rfl,(putRow_self _ _ _ _ _ hH0).symm,Lib.hid ⟨by simp,by simp,by omega,fun t ht=>by omega,fun t ht=>by omega⟩⟩
  case round =>
    obtain⟨k,v,dk,rfl,rfl,hw0,HI⟩:=hrel
    rename World=>W0
    have hk15:=HI.out.le;have hs0:=HI.out.size
    have hv64:v<18446744073709551616:=by have:=HI.out.rest;have:=Nat.div_le_self u (16 ^ k);omega
    have hH1:Holds encB W0 w.heap.size 0 dk:=by rw[hw0];exact holds_putRow _ _ _ 0 _ dk hH0 (by rw[hs0];simp)
    have hcell:W0.cell? ⟨w.heap.size,65-k-1,none⟩=some (.int .u8 (dk[64-k]!.toNat:Int)):=by
      have:=(hH1 (64-k) (by omega)).1
      rwa [show 0+(64-k)=65-k-1 by omega] at this
    have hfro:W0.frozen? ⟨w.heap.size,65-k-1,none⟩=false:=by
      have:=(hH1 (64-k) (by omega)).2
      rwa [show 0+(64-k)=65-k-1 by omega] at this
    have AW0:=Lib.hid hw0;clear hw0 hH1;by_cases h16:16≤v
    · have hand:bits BinOp.and IntKind.u64 (v:Int) 15=((v % 16:Nat):Int):=by
        have:=bits_and_u64_nat v 15 hv64 (by decide)
        rwa [show(15:Nat)=2 ^ 4-1 from rfl,Nat.and_two_pow_sub_one_eq_mod] at this
      have hds:=qgy
      go_wp2
      all_goals first | (exfalso;omega) | skip
      refine⟨⟨k+1,v / 16,dk.setIfInBounds (64-k) (qK (v % 16)),by congr 1,by congr 1;omega,?_,Lib.hid (HI.out.step hu h16)⟩,by simp[RowKit.intOf];omega⟩;rw[qh1 _ _ (by omega),AW0.out,←putRow_set encB _ _ 0 dk (64-k) _ (by omega),show 65-k-1=0+(64-k) by omega]
    · have hds:=qgy
      have hk:k≤64:=by omega
      have hvl:v<digs.size:=by omega
      have hw1:∀x,x=65-k-1→W0.setCell ⟨w.heap.size,x,none⟩ (.int .u8 ((digs[v]'hvl).toNat:Int))=putRow encB (w.alloc (.cells Tryd.zeroCells100 100)) w.heap.size 0 (dk.setIfInBounds (64-k) (qK v)):=fun x hx=>by
        rw[hx,qh1 _ _ (by omega),AW0.out,←putRow_set encB _ _ 0 dk (64-k) _ (by omega),show 65-k-1=0+(64-k) by omega]
      have hdk:=HI.out.last hu (by omega);generalize dk.setIfInBounds (64-k) (qK v)=dz at hw1 hdk;obtain⟨hdz,hdl,hdn⟩:=hdk;obtain⟨W1,hW1⟩:∃W1,W1=putRow encB (w.alloc (.cells Tryd.zeroCells100 100)) w.heap.size 0 dz:=⟨_,rfl⟩
      have hHz:Holds encB W1 w.heap.size 0 dz:=by rw[hW1];exact holds_putRow _ _ _ 0 _ dz hH0 (by rw[hdz];simp)
      have hbel:RowKit.Below w.heap.size w W1:=by rw[hW1];exact Lib.below_putRow (q:=0) (((Below.refl _ w).alloc (Nat.le_refl _) _)) (Nat.le_refl _)
      rw[←hW1] at hw1;have hcv:(convert 46 9 (.slice (some ⟨w.heap.size,64-k,none⟩) (k+1) (k+1))).run Tryd.prog W1 = .ok (.string ⟨(hexR 16 u).reverse.toArray⟩) W1:=by
        have:=run_convert_bytes_back (P:=Tryd.prog) W1 46 9 5 ⟨w.heap.size,64-k,none⟩ (k+1) (hexR 16 u).reverse rfl rfl rfl (fun j hj=>by
          rw[List.length_reverse,hdn] at hj;have hb:=hdl j hj;rw[List.getElem?_eq_getElem (by rw[List.length_reverse,hdn];exact hj)] at hb;rw[Lib.add_plain,Option.some.inj hb];have:=(hHz (64-k+j) (by omega)).1
          rwa [Nat.zero_add] at this)
        rwa [List.length_reverse,hdn] at this
      have hsl:(Instr.sliceAt 100 (.pointer (some ⟨w.heap.size,0,none⟩)) (some (.int .i64 (((65-k:Nat):Int)-1))) none none).run Tryd.prog W1 = .ok (.slice (some ⟨w.heap.size,64-k,none⟩) (k+1) (k+1)) W1:=by
        have hal:Tryd.prog.arrayLen 100=65:=rfl
        have hn:(((65-k:Nat):Int)-1).toNat=64-k:=by omega
        rw[run_sliceAt_array_l W1 _ _ rfl .i64 _ (by omega) (by rw[hal];omega),hal,hn]
        have hso:(sizeOf (Tryd.prog.elem 100)).run Tryd.prog W1 = .ok 1 W1:=by go_simp
        rw[hso]
        have hne:¬65=64-k:=by omega
        have e1:65-(64-k)=k+1:=by omega
        simp only[Result.andThen,slicedAt,if_neg hne,e1,Lib.add_plain,Nat.mul_one,Nat.zero_add]
      clear hW1 hHz hdl AW0
      go_wp2
      all_goals first | (exfalso;omega) | skip
      go_ret2
      exact⟨rfl,hbel⟩
theorem tab_size {w:World} (hT:TabAt 5 Lib.deBruijn64tab w):5<w.heap.size:=by
  have:=hT 0 (by decide);unfold World.cell? at this;rcases Nat.lt_or_ge 5 w.heap.size with c | c
  · exact c
  · rw[Array.getElem?_eq_none c] at this;simp at this
theorem fmtI (u:Nat) (hu:u<18446744073709551616) (w:World) (hT:TabAt 5 Lib.deBruijn64tab w) :
    Calls Tryd.prog 29 #[.int .u64 u,.int .i64 16] w fun e w'=>e = .returned (.string ⟨(hexR 16 u).reverse.toArray⟩)∧Below w.heap.size w w':=by
  go_enter Tryd.func29,Tryd.ntmps29
  go_wp2_with (go_at_call 43;refine(bits16 u hu _ (tab_size hT) hT).mono ?_;rintro e w' ⟨rfl,hb⟩)
  go_ret
  exact⟨rfl,hb⟩
theorem fmt_calls (u:Nat) (hu:u<18446744073709551616) (w:World) (hT:TabAt 5 Lib.deBruijn64tab w) :
    Calls Tryd.prog 19 #[.int .u64 u,.int .i64 16] w fun e w'=>e = .returned (.string ⟨(hexR 16 u).reverse.toArray⟩)∧Below w.heap.size w w':=by
  go_enter Tryd.func19,Tryd.ntmps19
  go_wp2_with (go_at_call 29;refine(fmtI u hu _ hT).mono ?_;rintro e w' ⟨rfl,hb⟩)
  go_ret
  exact⟨rfl,hb⟩
end Go.Proofs.YtlfpfiplndkofaaDoor
namespace Go.Proofs.YtlfpfiplndkofaaDoor
open Go.Den
set_option linter.unusedVariables false
set_option linter.unusedSimpArgs false
set_option maxRecDepth 100000
theorem qcp {w w':World} (hd:Go.Den.Ctx.drawsUp=false) (h:Go.RowKit.Below w.heap.size w w'):Go.Eng.Chg [] w w' :=
  ⟨h.os,h.tape,h.output,h.size,fun k hk _=>h.block k hk,fun e=>by rw[hd] at e;cases e⟩
theorem qdy {α:Type} {c:Bool} {x r:α} (h:(bif c then some x else none)=some r):c=true∧x=r:=by cases c<;>simp_all
noncomputable def qbo:Con:=⟨[.str],true,[],.int .i64,fun x=>some (qm x.1),some fun x=>qm x.1⟩
theorem qc3:ConOK Tryd.prog 16 qbo:=by
  refine⟨rfl,fun h=>(by cases h),fun g h=>(by cases h;intro x;rfl),fun w S args x r hS hT ha hr=>?_⟩
  obtain⟨s,⟨⟩⟩:=x
  obtain⟨v,q,e1,⟨cs,⟨_,rfl⟩,rfl⟩,h2⟩:=ha
  obtain rfl:q=[]:=h2
  obtain rfl:args = #[.string s]:=by rw[←Array.toList_inj,e1];rfl
  have hr:some (qm s)=some r:=hr
  cases hr
  refine(qhc s w).mono ?_
  rintro e w' ⟨rfl,hb⟩
  exact⟨_,rfl,qcp rfl hb,[],[.int .i64 (qm s)],List.nodup_nil,(by simp),⟨rfl,rfl⟩,rfl⟩

def qho:Go.Shelf.Ren:=⟨fun | 105=>21 | 212=>31 | 99=>32 | 165=>33 | 166=>20 | 170=>34 | 169=>22 | 263=>45 | 264=>46 | 206=>47 | 240=>30 | 241=>48 | 276=>44 | 277=>65 | n=>n,fun | 9=>9 | 3=>3 | 4=>4 | 20=>20 | 0=>0 | 46=>47 | 109=>65 | 5=>5 | 72=>50 | 76=>54 | 51=>83 | 146=>84 | 53=>23 | 148=>86 | 70=>48 | 37=>46 | 75=>53 | 127=>69 | 164=>81 | 80=>57 | n=>n,fun | n=>n⟩
open Go.Shelf in
theorem rep_lay:Go.Proofs.Lays.n105 Tryd.prog qho where
  mixed:=by kernel_rfl
  f99:=Tryd.func32.trans (congrArg some (by kernel_rfl))
  f105:=Tryd.func21.trans (congrArg some (by kernel_rfl))
  f165:=Tryd.func33.trans (congrArg some (by kernel_rfl))
  f166:=Tryd.func20.trans (congrArg some (by kernel_rfl))
  f169:=Tryd.func22.trans (congrArg some (by kernel_rfl))
  f170:=Tryd.func34.trans (congrArg some (by kernel_rfl))
  f206:=Tryd.func47.trans (congrArg some (by kernel_rfl))
  f212:=Tryd.func31.trans (congrArg some (by kernel_rfl))
  f240:=Tryd.func30.trans (congrArg some (by kernel_rfl))
  f241:=Tryd.func48.trans (congrArg some (by kernel_rfl))
  f263:=Tryd.func45.trans (congrArg some (by kernel_rfl))
  f264:=Tryd.func46.trans (congrArg some (by kernel_rfl))
  f276:=Tryd.func44.trans (congrArg some (by kernel_rfl))
  f277:=Tryd.func65.trans (congrArg some (by kernel_rfl))
  t0:=Tryd.underlying0
  a0:=Tryd.isAgg0
  z0:=Tryd.sizeOf0
  v0:=Tryd.zeroValue0
  t3:=Tryd.underlying3
  a3:=Tryd.isAgg3
  z3:=Tryd.sizeOf3
  v3:=Tryd.zeroValue3
  t4:=Tryd.underlying4
  a4:=Tryd.isAgg4
  z4:=Tryd.sizeOf4
  v4:=Tryd.zeroValue4
  t5:=Tryd.underlying5
  a5:=Tryd.isAgg5
  z5:=Tryd.sizeOf5
  v5:=Tryd.zeroValue5
  t9:=Tryd.underlying9
  a9:=Tryd.isAgg9
  z9:=Tryd.sizeOf9
  v9:=Tryd.zeroValue9
  t20:=Tryd.underlying20
  a20:=Tryd.isAgg20
  z20:=Tryd.sizeOf20
  v20:=Tryd.zeroValue20
  t37:=Tryd.underlying46
  a37:=Tryd.isAgg46
  z37:=Tryd.sizeOf46
  v37:=Tryd.zeroValue46
  t46:=Tryd.underlying47
  a46:=Tryd.isAgg47
  z46:=Tryd.sizeOf47
  v46:=Tryd.zeroValue47
  t51:=Tryd.underlying83
  a51:=Tryd.isAgg83
  z51:=Tryd.sizeOf83
  v51:=Tryd.zeroValue83
  t53:=Tryd.underlying23
  a53:=Tryd.isAgg23
  z53:=Tryd.sizeOf23
  v53:=Tryd.zeroValue23
  t70:=Tryd.underlying48
  a70:=Tryd.isAgg48
  z70:=Tryd.sizeOf48
  v70:=Tryd.zeroValue48
  t72:=Tryd.underlying50
  a72:=Tryd.isAgg50
  z72:=Tryd.sizeOf50
  v72:=Tryd.zeroValue50
  t75:=Tryd.underlying53
  a75:=Tryd.isAgg53
  z75:=Tryd.sizeOf53
  v75:=Tryd.zeroValue53
  t76:=Tryd.underlying54
  a76:=Tryd.isAgg54
  z76:=Tryd.sizeOf54
  v76:=Tryd.zeroValue54
  t109:=Tryd.underlying65
  a109:=Tryd.isAgg65
  z109:=Tryd.sizeOf65
  v109:=Tryd.zeroValue65
  t127:=Tryd.underlying69
  a127:=Tryd.isAgg69
  z127:=Tryd.sizeOf69
  v127:=Tryd.zeroValue69
  t146:=Tryd.underlying84
  a146:=Tryd.isAgg84
  z146:=Tryd.sizeOf84
  v146:=Tryd.zeroValue84
  t148:=Tryd.underlying86
  a148:=Tryd.isAgg86
  z148:=Tryd.sizeOf86
  v148:=Tryd.zeroValue86
  t164:=Tryd.underlying81
  a164:=Tryd.isAgg81
  z164:=Tryd.sizeOf81
  v164:=Tryd.zeroValue81
theorem rep_extra:Go.Proofs.Builder.Extra Tryd.prog qho where
  sizeBuilder:=by kernel_rfl
  liesBuilder:=by kernel_rfl
  t5:=Tryd.underlying5
  a5:=Tryd.isAgg5
  z5:=Tryd.sizeOf5
  v5:=Tryd.zeroValue5
  infoByte:=by kernel_rfl
  cellsByte:=by kernel_rfl
  sizeByte:=by kernel_rfl
  neB5:=by decide
noncomputable def qeA:Con:=⟨[.str,.int .i64],true,[],.str,fun x=>qdZ x.1 x.2.1,none⟩
theorem qis:ConOK Tryd.prog 21 qeA:=by
  refine⟨rfl,fun h=>(by cases h),fun g h=>(by cases h),fun w S args x r hS hT ha hr=>?_⟩
  obtain⟨s,n,⟨⟩⟩:=x
  obtain⟨v,q,e1,⟨cs,⟨_,rfl⟩,rfl⟩,v2,q2,rfl,⟨cs2,⟨_,rfl⟩,rfl⟩,h2⟩:=ha
  obtain rfl:q2=[]:=h2
  obtain rfl:args = #[.string s,.int .i64 n]:=by rw[←Array.toList_inj,e1];rfl
  have hr:qdZ s n=some r:=hr
  obtain⟨hb,rfl⟩:=qdy hr
  simp only[Bool.and_eq_true,decide_eq_true_eq] at hb
  obtain⟨h0,h1,h3⟩:=hb
  have h3:=Nat.le_of_ble_eq_true h3
  obtain⟨m,rfl⟩:=Int.eq_ofNat_of_zero_le h0
  rw[Int.toNat_natCast] at h3
  refine(Any.strings_Repeat (P:=Tryd.prog) (ρ:=qho) rep_lay rep_extra s m w (by omega) h3).mono ?_
  rintro e w' ⟨rfl,hb⟩
  exact⟨_,rfl,qcp rfl hb,[],[.string _],List.nodup_nil,(by simp),⟨rfl,rfl⟩,rfl⟩

def ix1_ren:Go.Shelf.Ren:=⟨fun | 219=>49 | 217=>66 | 225=>67 | 224=>68 | 267=>69 | 266=>82 | 314=>83 | n=>n,fun | 9=>9 | 3=>3 | 4=>4 | 5=>5 | 46=>47 | 146=>84 | 51=>83 | n=>n,fun | 1=>1 | n=>n⟩
open Go.Shelf in
theorem ix1_lay:Go.Proofs.Lays.n219 Tryd.prog ix1_ren where
  mixed:=by kernel_rfl
  f217:=Tryd.func66.trans (congrArg some (by kernel_rfl))
  f219:=Tryd.func49.trans (congrArg some (by kernel_rfl))
  f224:=Tryd.func68.trans (congrArg some (by kernel_rfl))
  f225:=Tryd.func67.trans (congrArg some (by kernel_rfl))
  f266:=Tryd.func82.trans (congrArg some (by kernel_rfl))
  f267:=Tryd.func69.trans (congrArg some (by kernel_rfl))
  f314:=Tryd.func83.trans (congrArg some (by kernel_rfl))
  t3:=Tryd.underlying3
  a3:=Tryd.isAgg3
  z3:=Tryd.sizeOf3
  v3:=Tryd.zeroValue3
  t4:=Tryd.underlying4
  a4:=Tryd.isAgg4
  z4:=Tryd.sizeOf4
  v4:=Tryd.zeroValue4
  t5:=Tryd.underlying5
  a5:=Tryd.isAgg5
  z5:=Tryd.sizeOf5
  v5:=Tryd.zeroValue5
  t9:=Tryd.underlying9
  a9:=Tryd.isAgg9
  z9:=Tryd.sizeOf9
  v9:=Tryd.zeroValue9
  t46:=Tryd.underlying47
  a46:=Tryd.isAgg47
  z46:=Tryd.sizeOf47
  v46:=Tryd.zeroValue47
  t51:=Tryd.underlying83
  a51:=Tryd.isAgg83
  z51:=Tryd.sizeOf83
  v51:=Tryd.zeroValue83
  t146:=Tryd.underlying84
  a146:=Tryd.isAgg84
  z146:=Tryd.sizeOf84
  v146:=Tryd.zeroValue84
  g1:=by kernel_rfl
noncomputable def qgN:Con:=⟨[.str,.str],true,[],.int .i64,fun x=>idx1S x.1 x.2.1,none⟩
theorem idx1S_ok:ConOK Tryd.prog 49 qgN:=by
  refine⟨rfl,fun h=>(by cases h),fun g h=>(by cases h),fun w S args x r hS hT ha hr=>?_⟩
  obtain⟨s,sep,⟨⟩⟩:=x
  obtain⟨v,q,e1,⟨cs,⟨_,rfl⟩,rfl⟩,v2,q2,rfl,⟨cs2,⟨_,rfl⟩,rfl⟩,h2⟩:=ha
  obtain rfl:q2=[]:=h2
  obtain rfl:args = #[.string s,.string sep]:=by rw[←Array.toList_inj,e1];rfl
  have hr:idx1S s sep=some r:=hr
  obtain⟨hb,rfl⟩:=qdy hr
  obtain⟨c,rfl⟩:∃c:UInt8,sep=⟨#[c]⟩:=by
    have hb:=Nat.eq_of_beq_eq_true hb
    obtain⟨⟨l⟩⟩:=sep
    cases l with
    | nil=>cases hb
    | cons c l =>
      cases l with
      | nil=>exact⟨c,rfl⟩
      | cons d l=>exact absurd hb (by simp[ByteArray.size])
  refine(Any.stringslite_Index_one (P:=Tryd.prog) (ρ:=ix1_ren) ix1_lay s c w).mono ?_
  rintro e w' ⟨rfl,rfl⟩
  exact⟨_,rfl,Go.Eng.Chg.refl _ _,[],[.int .i64 _],List.nodup_nil,(by simp),⟨rfl,rfl⟩,rfl⟩

def clo_ren:Go.Shelf.Ren:=⟨fun | 316=>59 | n=>n,fun | 9=>9 | 3=>3 | 4=>4 | 37=>46 | 0=>0 | 127=>69 | 5=>5 | n=>n,fun | n=>n⟩
open Go.Shelf in
theorem clo_lay:Go.Proofs.LaysM.n316 Tryd.prog clo_ren where
  mixed:=by kernel_rfl
  f316:=Tryd.func59.trans (congrArg some (by kernel_rfl))
  t0:=Tryd.underlying0
  a0:=Tryd.isAgg0
  z0:=Tryd.sizeOf0
  v0:=Tryd.zeroValue0
  t3:=Tryd.underlying3
  a3:=Tryd.isAgg3
  z3:=Tryd.sizeOf3
  v3:=Tryd.zeroValue3
  t4:=Tryd.underlying4
  a4:=Tryd.isAgg4
  z4:=Tryd.sizeOf4
  v4:=Tryd.zeroValue4
  t9:=Tryd.underlying9
  a9:=Tryd.isAgg9
  z9:=Tryd.sizeOf9
  v9:=Tryd.zeroValue9
  t37:=Tryd.underlying46
  a37:=Tryd.isAgg46
  z37:=Tryd.sizeOf46
  v37:=Tryd.zeroValue46
  t127:=Tryd.underlying69
  a127:=Tryd.isAgg69
  z127:=Tryd.sizeOf69
  v127:=Tryd.zeroValue69
  t5:=Tryd.underlying5
  a5:=Tryd.isAgg5
  z5:=Tryd.sizeOf5
  v5:=Tryd.zeroValue5
  i0:=by kernel_rfl
  i3:=by kernel_rfl
  i4:=by kernel_rfl
  i5:=by kernel_rfl
  i9:=by kernel_rfl
  i37:=by kernel_rfl
  i127:=by kernel_rfl
noncomputable def qfz:Con:=⟨[.str],true,[],.str,fun x=>qhV x.1,none⟩
theorem cloneS_ok:ConOK Tryd.prog 59 qfz:=by
  refine⟨rfl,fun h=>(by cases h),fun g h=>(by cases h),fun w S args x r hS hT ha hr=>?_⟩
  obtain⟨s,⟨⟩⟩:=x
  obtain⟨v,q,e1,⟨cs,⟨_,rfl⟩,rfl⟩,h2⟩:=ha
  obtain rfl:q=[]:=h2
  obtain rfl:args = #[.string s]:=by rw[←Array.toList_inj,e1];rfl
  have hr:qhV s=some r:=hr
  obtain⟨hb,rfl⟩:=qdy hr
  refine(Any.stringslite_Clone (P:=Tryd.prog) (ρ:=clo_ren) clo_lay s w (Nat.le_of_ble_eq_true hb)).mono ?_
  rintro e w' ⟨rfl,hb⟩
  exact⟨_,rfl,qcp rfl hb,[],[.string s],List.nodup_nil,(by simp),⟨rfl,rfl⟩,rfl⟩

def tri_ren:Go.Shelf.Ren:=⟨fun | 160=>36 | 232=>51 | 231=>50 | 227=>52 | 234=>54 | 233=>53 | 236=>56 | 235=>55 | 228=>70 | 271=>73 | 151=>72 | 197=>71 | 120=>86 | 152=>85 | 260=>84 | 137=>89 | 119=>90 | 224=>68 | 225=>67 | 217=>66 | 266=>82 | n=>n,fun | 9=>9 | 4=>4 | 3=>3 | 5=>5 | 117=>92 | 116=>91 | 0=>0 | 124=>95 | 21=>21 | 105=>106 | 46=>47 | 119=>123 | 139=>126 | 138=>125 | n=>n,fun | 3=>6 | 4=>7 | n=>n⟩
open Go.Shelf in
theorem tri_lay:Go.Proofs.Lays.n160 Tryd.prog tri_ren where
  mixed:=by kernel_rfl
  f119:=Tryd.func90.trans (congrArg some (by kernel_rfl))
  f120:=Tryd.func86.trans (congrArg some (by kernel_rfl))
  f137:=Tryd.func89.trans (congrArg some (by kernel_rfl))
  f151:=Tryd.func72.trans (congrArg some (by kernel_rfl))
  f152:=Tryd.func85.trans (congrArg some (by kernel_rfl))
  f160:=Tryd.func36.trans (congrArg some (by kernel_rfl))
  f197:=Tryd.func71.trans (congrArg some (by kernel_rfl))
  f217:=Tryd.func66.trans (congrArg some (by kernel_rfl))
  f224:=Tryd.func68.trans (congrArg some (by kernel_rfl))
  f225:=Tryd.func67.trans (congrArg some (by kernel_rfl))
  f227:=Tryd.func52.trans (congrArg some (by kernel_rfl))
  f228:=Tryd.func70.trans (congrArg some (by kernel_rfl))
  f231:=Tryd.func50.trans (congrArg some (by kernel_rfl))
  f232:=Tryd.func51.trans (congrArg some (by kernel_rfl))
  f233:=Tryd.func53.trans (congrArg some (by kernel_rfl))
  f234:=Tryd.func54.trans (congrArg some (by kernel_rfl))
  f235:=Tryd.func55.trans (congrArg some (by kernel_rfl))
  f236:=Tryd.func56.trans (congrArg some (by kernel_rfl))
  f260:=Tryd.func84.trans (congrArg some (by kernel_rfl))
  f266:=Tryd.func82.trans (congrArg some (by kernel_rfl))
  f271:=Tryd.func73.trans (congrArg some (by kernel_rfl))
  t0:=Tryd.underlying0
  a0:=Tryd.isAgg0
  z0:=Tryd.sizeOf0
  v0:=Tryd.zeroValue0
  t3:=Tryd.underlying3
  a3:=Tryd.isAgg3
  z3:=Tryd.sizeOf3
  v3:=Tryd.zeroValue3
  t4:=Tryd.underlying4
  a4:=Tryd.isAgg4
  z4:=Tryd.sizeOf4
  v4:=Tryd.zeroValue4
  t5:=Tryd.underlying5
  a5:=Tryd.isAgg5
  z5:=Tryd.sizeOf5
  v5:=Tryd.zeroValue5
  t9:=Tryd.underlying9
  a9:=Tryd.isAgg9
  z9:=Tryd.sizeOf9
  v9:=Tryd.zeroValue9
  t21:=Tryd.underlying21
  a21:=Tryd.isAgg21
  z21:=Tryd.sizeOf21
  v21:=Tryd.zeroValue21
  t46:=Tryd.underlying47
  a46:=Tryd.isAgg47
  z46:=Tryd.sizeOf47
  v46:=Tryd.zeroValue47
  t105:=Tryd.underlying106
  a105:=Tryd.isAgg106
  z105:=Tryd.sizeOf106
  v105:=Tryd.zeroValue106
  t116:=Tryd.underlying91
  a116:=Tryd.isAgg91
  z116:=Tryd.sizeOf91
  t117:=Tryd.underlying92
  a117:=Tryd.isAgg92
  z117:=Tryd.sizeOf92
  v117:=Tryd.zeroValue92
  t119:=Tryd.underlying123
  a119:=Tryd.isAgg123
  z119:=Tryd.sizeOf123
  t124:=Tryd.underlying95
  a124:=Tryd.isAgg95
  z124:=Tryd.sizeOf95
  v124:=Tryd.zeroValue95
  t138:=Tryd.underlying125
  a138:=Tryd.isAgg125
  z138:=Tryd.sizeOf125
  v138:=Tryd.zeroValue125
  t139:=Tryd.underlying126
  a139:=Tryd.isAgg126
  z139:=Tryd.sizeOf126
  v139:=Tryd.zeroValue126
  g3:=by kernel_rfl
  g4:=by kernel_rfl
noncomputable def qgW:Con:=⟨[.str,.str],true,[],.str,fun x=>trimS x.1 x.2.1,none⟩
theorem trimS_ok:ConOK Tryd.prog 36 qgW:=by
  refine⟨rfl,fun h=>(by cases h),fun g h=>(by cases h),fun w S args x r hS hT ha hr=>?_⟩
  obtain⟨s,sep,⟨⟩⟩:=x
  obtain⟨v,q,e1,⟨cs,⟨_,rfl⟩,rfl⟩,v2,q2,rfl,⟨cs2,⟨_,rfl⟩,rfl⟩,h2⟩:=ha
  obtain rfl:q2=[]:=h2
  obtain rfl:args = #[.string s,.string sep]:=by rw[←Array.toList_inj,e1];rfl
  have hr:trimS s sep=some r:=hr
  obtain⟨hb,rfl⟩:=qdy hr
  simp only[Bool.and_eq_true] at hb
  obtain⟨h3,h4,h5⟩:=hb
  have h3:=Nat.le_of_ble_eq_true h3
  have h4:=Nat.le_of_ble_eq_true h4
  refine(Any.strings_Trim_laid (P:=Tryd.prog) (ρ:=tri_ren) tri_lay (by kernel_rfl) s sep w h3 (by omega) (fun j b hj=>of_decide_eq_true (List.all_eq_true.1 h5 b (List.mem_of_getElem? hj)))).mono ?_
  rintro e w' ⟨rfl,hb⟩
  exact⟨_,rfl,qcp rfl hb,[],[.string _],List.nodup_nil,(by simp),⟨rfl,rfl⟩,rfl⟩

noncomputable def qft:Con:=⟨[.int .u64,.int .i64],true,[],.str,fun x=>qfS x.1 x.2.1,none⟩
theorem tz_tab {S:Nat→Prop} {w:World} (hT:TabR S w):Go.Proofs.TabAt 5 Go.Lib.deBruijn64tab w:=by
  obtain⟨h1,T,fz,h⟩:=hT.tab 5 (Go.Lib.deBruijn64tab.map fun n=>Value.int .u8 ((n:Nat):Int)) rfl
  intro j hj
  simp only[World.cell?,h]
  rw[if_neg (by simp),List.getElem?_toArray]
  rw[List.getElem?_map,List.getElem?_eq_getElem hj,List.getD_eq_getElem?_getD,List.getElem?_eq_getElem hj]
  rfl
theorem fmt16S_ok:ConOK Tryd.prog 19 qft:=by
  refine⟨rfl,fun h=>(by cases h),fun g h=>(by cases h),fun w S args x r hS hT ha hr=>?_⟩
  obtain⟨u,b,⟨⟩⟩:=x
  obtain⟨v,q,e1,⟨cs,⟨_,rfl⟩,rfl⟩,v2,q2,rfl,⟨cs2,⟨_,rfl⟩,rfl⟩,h2⟩:=ha
  obtain rfl:q2=[]:=h2
  obtain rfl:args = #[.int .u64 u,.int .i64 b]:=by rw[←Array.toList_inj,e1];rfl
  have hr:qfS u b=some r:=hr
  obtain⟨hb,rfl⟩:=qdy hr
  simp only[Bool.and_eq_true,decide_eq_true_eq] at hb
  obtain⟨rfl,h0,h1⟩:=hb
  obtain⟨n,rfl⟩:=Int.eq_ofNat_of_zero_le h0
  rw[Int.toNat_natCast]
  refine(fmt_calls n (by omega) w (tz_tab hT)).mono ?_
  rintro e w' ⟨rfl,hb⟩
  exact⟨_,rfl,qcp rfl hb,[],[.string _],List.nodup_nil,(by simp),⟨rfl,rfl⟩,rfl⟩

def bck_ren:Go.Shelf.Ren:=⟨fun | 240=>30 | 276=>44 | n=>n,fun | 0=>0 | 4=>4 | 5=>5 | 9=>9 | 20=>20 | 37=>46 | 70=>48 | 72=>50 | 164=>81 | n=>n,fun | n=>n⟩
open Go.Shelf in
theorem bck_lay:Go.Proofs.Lays.n240 Tryd.prog bck_ren where
  mixed:=by kernel_rfl
  f240:=Tryd.func30.trans (congrArg some (by kernel_rfl))
  f276:=Tryd.func44.trans (congrArg some (by kernel_rfl))
  t0:=Tryd.underlying0
  a0:=Tryd.isAgg0
  z0:=Tryd.sizeOf0
  v0:=Tryd.zeroValue0
  t4:=Tryd.underlying4
  a4:=Tryd.isAgg4
  z4:=Tryd.sizeOf4
  v4:=Tryd.zeroValue4
  t9:=Tryd.underlying9
  a9:=Tryd.isAgg9
  z9:=Tryd.sizeOf9
  v9:=Tryd.zeroValue9
  t20:=Tryd.underlying20
  a20:=Tryd.isAgg20
  z20:=Tryd.sizeOf20
  v20:=Tryd.zeroValue20
  t70:=Tryd.underlying48
  a70:=Tryd.isAgg48
  z70:=Tryd.sizeOf48
  v70:=Tryd.zeroValue48
  t72:=Tryd.underlying50
  a72:=Tryd.isAgg50
  z72:=Tryd.sizeOf50
  v72:=Tryd.zeroValue50
  t164:=Tryd.underlying81
  a164:=Tryd.isAgg81
  z164:=Tryd.sizeOf81
  v164:=Tryd.zeroValue81
theorem qao:CkOK Tryd.prog 30 50:=ck_of (P:=Tryd.prog) (ρ:=bck_ren) bck_lay ⟨by kernel_rfl,by kernel_rfl⟩

def qg7:Go.Shelf.Ren:=⟨fun | 169=>22 | n=>n,fun | 70=>48 | 9=>9 | 0=>0 | 72=>50 | 37=>46 | 127=>69 | 3=>3 | 5=>5 | n=>n,fun | n=>n⟩
open Go.Shelf in
theorem bst_lay:Go.Proofs.Lays.n169 Tryd.prog qg7 where
  mixed:=by kernel_rfl
  f169:=Tryd.func22.trans (congrArg some (by kernel_rfl))
  t0:=Tryd.underlying0
  a0:=Tryd.isAgg0
  z0:=Tryd.sizeOf0
  v0:=Tryd.zeroValue0
  t3:=Tryd.underlying3
  a3:=Tryd.isAgg3
  z3:=Tryd.sizeOf3
  v3:=Tryd.zeroValue3
  t9:=Tryd.underlying9
  a9:=Tryd.isAgg9
  z9:=Tryd.sizeOf9
  v9:=Tryd.zeroValue9
  t37:=Tryd.underlying46
  a37:=Tryd.isAgg46
  z37:=Tryd.sizeOf46
  v37:=Tryd.zeroValue46
  t70:=Tryd.underlying48
  a70:=Tryd.isAgg48
  z70:=Tryd.sizeOf48
  v70:=Tryd.zeroValue48
  t72:=Tryd.underlying50
  a72:=Tryd.isAgg50
  z72:=Tryd.sizeOf50
  v72:=Tryd.zeroValue50
  t127:=Tryd.underlying69
  a127:=Tryd.isAgg69
  z127:=Tryd.sizeOf69
  v127:=Tryd.zeroValue69
theorem bst_extra:Go.Proofs.Builder.Extra Tryd.prog qg7 where
  sizeBuilder:=by kernel_rfl
  liesBuilder:=by kernel_rfl
  t5:=Tryd.underlying5
  a5:=Tryd.isAgg5
  z5:=Tryd.sizeOf5
  v5:=Tryd.zeroValue5
  infoByte:=by kernel_rfl
  cellsByte:=by kernel_rfl
  sizeByte:=by kernel_rfl
  neB5:=by decide
theorem qek:BsOK Tryd.prog 22 50 5:=bs_of (P:=Tryd.prog) (ρ:=qg7) bst_lay bst_extra

def qcB:Ann := .nil
noncomputable def journalLast_con:Con:=⟨[Zt3],true,[],Zt5,fun x=>qak x.1,none⟩
noncomputable def qcr:Env:=[]
theorem qe0 (x:DL journalLast_con.ps):journalLast_con.φ x=denF Tryd.prog qcr qcB Tryd.f18 journalLast_con.ps journalLast_con.one journalLast_con.res journalLast_con.ρ x:=by kernel_rfl
theorem qay:ConOK Tryd.prog 18 journalLast_con :=
  qj (env:=qcr) ((EnvOK.nil _)) mixed Tryd.func18 journalLast_con qcB (by kernel_rfl) (fun h=>by first | rfl | cases h) (fun g hg=>by cases hg) qe0
def qc2:Ann:=(.two .nil (.two .nil (.two (.two .nil (.join ⟨[1],[(5,Zt5)],[]⟩ (.two (.loop ⟨[1,10],[(5,Zt5),(11,Zt6)],[]⟩ .nil) .nil))) .nil)))
noncomputable def journalSum_con:Con:=⟨[Zt5,.str],true,[],Zt5,fun x=>qZ x.1 x.2.1,none⟩
noncomputable def qcW:Env:=[]
theorem qfr (x:DL journalSum_con.ps):journalSum_con.φ x=denF Tryd.prog qcW qc2 Tryd.f9 journalSum_con.ps journalSum_con.one journalSum_con.res journalSum_con.ρ x:=by kernel_rfl
theorem qcb:ConOK Tryd.prog 9 journalSum_con :=
  qj (env:=qcW) ((EnvOK.nil _)) mixed Tryd.func9 journalSum_con qc2 (by kernel_rfl) (fun h=>by first | rfl | cases h) (fun g hg=>by cases hg) qfr
def qck:Ann := .nil
noncomputable def journalWrong_con:Con:=⟨[Zt5,Zt4],true,[],Zt6,fun x=>qk x.1 x.2.1,none⟩
noncomputable def qcl:Env:=(9,.con journalSum_con)::(16,.con qbo)::[]
theorem qel (x:DL journalWrong_con.ps):journalWrong_con.φ x=denF Tryd.prog qcl qck Tryd.f25 journalWrong_con.ps journalWrong_con.one journalWrong_con.res journalWrong_con.ρ x:=by kernel_rfl
theorem qaK:ConOK Tryd.prog 25 journalWrong_con :=
  qj (env:=qcl) ((EnvOK.cons (EnvOK.cons (EnvOK.nil _) qc3) qcb)) mixed Tryd.func25 journalWrong_con qck (by kernel_rfl) (fun h=>by first | rfl | cases h) (fun g hg=>by cases hg) qel
def qcD:Ann:=(.two .nil (.two (.two .nil (.joinE ⟨[0],[],[]⟩ (.two (.loop ⟨[0,5,6],[(7,Zt6)],[]⟩ .nil) .nil))) .nil))
noncomputable def journalGood_con:Con:=⟨[Zt3],true,[],Zt6,fun x=>qJ x.1,none⟩
noncomputable def qcu:Env:=(25,.con journalWrong_con)::(18,.con journalLast_con)::(30,.ck 50)::[]
theorem qew (x:DL journalGood_con.ps):journalGood_con.φ x=denF Tryd.prog qcu qcD Tryd.f13 journalGood_con.ps journalGood_con.one journalGood_con.res journalGood_con.ρ x:=by kernel_rfl
theorem qcX:ConOK Tryd.prog 13 journalGood_con :=
  qj (env:=qcu) ((EnvOK.cons (EnvOK.cons (EnvOK.check (EnvOK.nil _) qao) qay) qaK)) mixed Tryd.func13 journalGood_con qcD (by kernel_rfl) (fun h=>by first | rfl | cases h) (fun g hg=>by cases hg) qew
def qci:Ann := .nil
noncomputable def journalCheck_con:Con:=⟨[Zt3],true,[],Zt6,fun x=>qQ x.1,none⟩
noncomputable def qcd:Env:=(25,.con journalWrong_con)::(18,.con journalLast_con)::(13,.con journalGood_con)::[]
theorem qen (x:DL journalCheck_con.ps):journalCheck_con.φ x=denF Tryd.prog qcd qci Tryd.f14 journalCheck_con.ps journalCheck_con.one journalCheck_con.res journalCheck_con.ρ x:=by kernel_rfl
theorem qbk:ConOK Tryd.prog 14 journalCheck_con :=
  qj (env:=qcd) ((EnvOK.cons (EnvOK.cons (EnvOK.cons (EnvOK.nil _) qcX) qay) qaK)) mixed Tryd.func14 journalCheck_con qci (by kernel_rfl) (fun h=>by first | rfl | cases h) (fun g hg=>by cases hg) qen
def qad:Ann := .nil
noncomputable def slicesClone_JournalEntry_con:Con:=⟨[Zt3],true,[],Zt2,fun x=>qz x.1,none⟩
noncomputable def qaf:Env:=[]
theorem qbg (x:DL slicesClone_JournalEntry_con.ps):slicesClone_JournalEntry_con.φ x=denF Tryd.prog qaf qad Tryd.f17 slicesClone_JournalEntry_con.ps slicesClone_JournalEntry_con.one slicesClone_JournalEntry_con.res slicesClone_JournalEntry_con.ρ x:=by kernel_rfl
theorem qbu:ConOK Tryd.prog 17 slicesClone_JournalEntry_con :=
  qj (env:=qaf) ((EnvOK.nil _)) mixed Tryd.func17 slicesClone_JournalEntry_con qad (by kernel_rfl) (fun h=>by first | rfl | cases h) (fun g hg=>by cases hg) qbg
def qbV:Ann := .nil
noncomputable def journalAppend_con:Con:=⟨[Zt3,.str],false,[Zt2,Zt6],Zt1,fun x=>qW x.1 x.2.1,none⟩
noncomputable def qbW:Env:=(9,.con journalSum_con)::(18,.con journalLast_con)::(17,.con slicesClone_JournalEntry_con)::(16,.con qbo)::(14,.con journalCheck_con)::[]
theorem qdV (x:DL journalAppend_con.ps):journalAppend_con.φ x=denF Tryd.prog qbW qbV Tryd.f5 journalAppend_con.ps journalAppend_con.one journalAppend_con.res journalAppend_con.ρ x:=by kernel_rfl
theorem qcf:ConOK Tryd.prog 5 journalAppend_con :=
  qj (env:=qbW) ((EnvOK.cons (EnvOK.cons (EnvOK.cons (EnvOK.cons (EnvOK.cons (EnvOK.nil _) qbk) qc3) qbu) qay) qcb)) mixed Tryd.func5 journalAppend_con qbV (by kernel_rfl) (fun h=>by first | rfl | cases h) (fun g hg=>by cases hg) qdV
def qcm:Ann:=(.two .nil (.two .nil (.two .nil (.two (.two .nil (.join ⟨[5],[],[(0,some (.bld 50 5))]⟩ (.two (.loop ⟨[5,14,15],[(16,Zt6)],[(0,some (.bld 50 5))]⟩ (.two .nil (.two .nil (.two (.two (.two .nil (.two .nil (.tail 11 .nil))) .nil) .nil)))) .nil))) .nil))))
noncomputable def journalWrite_con:Con:=⟨[Zt3],false,[.str,Zt6],(.st .str (.st Zt6 .nil)),fun x=>qa4 x.1,none⟩
noncomputable def qce:Env:=(22,.bs 50 5)::(20,.body Tryd.f20)::(21,.con qeA)::(19,.con qft)::(30,.ck 50)::(14,.con journalCheck_con)::[]
theorem qeo (x:DL journalWrite_con.ps):journalWrite_con.φ x=denF Tryd.prog qce qcm Tryd.f10 journalWrite_con.ps journalWrite_con.one journalWrite_con.res journalWrite_con.ρ x:=by kernel_rfl
theorem qeY:ConOK Tryd.prog 10 journalWrite_con :=
  qj (env:=qce) ((EnvOK.string (EnvOK.body (EnvOK.cons (EnvOK.cons (EnvOK.check (EnvOK.cons (EnvOK.nil _) qbk) qao) fmt16S_ok) qis) Tryd.func20) qek)) mixed Tryd.func10 journalWrite_con qcm (by kernel_rfl) (fun h=>by first | rfl | cases h) (fun g hg=>by cases hg) qeo
def qas:Ann := .nil
noncomputable def internalstringsliteCut_con:Con:=⟨[.str,.str],false,[.str,.str,.bool],(.st .str (.st .str (.st .bool .nil))),fun x=>qD x.1 x.2.1,none⟩
noncomputable def qar:Env:=(49,.con qgN)::[]
theorem qbv (x:DL internalstringsliteCut_con.ps):internalstringsliteCut_con.φ x=denF Tryd.prog qar qas Tryd.f35 internalstringsliteCut_con.ps internalstringsliteCut_con.one internalstringsliteCut_con.res internalstringsliteCut_con.ρ x:=by kernel_rfl
theorem qbO:ConOK Tryd.prog 35 internalstringsliteCut_con :=
  qj (env:=qar) ((EnvOK.cons (EnvOK.nil _) idx1S_ok)) mixed Tryd.func35 internalstringsliteCut_con qas (by kernel_rfl) (fun h=>by first | rfl | cases h) (fun g hg=>by cases hg) qbv
def qcZ:Ann := .nil
noncomputable def stringsCut_con:Con:=⟨[.str,.str],false,[.str,.str,.bool],(.st .str (.st .str (.st .bool .nil))),fun x=>qaO x.1 x.2.1,none⟩
noncomputable def qcY:Env:=(35,.con internalstringsliteCut_con)::[]
theorem qfq (x:DL stringsCut_con.ps):stringsCut_con.φ x=denF Tryd.prog qcY qcZ Tryd.f23 stringsCut_con.ps stringsCut_con.one stringsCut_con.res stringsCut_con.ρ x:=by kernel_rfl
theorem qdA:ConOK Tryd.prog 23 stringsCut_con :=
  qj (env:=qcY) ((EnvOK.cons (EnvOK.nil _) qbO)) mixed Tryd.func23 stringsCut_con qcZ (by kernel_rfl) (fun h=>by first | rfl | cases h) (fun g hg=>by cases hg) qfq
def qaI:Ann := .nil
noncomputable def internalstrconvLower_con:Con:=⟨[(.int .u8)],true,[],(.int .u8),fun x=>qaa x.1,some fun x=>qa x.1⟩
noncomputable def qaF:Env:=[]
theorem qbQ (x:DL internalstrconvLower_con.ps):internalstrconvLower_con.φ x=denF Tryd.prog qaF qaI Tryd.f74 internalstrconvLower_con.ps internalstrconvLower_con.one internalstrconvLower_con.res internalstrconvLower_con.ρ x:=by kernel_rfl
theorem qaM:ConOK Tryd.prog 74 internalstrconvLower_con :=
  qj (env:=qaF) ((EnvOK.nil _)) mixed Tryd.func74 internalstrconvLower_con qaI (by kernel_rfl) (fun h=>by first | rfl | cases h) (fun g hg x=>by
    cases hg
    exact qb1 _) qbQ
def qN:Ann:=(.two .nil (.two .nil (.two .nil (.two (.two .nil (.join ⟨[3,4],[(0,.str)],[]⟩ .nil)) (.two .nil (.two (.two .nil (.join ⟨[0],[(3,(.int .i32)),(4,Zt6),(5,.bool)],[]⟩ .nil)) (.two (.joinE ⟨[],[(3,(.int .i32))],[]⟩ (.two (.loop ⟨[0,5],[(3,(.int .i32)),(4,Zt6)],[]⟩ (.two .nil (.two (.joinE ⟨[0,4,5],[(3,(.int .i32))],[]⟩ .nil) .nil))) .nil)) .nil)))))))
noncomputable def internalstrconvUnderscoreOK_con:Con:=⟨[.str],true,[],.bool,fun x=>qal x.1,none⟩
noncomputable def qO:Env:=(74,.con internalstrconvLower_con)::[]
theorem qaR (x:DL internalstrconvUnderscoreOK_con.ps):internalstrconvUnderscoreOK_con.φ x=denF Tryd.prog qO qN Tryd.f75 internalstrconvUnderscoreOK_con.ps internalstrconvUnderscoreOK_con.one internalstrconvUnderscoreOK_con.res internalstrconvUnderscoreOK_con.ρ x:=by kernel_rfl
theorem qaY:ConOK Tryd.prog 75 internalstrconvUnderscoreOK_con :=
  qj (env:=qO) ((EnvOK.cons (EnvOK.nil _) qaM)) mixed Tryd.func75 internalstrconvUnderscoreOK_con qN (by kernel_rfl) (fun h=>by first | rfl | cases h) (fun g hg=>by cases hg) qaR
def qae:Ann:=(.two .nil (.two .nil (.two .nil (.two .nil (.two (.two (.two .nil (.joinE ⟨[2,8,9],[(0,.str),(1,Zt6)],[]⟩ (.two .nil (.two .nil (.two (.two .nil (.two .nil (.join ⟨[2,8,9],[(0,.str),(1,Zt6)],[]⟩ (.two (.two (.two .nil (.join ⟨[2,8,9],[(0,.str),(1,Zt6)],[]⟩ (.two .nil (.two .nil (.join ⟨[2,8,9],[(0,.str),(1,Zt6)],[]⟩ (.two .nil (.two .nil (.join ⟨[2,8,9],[(0,.str),(1,Zt6)],[]⟩ .nil)))))))) .nil) .nil)))) .nil))))) .nil) (.two (.two .nil (.joinE ⟨[0,1,8,9],[(2,Zt6)],[]⟩ .nil)) (.two .nil (.two (.two .nil (.two (.two .nil (.join ⟨[0,1,2,8,9],[(10,Zt5)],[]⟩ (.two .nil (.two .nil (.join ⟨[0,1,2,8,9],[(10,Zt5)],[]⟩ .nil))))) .nil)) (.two .nil (.two .nil (.two .nil (.two (.two .nil (.joinE ⟨[9],[(12,.bool),(13,Zt5)],[]⟩ (.two (.loop ⟨[1,8,9,10,11,99,100],[(12,.bool),(13,Zt5),(101,Zt6)],[]⟩ (.two .nil (.two .nil (.two (.joinE ⟨[1,8,9,10,11,99,100,101],[(12,.bool),(13,Zt5)],[]⟩ (.two (.two .nil (.two .nil (.two (.two (.two .nil (.two .nil (.two .nil (.joinE ⟨[1,8,9,10,11,12,13,99,100,101],[(16,(.int .u8))],[]⟩ .nil)))) .nil) .nil))) .nil)) .nil)))) .nil))) .nil))))))))))))
noncomputable def internalstrconvParseUint_con:Con:=⟨[.str,Zt6,Zt6],false,[Zt5,.err],(.st Zt5 (.st .err .nil)),fun x=>qx x.1 x.2.1 x.2.2.1,none⟩
noncomputable def qac:Env:=(75,.con internalstrconvUnderscoreOK_con)::(74,.con internalstrconvLower_con)::[]
theorem qbe (x:DL internalstrconvParseUint_con.ps):internalstrconvParseUint_con.φ x=denF Tryd.prog qac qae Tryd.f57 internalstrconvParseUint_con.ps internalstrconvParseUint_con.one internalstrconvParseUint_con.res internalstrconvParseUint_con.ρ x:=by kernel_rfl
theorem qbj:ConOK Tryd.prog 57 internalstrconvParseUint_con :=
  qj (env:=qac) ((EnvOK.cons (EnvOK.cons (EnvOK.nil _) qaM) qaY)) mixed Tryd.func57 internalstrconvParseUint_con qae (by kernel_rfl) (fun h=>by first | rfl | cases h) (fun g hg=>by cases hg) qbe
def qbx:Ann := .nil
noncomputable def strconvToError_con:Con:=⟨[.str,.str,Zt6,Zt6,.err],true,[],.err,fun x=>qc4 x.1 x.2.1 x.2.2.1 x.2.2.2.1 x.2.2.2.2.1,none⟩
noncomputable def qby:Env:=[]
theorem qdv (x:DL strconvToError_con.ps):strconvToError_con.φ x=denF Tryd.prog qby qbx Tryd.f58 strconvToError_con.ps strconvToError_con.one strconvToError_con.res strconvToError_con.ρ x:=by kernel_rfl
theorem qdX:ConOK Tryd.prog 58 strconvToError_con :=
  qj (env:=qby) ((EnvOK.nil _)) mixed Tryd.func58 strconvToError_con qbx (by kernel_rfl) (fun h=>by first | rfl | cases h) (fun g hg=>by cases hg) qdv
def qbb:Ann := .nil
noncomputable def strconvParseUint_con:Con:=⟨[.str,Zt6,Zt6],false,[Zt5,.err],(.st Zt5 (.st .err .nil)),fun x=>qaz x.1 x.2.1 x.2.2.1,none⟩
noncomputable def qba:Env:=(58,.con strconvToError_con)::(57,.con internalstrconvParseUint_con)::[]
theorem qcV (x:DL strconvParseUint_con.ps):strconvParseUint_con.φ x=denF Tryd.prog qba qbb Tryd.f37 strconvParseUint_con.ps strconvParseUint_con.one strconvParseUint_con.res strconvParseUint_con.ρ x:=by kernel_rfl
theorem qdf:ConOK Tryd.prog 37 strconvParseUint_con :=
  qj (env:=qba) ((EnvOK.cons (EnvOK.cons (EnvOK.nil _) qbj) qdX)) mixed Tryd.func37 strconvParseUint_con qbb (by kernel_rfl) (fun h=>by first | rfl | cases h) (fun g hg=>by cases hg) qcV
def qcn:Ann := .nil
noncomputable def stringsClone_con:Con:=⟨[.str],true,[],.str,fun x=>qbI x.1,none⟩
noncomputable def qcj:Env:=(59,.con qfz)::[]
theorem qej (x:DL stringsClone_con.ps):stringsClone_con.φ x=denF Tryd.prog qcj qcn Tryd.f38 stringsClone_con.ps stringsClone_con.one stringsClone_con.res stringsClone_con.ρ x:=by kernel_rfl
theorem qfe:ConOK Tryd.prog 38 stringsClone_con :=
  qj (env:=qcj) ((EnvOK.cons (EnvOK.nil _) cloneS_ok)) mixed Tryd.func38 stringsClone_con qcn (by kernel_rfl) (fun h=>by first | rfl | cases h) (fun g hg=>by cases hg) qej
def qct:Ann:=(.two .nil (.two .nil (.two .nil (.two (.any 379 0 (.ord 0 0 .nil (.ord 1 0 .nil (.ord 3 0 .nil (.ord 5 0 .nil (.ord 6 0 .nil (.ord 2 0 .nil (.ord 4 0 .nil (.ord 7 0 .nil (.ord 8 0 .nil .nil)))))))))) .nil))))
noncomputable def journalLine_con:Con:=⟨[.str],false,[Zt4,.bool],(.st Zt4 (.st .bool .nil)),fun x=>qaB x.1,none⟩
noncomputable def qcs:Env:=(38,.con stringsClone_con)::(37,.con strconvParseUint_con)::(36,.con qgW)::(30,.ck 50)::[]
theorem qeS (x:DL journalLine_con.ps):journalLine_con.φ x=denF Tryd.prog qcs qct Tryd.f24 journalLine_con.ps journalLine_con.one journalLine_con.res journalLine_con.ρ x:=by kernel_rfl
theorem qc0:ConOK Tryd.prog 24 journalLine_con :=
  qj (env:=qcs) ((EnvOK.cons (EnvOK.cons (EnvOK.cons (EnvOK.check (EnvOK.nil _) qao) trimS_ok) qdf) qfe)) mixed Tryd.func24 journalLine_con qct (by kernel_rfl) (fun h=>by first | rfl | cases h) (fun g hg=>by cases hg) qeS
def qbG:Ann:=(.two .nil (.two .nil (.two (.join ⟨[],[(0,.str),(4,Zt2)],[]⟩ (.two (.loop ⟨[],[(0,.str),(4,Zt2)],[]⟩ .nil) .nil)) .nil)))
noncomputable def journalRecover_con:Con:=⟨[.str],false,[Zt2,.str],(.st Zt2 (.st .str .nil)),fun x=>qI x.1,none⟩
noncomputable def qbz:Env:=(25,.con journalWrong_con)::(18,.con journalLast_con)::(30,.ck 50)::(24,.con journalLine_con)::(23,.con stringsCut_con)::[]
theorem qdq (x:DL journalRecover_con.ps):journalRecover_con.φ x=denF Tryd.prog qbz qbG Tryd.f12 journalRecover_con.ps journalRecover_con.one journalRecover_con.res journalRecover_con.ρ x:=by kernel_rfl
theorem qbU:ConOK Tryd.prog 12 journalRecover_con :=
  qj (env:=qbz) ((EnvOK.cons (EnvOK.cons (EnvOK.check (EnvOK.cons (EnvOK.cons (EnvOK.nil _) qdA) qc0) qao) qay) qaK)) mixed Tryd.func12 journalRecover_con qbG (by kernel_rfl) (fun h=>by first | rfl | cases h) (fun g hg=>by cases hg) qdq
def qcG:Ann := .nil
noncomputable def journalRead_con:Con:=⟨[.str],false,[Zt2,Zt6],Zt1,fun x=>qbt x.1,none⟩
noncomputable def qco:Env:=(25,.con journalWrong_con)::(18,.con journalLast_con)::(30,.ck 50)::(24,.con journalLine_con)::(23,.con stringsCut_con)::(12,.con journalRecover_con)::[]
theorem qeQ (x:DL journalRead_con.ps):journalRead_con.φ x=denF Tryd.prog qco qcG Tryd.f11 journalRead_con.ps journalRead_con.one journalRead_con.res journalRead_con.ρ x:=by kernel_rfl
theorem qfo:ConOK Tryd.prog 11 journalRead_con :=
  qj (env:=qco) ((EnvOK.cons (EnvOK.cons (EnvOK.check (EnvOK.cons (EnvOK.cons (EnvOK.cons (EnvOK.nil _) qbU) qdA) qc0) qao) qay) qaK)) mixed Tryd.func11 journalRead_con qcG (by kernel_rfl) (fun h=>by first | rfl | cases h) (fun g hg=>by cases hg) qeQ
def qag:Ann:=(.two .nil (.two .nil (.two (.two .nil (.joinE ⟨[],[],[]⟩ (.two (.loop ⟨[0,1,12],[(13,Zt6)],[]⟩ .nil) .nil))) .nil)))
noncomputable def slicesEqual_JournalEntry_con:Con:=⟨[Zt3,Zt3],true,[],.bool,fun x=>qi x.1 x.2.1,none⟩
noncomputable def qah:Env:=[]
theorem qbf (x:DL slicesEqual_JournalEntry_con.ps):slicesEqual_JournalEntry_con.φ x=denF Tryd.prog qah qag Tryd.f26 slicesEqual_JournalEntry_con.ps slicesEqual_JournalEntry_con.one slicesEqual_JournalEntry_con.res slicesEqual_JournalEntry_con.ρ x:=by kernel_rfl
theorem qbn:ConOK Tryd.prog 26 slicesEqual_JournalEntry_con :=
  qj (env:=qah) ((EnvOK.nil _)) mixed Tryd.func26 slicesEqual_JournalEntry_con qag (by kernel_rfl) (fun h=>by first | rfl | cases h) (fun g hg=>by cases hg) qbf
def qbC:Ann := .nil
noncomputable def journalExtends_con:Con:=⟨[Zt3,Zt3],true,[],.bool,fun x=>qB x.1 x.2.1,none⟩
noncomputable def qbA:Env:=(26,.con slicesEqual_JournalEntry_con)::[]
theorem qds (x:DL journalExtends_con.ps):journalExtends_con.φ x=denF Tryd.prog qbA qbC Tryd.f15 journalExtends_con.ps journalExtends_con.one journalExtends_con.res journalExtends_con.ρ x:=by kernel_rfl
theorem qdP:ConOK Tryd.prog 15 journalExtends_con :=
  qj (env:=qbA) ((EnvOK.cons (EnvOK.nil _) qbn)) mixed Tryd.func15 journalExtends_con qbC (by kernel_rfl) (fun h=>by first | rfl | cases h) (fun g hg=>by cases hg) qds
def qd7:Ann:=(.two .nil (.two (.two .nil (.joinE ⟨[],[],[]⟩ (.two (.loop ⟨[1,10,11],[(12,Zt6)],[]⟩ (.two .nil (.two .nil (.two (.joinE ⟨[1,10,11,12],[],[]⟩ (.two (.two .nil (.two (.two .nil (.joinE ⟨[1,6,10,11,12],[],[]⟩ (.two (.loop ⟨[1,6,10,11,12,17,18],[(19,Zt6)],[]⟩ .nil) .nil))) .nil)) .nil)) .nil)))) .nil))) .nil))
noncomputable def ref3Fine_con:Con:=⟨[.str,.str],true,[],.bool,fun x=>qer x.1 x.2.1,none⟩
noncomputable def qd3:Env:=[]
theorem qgQ (x:DL ref3Fine_con.ps):ref3Fine_con.φ x=denF Tryd.prog qd3 qd7 Tryd.f6 ref3Fine_con.ps ref3Fine_con.one ref3Fine_con.res ref3Fine_con.ρ x:=by kernel_rfl
theorem qhz:ConOK Tryd.prog 6 ref3Fine_con :=
  qj (env:=qd3) ((EnvOK.nil _)) mixed Tryd.func6 ref3Fine_con qd7 (by kernel_rfl) (fun h=>by first | rfl | cases h) (fun g hg=>by cases hg) qgQ
def qez:Ann:=(.two .nil (.two .nil (.two (.two .nil (.join ⟨[],[(3,.str)],[]⟩ (.two (.loop ⟨[],[(0,Zt5),(3,.str),(4,Zt6)],[]⟩ .nil) .nil))) .nil)))
noncomputable def ref3Hex_con:Con:=⟨[Zt5],true,[],.str,fun x=>qex x.1,none⟩
noncomputable def qeL:Env:=[]
theorem qht (x:DL ref3Hex_con.ps):ref3Hex_con.φ x=denF Tryd.prog qeL qez Tryd.f8 ref3Hex_con.ps ref3Hex_con.one ref3Hex_con.res ref3Hex_con.ρ x:=by kernel_rfl
theorem qio:ConOK Tryd.prog 8 ref3Hex_con :=
  qj (env:=qeL) ((EnvOK.nil _)) mixed Tryd.func8 ref3Hex_con qez (by kernel_rfl) (fun h=>by first | rfl | cases h) (fun g hg=>by cases hg) qht
def qeG:Ann:=(.two .nil (.two .nil (.two (.two .nil (.join ⟨[],[(5,Zt5)],[]⟩ (.two (.loop ⟨[1],[(5,Zt5),(6,Zt6)],[]⟩ (.two .nil (.two (.two (.two .nil (.two (.two .nil (.join ⟨[1,5,6],[(7,Zt5)],[]⟩ .nil)) .nil)) .nil) .nil))) .nil))) .nil)))
noncomputable def ref3Sum_con:Con:=⟨[Zt5,.str],true,[],Zt5,fun x=>qdJ x.1 x.2.1,none⟩
noncomputable def qeM:Env:=[]
theorem qg9 (x:DL ref3Sum_con.ps):ref3Sum_con.φ x=denF Tryd.prog qeM qeG Tryd.f7 ref3Sum_con.ps ref3Sum_con.one ref3Sum_con.res ref3Sum_con.ρ x:=by kernel_rfl
theorem qfs:ConOK Tryd.prog 7 ref3Sum_con :=
  qj (env:=qeM) ((EnvOK.nil _)) mixed Tryd.func7 ref3Sum_con qeG (by kernel_rfl) (fun h=>by first | rfl | cases h) (fun g hg=>by cases hg) qg9
def qch:Ann := .nil
noncomputable def law3Journals_con:Con:=⟨[],true,[],.bool,fun x=>qbF,none⟩
noncomputable def qcg:Env:=(7,.con ref3Sum_con)::(5,.con journalAppend_con)::[]
theorem qem (x:DL law3Journals_con.ps):law3Journals_con.φ x=denF Tryd.prog qcg qch Tryd.f4 law3Journals_con.ps law3Journals_con.one law3Journals_con.res law3Journals_con.ρ x:=by kernel_rfl
theorem qeZ:ConOK Tryd.prog 4 law3Journals_con :=
  qj (env:=qcg) ((EnvOK.cons (EnvOK.cons (EnvOK.nil _) qcf) qfs)) mixed Tryd.func4 law3Journals_con qch (by kernel_rfl) (fun h=>by first | rfl | cases h) (fun g hg=>by cases hg) qem
def qbs:Ann:=(.two .nil (.two .nil (.two .nil (.two .nil (.two .nil (.two .nil (.two (.two .nil (.joinE ⟨[1,2,3],[(9,Zt2),(11,.str)],[]⟩ (.two (.loop ⟨[1,2,3,30,31],[(9,Zt2),(10,Zt5),(11,.str),(32,Zt6)],[]⟩ .nil) .nil))) .nil)))))))
noncomputable def law3JournalSays_con:Con:=⟨[(.sl .str),Zt6,Zt5,.str],true,[],.bool,fun x=>qbi x.1 x.2.1 x.2.2.1 x.2.2.2.1,none⟩
noncomputable def qbq:Env:=(15,.con journalExtends_con)::(14,.con journalCheck_con)::(13,.con journalGood_con)::(12,.con journalRecover_con)::(11,.con journalRead_con)::(10,.con journalWrite_con)::(9,.con journalSum_con)::(8,.con ref3Hex_con)::(7,.con ref3Sum_con)::(6,.con ref3Fine_con)::(5,.con journalAppend_con)::(4,.con law3Journals_con)::[]
theorem qde (x:DL law3JournalSays_con.ps):law3JournalSays_con.φ x=denF Tryd.prog qbq qbs Tryd.f3 law3JournalSays_con.ps law3JournalSays_con.one law3JournalSays_con.res law3JournalSays_con.ρ x:=by kernel_rfl
theorem law3JournalSays_ok:ConOK Tryd.prog 3 law3JournalSays_con :=
  qj (env:=qbq) ((EnvOK.cons (EnvOK.cons (EnvOK.cons (EnvOK.cons (EnvOK.cons (EnvOK.cons (EnvOK.cons (EnvOK.cons (EnvOK.cons (EnvOK.cons (EnvOK.cons (EnvOK.cons (EnvOK.nil _) qeZ) qcf) qhz) qfs) qio) qcb) qeY) qfo) qbU) qcX) qbk) qdP)) mixed Tryd.func3 law3JournalSays_con qbs (by kernel_rfl) (fun h=>by first | rfl | cases h) (fun g hg=>by cases hg) qde
end Go.Proofs.YtlfpfiplndkofaaDoor
