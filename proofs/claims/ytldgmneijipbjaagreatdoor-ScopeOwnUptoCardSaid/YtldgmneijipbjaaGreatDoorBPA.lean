import Derived.Test.YtldgmneijipbjaaGreatDoorProg
import Derived.Below
import Derived.Deep.Draws
import Derived.Deep.AppendLies
import Derived.Maps.AppendAt
import Derived.OwnWalk
import Derived.Laws.BytesArg
import Derived.Laws.MakeOwn
import Derived.Laws.OwnMore
import Derived.Deep.OwnRows
import Derived.Tactics
import Derived.Lib.ConvBytes
import Derived.Laws.Slices
import Derived.WalkKit
import Derived.KernelRfl
import Derived.RowKit3
import Derived.Deep.LoopGhost
import Derived.Deep.QuietTactic
import Derived.BigQuiet
import Derived.WideLaws
import Derived.Deep.DeepCutAuto
import Derived.Deep.CutBlock
import Derived.Deep.RegionHeld3
import Derived.Laws.Rows
import Derived.Lib.AppendStr
import Derived.ArgAppend
import Derived.Laws.IdiomCopy
import Derived.OrdersHeld
import Derived.Laws.BitsLemmas
import Derived.RowKit
import Derived.Test.YtldgmneijipbjaaGreatDoorBW
import Derived.Test.YtldgmneijipbjaaGreatDoorBMac
set_option linter.unusedVariables false
set_option linter.unusedSimpArgs false
set_option maxRecDepth 100000
set_option maxHeartbeats 16000000
open Go.Proofs.YtldgmneijipbjaaGreatDoor.H
namespace Go.Proofs.YtldgmneijipbjaaGreatDoor.PScopeOwn
open Go.RowKit Go.Proofs.YtldgmneijipbjaaGreatDoorW.PrintWords Go.Proofs.YtldgmneijipbjaaGreatDoorW.PrintLast Go.Proofs.YtldgmneijipbjaaGreatDoorW.PrintMore
attribute [local go_sem] tL tN wV wW qB qC tO tQ
set_option linter.unusedVariables false
set_option linter.unusedSimpArgs false
def ah_:Option Int→Value
 |none=> .nilIface
 |some c=> .iface 0 (.int .i64 c)
theorem uS:ah_ none= .nilIface:=rfl
theorem uT (c:Int):ah_ (some c)= .iface 0 (.int .i64 c):=rfl
theorem Bj:(Tryz.prog.info? 9).map (fun i=>(i.zero,i.size,i.bytes))=some (some (.string ⟨#[]⟩),1,16):=dL
theorem rD:(Tryz.prog.info? 24).map (fun i=>(i.zero,i.size,i.bytes))=some (some (.agg #[(.int .i64 0),(.string ⟨#[]⟩),(.int .i64 0),(.slice none 0 0)]),4,56):=dL
structure jh where
 f0:Int
 f1:ByteArray
 f2:Int
 f3:(List jh)
def z24:jh:=⟨(0:Int),(⟨#[]⟩:ByteArray),(0:Int),([]:List jh)⟩
def F24 (d:Kd jh):Kd jh:=Kd.iso (Kd.pair (Kd.int .i64) (Kd.pair Kd.string (Kd.pair (Kd.int .i64) (Kd.slice 24 d)))) (fun x:jh=>(x.f0,x.f1,x.f2,x.f3))
theorem EY:Kd.sQ F24:=Kd.TR _ (Kd.yC (Kd.vW _) (Kd.yC (Kd.vW _) (Kd.yC (Kd.vW _) (Kd.Mv 24 Kd.aaF))))
theorem aia:Kd.Sub F24 [24]:=Kd.aaG _ (Kd.Bb (Kd.sub_const _ wN) (Kd.Bb (Kd.sub_const _ wN) (Kd.Bb (Kd.sub_const _ wN) (Kd.Q7 24 wN Kd.aeJ))))
theorem aeU:∀n,(Kd.upto F24 4 [24] n).sz=4:=Kd.aaH (fun _=>rfl)
def k24:Kd jh:=Kd.fix F24 4 [24] aeU (Kd.TS aia)
theorem Bl {w:World}{x:jh}{cs:List Value}(h:k24.K w x cs):∃A3 c3,cs=[.int .i64 x.f0,.string x.f1,.int .i64 x.f2,.slice A3 x.f3.length c3]∧x.f3.length≤c3∧k24.C w A3 x.f3.length x.f3:=by
 obtain⟨n,h⟩:=h
 cases n with
 |zero=>exact h.elim
 |succ n=>
  obtain⟨_,_,rfl,rfl,⟨_,_,rfl,rfl,⟨_,_,rfl,rfl,⟨A3,c3,rfl,l3,g3⟩⟩⟩⟩:=h;exact⟨A3,c3,rfl,l3,Kd.ahX g3⟩
theorem EZ (w:World)(x:jh){A3:Option Addr}{c3:Nat}(l3:x.f3.length≤c3)(g3:k24.C w A3 x.f3.length x.f3):k24.K w x [.int .i64 x.f0,.string x.f1,.int .i64 x.f2,.slice A3 x.f3.length c3]:=by
 obtain⟨n3,q3⟩:=Kd.Mx EY g3;have r3:=Kd.Q_ EY aeU (show n3≤n3 from aG) q3;exact⟨n3+1,⟨[.int .i64 x.f0],[.string x.f1,.int .i64 x.f2,.slice A3 x.f3.length c3],rfl,rfl,⟨[.string x.f1],[.int .i64 x.f2,.slice A3 x.f3.length c3],rfl,rfl,⟨[.int .i64 x.f2],[.slice A3 x.f3.length c3],rfl,rfl,⟨A3,c3,rfl,l3,r3⟩⟩⟩⟩⟩
theorem E5 (w:World)(base:Nat)(ok:Nat→Prop)(x:jh){v3:Value}(g3:k24.R 24 w base ok v3 x.f3):k24.M w base ok x [.int .i64 x.f0,.string x.f1,.int .i64 x.f2,v3]:=by
 obtain⟨n3,q3⟩:=Kd.Mw EY g3;have r3:=Kd.Q9 EY aeU (show n3≤n3 from aG) q3;exact⟨n3+1,⟨[.int .i64 x.f0],[.string x.f1,.int .i64 x.f2,v3],rfl,rfl,⟨[.string x.f1],[.int .i64 x.f2,v3],rfl,rfl,⟨[.int .i64 x.f2],[v3],rfl,rfl,⟨v3,rfl,r3⟩⟩⟩⟩⟩
def dB (xs:List jh)(i:Int):jh:=xs.getD i.toNat z24
theorem MJ {w:World}{A:Option Addr}{n:Nat}{xs:List jh}(h:Kd.C k24 w A n xs)(i:Int)(h0:0≤i)(h1:i<n):∃ad A3 c3,A=some ad∧w.cell? (ad.add (i.toNat*4))=some (.int .i64 (dB xs i).f0)∧w.cell? ⟨(ad.add (i.toNat*4)).block,(ad.add (i.toNat*4)).off+1,none⟩=some (.string (dB xs i).f1)∧w.cell? ⟨(ad.add (i.toNat*4)).block,(ad.add (i.toNat*4)).off+2,none⟩=some (.int .i64 (dB xs i).f2)∧w.cell? ⟨(ad.add (i.toNat*4)).block,(ad.add (i.toNat*4)).off+3,none⟩=some (.slice A3 (dB xs i).f3.length c3)∧(dB xs i).f3.length≤c3∧k24.C w A3 (dB xs i).f3.length (dB xs i).f3:=by
 obtain⟨ad,c,e,_,hK,hc0⟩:=Kd.Pv h z24 i h0 h1;have hc:∀j u,c[j]?=some u→w.cell? (ad.add (i.toNat*4+j))=some u:=hc0;obtain⟨A3,c3,rfl,l3,g3⟩:=Bl hK;exact⟨ad,A3,c3,e,hc 0 _ rfl,Bo,Ns,yS,l3,g3⟩
structure S43 where
 f0:ByteArray
 f1:Int
 f2:Int
 f3:Int
 f4:Bool
def z43:S43:=⟨(⟨#[]⟩:ByteArray),(0:Int),(0:Int),(0:Int),false⟩
attribute [local go_sem] tL tN wV wW qB qC tO tQ
set_option linter.unusedVariables false
set_option linter.unusedSimpArgs false
mutual
def aY.j0:Nat→Int→Bool→Option (Bool)
 |0,_,_=>none
 |k+1,x0,x3=>if x3=true then(aY.j1 k x0 x3)else(if x0≥65 then(aY.j1 k x0 (decide (x0≤90)))else(aY.j1 k x0 false))
def aY.j1:Nat→Int→Bool→Option (Bool)
 |0,_,_=>none
 |k+1,x0,x3=>if x3=true then(some true)else(if x0≥192 then(aY.j2 k x0 (decide (x0≤591)))else(aY.j2 k x0 false))
def aY.j2:Nat→Int→Bool→Option (Bool)
 |0,_,_=>none
 |k+1,x0,x16=>if x16=true then(if x0=215 then(some false)else(some (x0 != 247)))else(if x0≥913 then(if x0≤969 then(some (x0 != 930))else(if x0≥1040 then(some (decide (x0≤1103)))else(some false)))else(if x0≥1040 then(some (decide (x0≤1103)))else(some false)))
end
def aY.f (k:Nat)(a0:Int):Option (Bool):=if a0≥97 then(aY.j0 k a0 (decide (a0≤122)))else(aY.j0 k a0 false)
theorem aY.calls (k:Nat)(a0:Int)(r:Bool)(w:World)(h:aY.f k a0=some r):
  Calls Tryz.prog 110 #[.int .i32 a0] w fun e w'=>e= .returned (.bool r)∧bU w w':=by
 have H:(if a0≥97 then(aY.j0 k a0 (decide (a0≤122)))else(aY.j0 k a0 false))=some r:=h;clear h;have sD:=Aside0.mk H;clear H;go_enter Tryz.func110,Tryz.ntmps110;go_upto_region 1 with(fail)
 go_cut [3] (fun v3 wc=>∃(kq:Nat) (qg:Bool),v3= .bool qg∧Aside0 (aY.j0 kq a0 qg=some r)∧Aside0 (kq≤k)∧bU w wc)
 case first=>
  exact iZ
 case rest=>
  clear sD
  try clear c1
  try clear p2
  try clear c3
  try clear sS
  obtain⟨kq,qg,rfl,HA,HJ1,⟨mc1,rfl⟩⟩:=hcut
  cases kq with
  |zero=>exact absurd HA.out (by simp[aY.j0])
  |succ kj1=>
   have H:=HA.out;clear HA;simp only[aY.j0]at H;have Uk:=Aside0.mk H;clear H;go_upto_if 3 with(fail)
   go_cut [3] (fun v3 wc=>∃(kq:Nat) (E_:Bool),v3= .bool E_∧Aside0 (aY.j1 kq a0 E_=some r)∧Aside0 (kq≤kj1)∧bU w wc)
   case first=>
    have H:=Uk.out;clear Uk;by_cases c5:qg=true
    ·subst c5
     have H1:(aY.j1 kj1 a0 true)=some r:=aqR;exact OC
    ·replace c5:=Bool.eq_false_iff.mpr c5
     subst c5;have H1:(if a0≥65 then(aY.j1 kj1 a0 (decide (a0≤90)))else(aY.j1 kj1 a0 false))=some r:=Pp;exact Ow
   case rest=>
    clear Uk
    try clear c1
    try clear p2
    try clear c3
    try clear sS
    try clear c5
    try clear c6
    try clear mQ
    try clear p2
    obtain⟨kq,E_,rfl,HA,HJ3,⟨mc3,rfl⟩⟩:=hcut
    cases kq with
    |zero=>exact absurd HA.out (by simp[aY.j1])
    |succ kj3=>
     have H:=HA.out;clear HA;simp only[aY.j1]at H;by_cases c7:E_=true
     ·exact X5
     ·replace c7:=Bool.eq_false_iff.mpr c7
      subst c7;have H1:(if a0≥192 then(aY.j2 kj3 a0 (decide (a0≤591)))else(aY.j2 kj3 a0 false))=some r:=Pp;clear H;have H:=H1;clear H1;have HC8:=Aside0.mk H;clear H;go_upto_region 4 with(fail)
      go_cut [16] (fun v16 wc=>∃(kq:Nat) (zN:Bool),v16= .bool zN∧Aside0 (aY.j2 kq a0 zN=some r)∧Aside0 (kq≤kj3)∧bU w wc)
      case first=>
       exact OV
      case rest=>
       clear HC8
       try clear c1
       try clear p2
       try clear c3
       try clear sS
       try clear c5
       try clear c6
       try clear mQ
       try clear c7
       try clear c9
       try clear JH
       try clear p2
       obtain⟨kq,zN,rfl,HA,HJ7,⟨mc7,rfl⟩⟩:=hcut
       cases kq with
       |zero=>exact absurd HA.out (by simp[aY.j2])
       |succ kj7=>
        have H:=HA.out;clear HA;simp only[aY.j2]at H;exact vQ
def nk.f (a0:Int):Option (Bool):=if a0≥48 then(some (decide (a0≤57)))else(some false)
theorem nk.calls (a0:Int)(r:Bool)(w:World)(h:nk.f a0=some r):
  Calls Tryz.prog 111 #[.int .i32 a0] w fun e w'=>e= .returned (.bool r)∧bU w w':=by
 have H:(if a0≥48 then(some (decide (a0≤57)))else(some false))=some r:=h;clear h;by_cases c2:a0≥48
 ·rw[if_pos c2]at H
  have JI:decide (48≤a0)=true:=decide_eq_true c2;exact eX
 ·rw[if_neg c2]at H
  have JI:decide (48≤a0)=false:=decide_eq_false c2;exact eX
def aV.l0:Nat→List ByteArray→ByteArray→Int→Int→Option (Int)
 |0,_,_,_,_=>none
 |k+1,x0,x1,x7,x8=>if x8<x7 then(if 0≤x8 then(if x8<(x0.length:Int)then(if x1.toList=(iq ByteArray.empty x0 x8).toList then(some x8)else(aV.l0 k x0 x1 x7 (wrap64 (x8+1))))else(none))else(none))else(some (-1))
def aV.f (k:Nat)(l0:List ByteArray)(a1:ByteArray):Option (Int):=aV.l0 k l0 a1 (l0.length:Int) 0
theorem aV.calls (k:Nat)(A0:Option Addr)(c0:Nat)(l0:List ByteArray)(a1:ByteArray)(r:Int)(w:World)(hr0:Kd.C Kd.string w A0 l0.length l0)(hc0:l0.length≤c0)(h:aV.f k l0 a1=some r):
  Calls Tryz.prog 120 #[.slice A0 l0.length c0,.string a1] w fun e w'=>e= .returned (.int .i64 r)∧bU w w':=by
 have HR0:=Aside0.mk hr0;have HC0:=Aside0.mk hc0;clear hr0 hc0;have H:(aV.l0 k l0 a1 (l0.length:Int) 0)=some r:=h;clear h;have H':=Aside0.mk H;clear H;go_enter Tryz.func120,Tryz.ntmps120;go_wp2;go_loopg [8] k (fun kq v8 w'=>∃(jH:Int),v8= .int .i64 jH∧Aside0 (aV.l0 kq l0 a1 (l0.length:Int) jH=some r)∧Aside0 (kq≤k)∧bU w w')
 case atStart=>exact⟨(0),mU,H',⟨Nat.le_refl _⟩,BA⟩
 case round=>
  clear H'
  try clear c1
  try clear p2
  obtain⟨jH,rfl,HA,JJ,⟨m1,rfl⟩⟩:=hrel
  cases gk with
  |zero=>exact absurd HA.out (by simp[aV.l0])
  |succ k1=>
   have H:=HA.out;clear HA;simp only[aV.l0]at H;by_cases c3:jH<(l0.length:Int)
   ·rw[if_pos c3]at H
    have sS:decide (jH<(l0.length:Int))=true:=decide_eq_true c3;clear c3;by_cases c4:0≤jH
    ·rw[if_pos c4]at H
     have Fa:decide (0≤jH)=true:=decide_eq_true c4;clear c4;by_cases c5:jH<(l0.length:Int)
     ·rw[if_pos c5]at H
      have tT:decide (jH<(l0.length:Int))=true:=decide_eq_true c5;clear c5;by_cases c6:a1.toList=(iq ByteArray.empty l0 jH).toList
      ·rw[if_pos c6]at H
       have mQ:(a1.toList==(iq ByteArray.empty l0 jH).toList)=true:=beq_iff_eq.mpr c6;have zZ:(a1.toList != (iq ByteArray.empty l0 jH).toList)=false:=bne_eq_false_iff_eq.mpr c6;clear c6;obtain rfl:=Option.some.inj H;refine Wn ?_;intro JL JM Ur e109 Fb
       cases e109
       replace JL:=eq_true JL
       replace JM:=eq_true JM
       go_wp2;go_ret;exact sU
      ·rw[if_neg c6]at H
       have mQ:(a1.toList==(iq ByteArray.empty l0 jH).toList)=false:=beq_eq_false_iff_ne.mpr c6;have zZ:(a1.toList != (iq ByteArray.empty l0 jH).toList)=true:=bne_iff_ne.mpr c6;have H':=Aside0.mk H;clear H;refine Wn ?_;intro JL JM Ur e109 Fb
       cases e109
       replace JL:=eq_true JL
       replace JM:=eq_true JM
       exact ac4
     ·exact Y2
    ·exact Zo
   ·exact wH
def eH.f (k:Nat)(l0:List ByteArray)(a1:ByteArray):Option (Bool):=(aV.f k l0 a1).bind fun Rn=>(some (decide (Rn≥0)))
theorem eH.calls (k:Nat)(A0:Option Addr)(c0:Nat)(l0:List ByteArray)(a1:ByteArray)(r:Bool)(w:World)(hr0:Kd.C Kd.string w A0 l0.length l0)(hc0:l0.length≤c0)(h:eH.f k l0 a1=some r):
  Calls Tryz.prog 105 #[.slice A0 l0.length c0,.string a1] w fun e w'=>e= .returned (.bool r)∧bU w w':=by
 have HR0:=Aside0.mk hr0;have HC0:=Aside0.mk hc0;clear hr0 hc0;have H:((aV.f k l0 a1).bind fun Rn=>(some (decide (Rn≥0))))=some r:=h;clear h
 replace H:=Option.bind_eq_some_iff.mp H
 obtain⟨Rn,A30,H⟩:=H
 replace H:(some (decide (Rn≥0)))=some r:=H
 have A3:=Aside0.mk A30;clear A30;obtain rfl:=Option.some.inj H;go_enter Tryz.func105,Tryz.ntmps105;go_wp2_with (first|((with_reducible refine dM (f:=120) rfl ?_);refine jN (some 7) rfl rfl Tryz.func120 dL rfl #[.slice A0 l0.length c0,.string a1] rfl aA ?_;(with_reducible refine(aV.calls k _ _ l0 a1 Rn _ ?Bp ?Bq A3.out).mono ?_);(case Bp=>repeat (first|exact HR0.out|(with_reducible refine Kd.ES ?_ _)|(with_reducible refine Kd.ET ?_ _)|(with_reducible refine Kd.MB ?_)));(case Bq=>exact HC0.out);rintro e w' ⟨rfl,⟨nd,rfl⟩⟩;refine⟨_,rfl,?_⟩));go_ret;exact sU
def uV.f:Option (List ByteArray):=some (([(⟨#[99,108,97,115,115]⟩:ByteArray),(⟨#[99,111,110,115,116]⟩:ByteArray),(⟨#[100,101,102,97,117,108,116]⟩:ByteArray),(⟨#[101,108,115,101]⟩:ByteArray),(⟨#[101,120,112,111,114,116]⟩:ByteArray),(⟨#[102,97,108,115,101]⟩:ByteArray),(⟨#[102,117,110,99,116,105,111,110]⟩:ByteArray),(⟨#[105,102]⟩:ByteArray),(⟨#[105,109,112,111,114,116]⟩:ByteArray),(⟨#[108,101,116]⟩:ByteArray),(⟨#[110,101,119]⟩:ByteArray),(⟨#[110,117,108,108]⟩:ByteArray),(⟨#[114,101,116,117,114,110]⟩:ByteArray),(⟨#[116,104,105,115]⟩:ByteArray),(⟨#[116,104,114,111,119]⟩:ByteArray),(⟨#[116,114,117,101]⟩:ByteArray),(⟨#[116,121,112,101,111,102]⟩:ByteArray),(⟨#[117,110,100,101,102,105,110,101,100]⟩:ByteArray),(⟨#[119,104,105,108,101]⟩:ByteArray)]:List ByteArray))
theorem uV.calls (r:List ByteArray)(w:World)(h:uV.f=some r):
  Calls Tryz.prog 106 #[] w fun e w'=>∃Ut:Value,e= .returned (Ut)∧Kd.R Kd.string 9 w' w.heap.size (fun _=>True) Ut r∧Below w.heap.size w w':=by
 refine Zz ?_;intro HB;have H:(some (([(⟨#[99,108,97,115,115]⟩:ByteArray),(⟨#[99,111,110,115,116]⟩:ByteArray),(⟨#[100,101,102,97,117,108,116]⟩:ByteArray),(⟨#[101,108,115,101]⟩:ByteArray),(⟨#[101,120,112,111,114,116]⟩:ByteArray),(⟨#[102,97,108,115,101]⟩:ByteArray),(⟨#[102,117,110,99,116,105,111,110]⟩:ByteArray),(⟨#[105,102]⟩:ByteArray),(⟨#[105,109,112,111,114,116]⟩:ByteArray),(⟨#[108,101,116]⟩:ByteArray),(⟨#[110,101,119]⟩:ByteArray),(⟨#[110,117,108,108]⟩:ByteArray),(⟨#[114,101,116,117,114,110]⟩:ByteArray),(⟨#[116,104,105,115]⟩:ByteArray),(⟨#[116,104,114,111,119]⟩:ByteArray),(⟨#[116,114,117,101]⟩:ByteArray),(⟨#[116,121,112,101,111,102]⟩:ByteArray),(⟨#[117,110,100,101,102,105,110,101,100]⟩:ByteArray),(⟨#[119,104,105,108,101]⟩:ByteArray)]:List ByteArray)))=some r:=h;clear h;obtain⟨amq,JN⟩:∃y_:List ByteArray,y_=(([(⟨#[99,108,97,115,115]⟩:ByteArray),(⟨#[99,111,110,115,116]⟩:ByteArray),(⟨#[100,101,102,97,117,108,116]⟩:ByteArray),(⟨#[101,108,115,101]⟩:ByteArray),(⟨#[101,120,112,111,114,116]⟩:ByteArray),(⟨#[102,97,108,115,101]⟩:ByteArray),(⟨#[102,117,110,99,116,105,111,110]⟩:ByteArray),(⟨#[105,102]⟩:ByteArray),(⟨#[105,109,112,111,114,116]⟩:ByteArray),(⟨#[108,101,116]⟩:ByteArray),(⟨#[110,101,119]⟩:ByteArray),(⟨#[110,117,108,108]⟩:ByteArray),(⟨#[114,101,116,117,114,110]⟩:ByteArray),(⟨#[116,104,105,115]⟩:ByteArray),(⟨#[116,104,114,111,119]⟩:ByteArray),(⟨#[116,114,117,101]⟩:ByteArray),(⟨#[116,121,112,101,111,102]⟩:ByteArray),(⟨#[117,110,100,101,102,105,110,101,100]⟩:ByteArray),(⟨#[119,104,105,108,101]⟩:ByteArray)]:List ByteArray)):=⟨_,rfl⟩
 replace H:(some amq)=some r:=by first|(rw[JN];with_reducible exact H)|(have tV:=(Option.bind_some _ _).symm.trans H;rw[JN];with_reducible exact tV)|(have tV:=(Option.bind_some _ _).symm.trans H;with_reducible exact tV)|with_reducible exact H|(rw[JN];exact H)|exact H
 have ac6:=Aside0.mk JN;clear JN;obtain rfl:=Option.some.inj H;go_enter Tryz.func106,Tryz.ntmps106;go_wp2_with (first|((with_reducible refine iY (N:=1) rfl ?_);refine Kd.zI Kd.string _ 9 ?hg (N:=1) ?hd (xs:=([(⟨#[99,108,97,115,115]⟩:ByteArray),(⟨#[99,111,110,115,116]⟩:ByteArray),(⟨#[100,101,102,97,117,108,116]⟩:ByteArray),(⟨#[101,108,115,101]⟩:ByteArray),(⟨#[101,120,112,111,114,116]⟩:ByteArray),(⟨#[102,97,108,115,101]⟩:ByteArray),(⟨#[102,117,110,99,116,105,111,110]⟩:ByteArray),(⟨#[105,102]⟩:ByteArray),(⟨#[105,109,112,111,114,116]⟩:ByteArray),(⟨#[108,101,116]⟩:ByteArray),(⟨#[110,101,119]⟩:ByteArray),(⟨#[110,117,108,108]⟩:ByteArray),(⟨#[114,101,116,117,114,110]⟩:ByteArray),(⟨#[116,104,105,115]⟩:ByteArray),(⟨#[116,104,114,111,119]⟩:ByteArray),(⟨#[116,114,117,101]⟩:ByteArray),(⟨#[116,121,112,101,111,102]⟩:ByteArray),(⟨#[117,110,100,101,102,105,110,101,100]⟩:ByteArray),(⟨#[119,104,105,108,101]⟩:ByteArray)]:List ByteArray)) (inner:=[.string (⟨#[99,108,97,115,115]⟩:ByteArray),.string (⟨#[99,111,110,115,116]⟩:ByteArray),.string (⟨#[100,101,102,97,117,108,116]⟩:ByteArray),.string (⟨#[101,108,115,101]⟩:ByteArray),.string (⟨#[101,120,112,111,114,116]⟩:ByteArray),.string (⟨#[102,97,108,115,101]⟩:ByteArray),.string (⟨#[102,117,110,99,116,105,111,110]⟩:ByteArray),.string (⟨#[105,102]⟩:ByteArray),.string (⟨#[105,109,112,111,114,116]⟩:ByteArray),.string (⟨#[108,101,116]⟩:ByteArray),.string (⟨#[110,101,119]⟩:ByteArray),.string (⟨#[110,117,108,108]⟩:ByteArray),.string (⟨#[114,101,116,117,114,110]⟩:ByteArray),.string (⟨#[116,104,105,115]⟩:ByteArray),.string (⟨#[116,104,114,111,119]⟩:ByteArray),.string (⟨#[116,114,117,101]⟩:ByteArray),.string (⟨#[116,121,112,101,111,102]⟩:ByteArray),.string (⟨#[117,110,100,101,102,105,110,101,100]⟩:ByteArray),.string (⟨#[119,104,105,108,101]⟩:ByteArray)]) (ok:=fun _=>True) (okp:=fun _=>True) ?hr ?hp (fun _ hk=>hk) trivial (Below.refl _ _) (Nat.le_refl _) qo ?_;(case hd=>rfl);(case hg=>rfl);(case hr=>first|(go_simp;done)|(go_simp;rfl));(case hp=>exact(bH.one (show Kd.M Kd.string _ _ _ (⟨#[99,108,97,115,115]⟩:ByteArray) [.string (⟨#[99,108,97,115,115]⟩:ByteArray)]from rfl) (bH.one (show Kd.M Kd.string _ _ _ (⟨#[99,111,110,115,116]⟩:ByteArray) [.string (⟨#[99,111,110,115,116]⟩:ByteArray)]from rfl) (bH.one (show Kd.M Kd.string _ _ _ (⟨#[100,101,102,97,117,108,116]⟩:ByteArray) [.string (⟨#[100,101,102,97,117,108,116]⟩:ByteArray)]from rfl) (bH.one (show Kd.M Kd.string _ _ _ (⟨#[101,108,115,101]⟩:ByteArray) [.string (⟨#[101,108,115,101]⟩:ByteArray)]from rfl) (bH.one (show Kd.M Kd.string _ _ _ (⟨#[101,120,112,111,114,116]⟩:ByteArray) [.string (⟨#[101,120,112,111,114,116]⟩:ByteArray)]from rfl) (bH.one (show Kd.M Kd.string _ _ _ (⟨#[102,97,108,115,101]⟩:ByteArray) [.string (⟨#[102,97,108,115,101]⟩:ByteArray)]from rfl) (bH.one (show Kd.M Kd.string _ _ _ (⟨#[102,117,110,99,116,105,111,110]⟩:ByteArray) [.string (⟨#[102,117,110,99,116,105,111,110]⟩:ByteArray)]from rfl) (bH.one (show Kd.M Kd.string _ _ _ (⟨#[105,102]⟩:ByteArray) [.string (⟨#[105,102]⟩:ByteArray)]from rfl) (bH.one (show Kd.M Kd.string _ _ _ (⟨#[105,109,112,111,114,116]⟩:ByteArray) [.string (⟨#[105,109,112,111,114,116]⟩:ByteArray)]from rfl) (bH.one (show Kd.M Kd.string _ _ _ (⟨#[108,101,116]⟩:ByteArray) [.string (⟨#[108,101,116]⟩:ByteArray)]from rfl) (bH.one (show Kd.M Kd.string _ _ _ (⟨#[110,101,119]⟩:ByteArray) [.string (⟨#[110,101,119]⟩:ByteArray)]from rfl) (bH.one (show Kd.M Kd.string _ _ _ (⟨#[110,117,108,108]⟩:ByteArray) [.string (⟨#[110,117,108,108]⟩:ByteArray)]from rfl) (bH.one (show Kd.M Kd.string _ _ _ (⟨#[114,101,116,117,114,110]⟩:ByteArray) [.string (⟨#[114,101,116,117,114,110]⟩:ByteArray)]from rfl) (bH.one (show Kd.M Kd.string _ _ _ (⟨#[116,104,105,115]⟩:ByteArray) [.string (⟨#[116,104,105,115]⟩:ByteArray)]from rfl) (bH.one (show Kd.M Kd.string _ _ _ (⟨#[116,104,114,111,119]⟩:ByteArray) [.string (⟨#[116,104,114,111,119]⟩:ByteArray)]from rfl) (bH.one (show Kd.M Kd.string _ _ _ (⟨#[116,114,117,101]⟩:ByteArray) [.string (⟨#[116,114,117,101]⟩:ByteArray)]from rfl) (bH.one (show Kd.M Kd.string _ _ _ (⟨#[116,121,112,101,111,102]⟩:ByteArray) [.string (⟨#[116,121,112,101,111,102]⟩:ByteArray)]from rfl) (bH.one (show Kd.M Kd.string _ _ _ (⟨#[117,110,100,101,102,105,110,101,100]⟩:ByteArray) [.string (⟨#[117,110,100,101,102,105,110,101,100]⟩:ByteArray)]from rfl) (bH.one (show Kd.M Kd.string _ _ _ (⟨#[119,104,105,108,101]⟩:ByteArray) [.string (⟨#[119,104,105,108,101]⟩:ByteArray)]from rfl) (bH.none _ _)))))))))))))))))))));intro asY w1 ho2 hb Ro qD;clear Ro qD;(first|rw[←ac6.out]at ho2|(simp only[Int.reduceToNat]at ho2;rw[←ac6.out]at ho2));have kM:=Aside0.mk (Kd.jK ho2 (dF ah));have ny:=Aside0.mk (dK ah hb);clear HB;have aic:=kM;have HB:=ny;clear kM ny;clear hb ho2));go_ret;exact⟨_,oK,by(with_reducible repeat (first|apply Kd.iU|apply Kd.jq|apply Kd.kY));exact aic.out,ah⟩
def bA.l0:Nat→List Int→Int→Int→Int→Option (Int)
 |0,_,_,_,_=>none
 |k+1,x0,x1,x7,x8=>if x8<x7 then(if 0≤x8 then(if x8<(x0.length:Int)then(if x1=(rd x0 x8)then(some x8)else(bA.l0 k x0 x1 x7 (wrap64 (x8+1))))else(none))else(none))else(some (-1))
def bA.f (k:Nat)(l0:List Int)(a1:Int):Option (Int):=bA.l0 k l0 a1 (l0.length:Int) 0
theorem bA.calls (k:Nat)(A0:Option Addr)(c0:Nat)(l0:List Int)(a1:Int)(r:Int)(w:World)(hr0:Kd.C (Kd.int .u8) w A0 l0.length l0)(hc0:l0.length≤c0)(h:bA.f k l0 a1=some r):
  Calls Tryz.prog 109 #[.slice A0 l0.length c0,.int .u8 a1] w fun e w'=>e= .returned (.int .i64 r)∧bU w w':=by
 have HR0:=Aside0.mk hr0;have HC0:=Aside0.mk hc0;clear hr0 hc0;have H:(bA.l0 k l0 a1 (l0.length:Int) 0)=some r:=h;clear h;have H':=Aside0.mk H;clear H;go_enter Tryz.func109,Tryz.ntmps109;go_wp2;go_loopg [8] k (fun kq v8 w'=>∃(jH:Int),v8= .int .i64 jH∧Aside0 (bA.l0 kq l0 a1 (l0.length:Int) jH=some r)∧Aside0 (kq≤k)∧bU w w')
 case atStart=>exact⟨(0),mU,H',⟨Nat.le_refl _⟩,BA⟩
 case round=>
  clear H'
  try clear c1
  try clear p2
  obtain⟨jH,rfl,HA,JJ,⟨m1,rfl⟩⟩:=hrel
  cases gk with
  |zero=>exact absurd HA.out (by simp[bA.l0])
  |succ k1=>
   have H:=HA.out;clear HA;simp only[bA.l0]at H;by_cases c3:jH<(l0.length:Int)
   ·rw[if_pos c3]at H
    have sS:decide (jH<(l0.length:Int))=true:=decide_eq_true c3;clear c3;by_cases c4:0≤jH
    ·rw[if_pos c4]at H
     have Fa:decide (0≤jH)=true:=decide_eq_true c4;clear c4;by_cases c5:jH<(l0.length:Int)
     ·rw[if_pos c5]at H
      have tT:decide (jH<(l0.length:Int))=true:=decide_eq_true c5;clear c5;by_cases c6:a1=(rd l0 jH)
      ·rw[if_pos c6]at H
       have mQ:(a1==(rd l0 jH))=true:=beq_iff_eq.mpr c6;have zZ:(a1 != (rd l0 jH))=false:=bne_eq_false_iff_eq.mpr c6;clear c6;obtain rfl:=Option.some.inj H;refine Zl ?_;intro JO JR Uv e138 Fg
       cases e138
       replace JO:=eq_true JO
       replace JR:=eq_true JR
       go_wp2;go_ret;exact sU
      ·rw[if_neg c6]at H
       have mQ:(a1==(rd l0 jH))=false:=beq_eq_false_iff_ne.mpr c6;have zZ:(a1 != (rd l0 jH))=true:=bne_iff_ne.mpr c6;have H':=Aside0.mk H;clear H;refine Zl ?_;intro JO JR Uv e138 Fg
       cases e138
       replace JO:=eq_true JO
       replace JR:=eq_true JR
       exact ac4
     ·exact Y2
    ·exact Zo
   ·exact wH
def fO.f (k:Nat)(l0:List Int)(a1:Int):Option (Bool):=(bA.f k l0 a1).bind fun t139=>(some (decide (t139≥0)))
theorem fO.calls (k:Nat)(A0:Option Addr)(c0:Nat)(l0:List Int)(a1:Int)(r:Bool)(w:World)(hr0:Kd.C (Kd.int .u8) w A0 l0.length l0)(hc0:l0.length≤c0)(h:fO.f k l0 a1=some r):
  Calls Tryz.prog 60 #[.slice A0 l0.length c0,.int .u8 a1] w fun e w'=>e= .returned (.bool r)∧bU w w':=by
 have HR0:=Aside0.mk hr0;have HC0:=Aside0.mk hc0;clear hr0 hc0;have H:((bA.f k l0 a1).bind fun t139=>(some (decide (t139≥0))))=some r:=h;clear h
 replace H:=Option.bind_eq_some_iff.mp H
 obtain⟨t139,A30,H⟩:=H
 replace H:(some (decide (t139≥0)))=some r:=H
 have A3:=Aside0.mk A30;clear A30;obtain rfl:=Option.some.inj H;go_enter Tryz.func60,Tryz.ntmps60;go_wp2_with (first|((with_reducible refine dM (f:=109) rfl ?_);refine jN (some 7) rfl rfl Tryz.func109 dL rfl #[.slice A0 l0.length c0,.int .u8 a1] rfl aA ?_;(with_reducible refine(bA.calls k _ _ l0 a1 t139 _ ?Bp ?Bq A3.out).mono ?_);(case Bp=>repeat (first|exact HR0.out|(with_reducible refine Kd.ES ?_ _)|(with_reducible refine Kd.ET ?_ _)|(with_reducible refine Kd.MB ?_)));(case Bq=>exact HC0.out);rintro e w' ⟨rfl,⟨nd,rfl⟩⟩;refine⟨_,rfl,?_⟩));go_ret;exact sU
mutual
def dN.l0:Nat→Int→List (jh)→Int→Int→Option (Int)
 |0,_,_,_,_=>none
 |k+1,x3,x7,x8,x9=>if x9<x8 then(if 0≤x9 then(if x9<(x7.length:Int)then((dN.f k ((dB x7 x9).f0) ((dB x7 x9).f1) ((dB x7 x9).f2) ((dB x7 x9).f3)).bind fun t146=>(dN.l0 k (wrap64 (x3+t146)) x7 x8 (wrap64 (x9+1))))else(none))else(none))else(some x3)
def dN.f:Nat→Int→ByteArray→Int→List (jh)→Option (Int)
 |0,_,_,_,_=>none
 |k+1,nK,nL,nM,dU=>dN.l0 k 1 dU (dU.length:Int) 0
end
theorem dN.calls (k:Nat):∀(nK:Int) (nL:ByteArray) (nM:Int) (wX:Option Addr) (rF:Nat) (dU:List (jh)) (r:Int) (w:World) (Br:Kd.C k24 w wX dU.length dU) (Bv:dU.length≤rF) (h:dN.f k nK nL nM dU=some r),
  Calls Tryz.prog 20 #[.agg #[.int .i64 nK,.string nL,.int .i64 nM,.slice wX dU.length rF]] w fun e w'=>e= .returned (.int .i64 r)∧Below w.heap.size w w':=by
 induction k using Nat.strongRecOn with
 |_ k ih=>
 intro nK nL nM wX rF dU r w Br Bv h
 cases k with
 |zero=>exact absurd h (by simp[dN.f])
 |succ k=>
 simp only[dN.f]at h;have aeW:=Tryz.underlying24;have Uw:=Aside0.mk Br;have aie:=Aside0.mk Bv;clear Br Bv;refine Zz ?_;intro HB;have H:(dN.l0 k 1 dU (dU.length:Int) 0)=some r:=h;clear h;have H':=Aside0.mk H;clear H;go_enter Tryz.func20,Tryz.ntmps20;go_wp2_with (first|((with_reducible refine iY (N:=1) rfl ?_);refine qA ?hg (N:=1) ?hd (cs:=#[.int .i64 nK,.string nL,.int .i64 nM,.slice wX dU.length rF]) (t:=24) ?hr ?_;(case hd=>rfl);(case hg=>rfl);(case hr=>first|(go_simp;done)|(go_simp;rfl));intro qE hg w2 wY hb;have kM:=Aside0.mk (dK ah hb);have ny:=Aside0.mk (wY);have Bw:=Aside0.mk ((by rw[hg];exact(dF ah):w.heap.size≤qE));have Px:=Aside0.mk ((by rw[hg];exact(dF ah):w.heap.size≤qE));clear HB;have HB:=kM;have oL:=ny;have aqX:=Bw;have ac7:=Px;clear kM ny Bw Px;clear hb wY hg;have aeX:w2.cell? ⟨qE,0,none⟩=some (.int .i64 nK):=(aj oL.out 0).trans rfl;have aeY:w2.cell? ⟨qE,1,none⟩=some (.string nL):=(aj oL.out 1).trans rfl;have aeZ:w2.cell? ⟨qE,2,none⟩=some (.int .i64 nM):=(aj oL.out 2).trans rfl;have ae0:w2.cell? ⟨qE,3,none⟩=some (.slice wX dU.length rF):=(aj oL.out 3).trans rfl;have ae1:=aQ oL.out 0;have ae2:=aQ oL.out 1;have ae3:=aQ oL.out 2;have ae4:=aQ oL.out 3));go_loopg [3,9] k (fun kq v3 v9 w'=>∃(qg:Int) (ko:Int),v3= .int .i64 qg∧v9= .int .i64 ko∧Aside0 (dN.l0 kq qg dU (dU.length:Int) ko=some r)∧Aside0 (kq≤k)∧Aside0 (w'.heap[qE]?=some (.cells #[.int .i64 nK,.string nL,.int .i64 nM,(.slice wX dU.length rF)] 24 (0,0)))∧Aside0 (Below w.heap.size w w'))
 case atStart=>exact⟨(1),(0),mU,mU,H',⟨Nat.le_refl _⟩,⟨f_⟩,⟨tX⟩⟩
 case round=>
  clear H'
  try clear c2
  try clear p2
  try clear aeX
  try clear aeY
  try clear aeZ
  try clear ae0
  try clear ae1
  try clear ae2
  try clear ae3
  try clear ae4
  obtain⟨qg,ko,rfl,rfl,HA,JJ,oL,HB⟩:=hrel
  cases gk with
  |zero=>exact absurd HA.out (by simp[dN.l0])
  |succ k1=>
   have H:=HA.out;clear HA;simp only[dN.l0]at H;by_cases c4:ko<(dU.length:Int)
   ·rw[if_pos c4]at H
    have Fa:decide (ko<(dU.length:Int))=true:=decide_eq_true c4;clear c4;by_cases c5:0≤ko
    ·rw[if_pos c5]at H
     have tT:decide (0≤ko)=true:=decide_eq_true c5;clear c5;by_cases c6:ko<(dU.length:Int)
     ·rw[if_pos c6]at H
      have mQ:decide (ko<(dU.length:Int))=true:=decide_eq_true c6;clear c6
      replace H:=Option.bind_eq_some_iff.mp H
      obtain⟨t146,A70,H⟩:=H
      replace H:(dN.l0 k1 (wrap64 (qg+t146)) dU (dU.length:Int) (wrap64 (ko+1)))=some r:=H
      have A7:=Aside0.mk A70;clear A70;have H':=Aside0.mk H;clear H;have ae5:0≤(ko:Int):=of_decide_eq_true mR;have ae6:ko<(dU.length:Int):=of_decide_eq_true mR;obtain⟨Py,Ux,Uy,amr,Fh,Fj,Fp,Fq,Pz,PD⟩:=MJ Uw.out ko ae5 ae6
      cases amr
      replace Fh:=(HB.out.cell (World.block_lt_of_cell? w _ Fh)).trans Fh
      replace Fj:=(HB.out.cell (World.block_lt_of_cell? w _ Fj)).trans Fj
      replace Fp:=(HB.out.cell (World.block_lt_of_cell? w _ Fp)).trans Fp
      replace Fq:=(HB.out.cell (World.block_lt_of_cell? w _ Fq)).trans Fq
      have aaP:=Aside0.mk PD;have aaQ:=Aside0.mk Pz;clear PD Pz
      replace ae5:=eq_true ae5
      replace ae6:=eq_true ae6
      go_wp2_with (first|((with_reducible refine iY (N:=5) rfl ?_);refine qA ?hg (N:=5) ?hd (cs:=#[.int .i64 0,.string (⟨#[]⟩:ByteArray),.int .i64 0,.slice none 0 0]) (t:=24) ?hr ?_;(case hd=>rfl);(case hg=>rfl);(case hr=>first|(go_simp;done)|(go_simp;rfl));intro wZ hg w8 wY hb;have kM:=Aside0.mk (ow (g:=qE) (o:= .cells #[.int .i64 nK,.string nL,.int .i64 nM,.slice (some Py) dU.length rF] 24 (0,0)) f_ hb);have ny:=Aside0.mk (dK tX hb);have Bw:=Aside0.mk (wY);have Px:=Aside0.mk ((by rw[hg];exact(dF tX):w.heap.size≤wZ));have n4_:=Aside0.mk ((by rw[hg];exact(dF tX):w.heap.size≤wZ));have n5_:=Aside0.mk ((by rw[hg];exact Nat.ne_of_lt (ay (g:=qE) (o:= .cells #[.int .i64 nK,.string nL,.int .i64 nM,.slice (some Py) dU.length rF] 24 (0,0)) f_):qE≠wZ));have n6_:=Aside0.mk ((by rw[hg];exact Nat.ne_of_gt (ay (g:=qE) (o:= .cells #[.int .i64 nK,.string nL,.int .i64 nM,.slice (some Py) dU.length rF] 24 (0,0)) f_):wZ≠qE));clear oL;clear HB;have oL:=kM;have HB:=ny;have tY:=Bw;have aq2:=Px;have aif:=n4_;have qF:=n5_;have Rp:=n6_;clear kM ny Bw Px n4_ n5_ n6_;clear hb wY hg;have asZ:=Rp.out;have as0:=qF.out;have alq:w8.cell? ⟨wZ,0,none⟩=some (.int .i64 0):=(aj tY.out 0).trans rfl;have alr:w8.cell? ⟨wZ,1,none⟩=some (.string (⟨#[]⟩:ByteArray)):=(aj tY.out 1).trans rfl;have als:w8.cell? ⟨wZ,2,none⟩=some (.int .i64 0):=(aj tY.out 2).trans rfl;have alu:w8.cell? ⟨wZ,3,none⟩=some (.slice none 0 0):=(aj tY.out 3).trans rfl;have alv:=aQ tY.out 0;have alx:=aQ tY.out 1;have aly:=aQ tY.out 2;have alz:=aQ tY.out 3)|((with_reducible refine dM (f:=20) rfl ?_);refine jN (some 15) rfl rfl Tryz.func20 dL rfl #[.agg #[.int .i64 ((dB dU ko).f0),.string ((dB dU ko).f1),.int .i64 ((dB dU ko).f2),.slice Ux ((dB dU ko).f3).length Uy]] rfl aA ?_;(with_reducible refine(ih k1 vY ((dB dU ko).f0) ((dB dU ko).f1) ((dB dU ko).f2) _ _ ((dB dU ko).f3) t146 _ ?Bp ?Bq A7.out).mono ?_);(case Bp=>exact Kd.rC aaP.out iG);(case Bq=>exact aaQ.out);rintro e w11 ⟨rfl,hb⟩;refine⟨_,rfl,?_⟩;have kM:=Aside0.mk (ow (g:=qE) (o:= .cells #[.int .i64 nK,.string nL,.int .i64 nM,.slice (some Py) dU.length rF] 24 (0,0)) (by(with_reducible repeat (first|refine dG ?_ _|refine dX ?_|refine dh ?_ _));refine Ai ?_ qF.out _;(with_reducible repeat (first|refine dG ?_ _|refine dX ?_|refine dh ?_ _));refine Ai ?_ qF.out _;(with_reducible repeat (first|refine dG ?_ _|refine dX ?_|refine dh ?_ _));refine Ai ?_ qF.out _;(with_reducible repeat (first|refine dG ?_ _|refine dX ?_|refine dh ?_ _));refine Ai ?_ qF.out _;(with_reducible repeat (first|refine dG ?_ _|refine dX ?_|refine dh ?_ _));exact oL.out) hb);have ny:=Aside0.mk (ow (g:=wZ) (o:= .cells #[.int .i64 ((dB dU ko).f0),.string ((dB dU ko).f1),.int .i64 ((dB dU ko).f2),.slice Ux ((dB dU ko).f3).length Uy] 24 (0,0)) (by(with_reducible repeat (first|refine dG ?_ _|refine dX ?_|refine dh ?_ _));refine bT (cs:=#[.int .i64 ((dB dU ko).f0),.string ((dB dU ko).f1),.int .i64 ((dB dU ko).f2),.slice none 0 0]) ?_ 3 _ rfl;(with_reducible repeat (first|refine dG ?_ _|refine dX ?_|refine dh ?_ _));refine bT (cs:=#[.int .i64 ((dB dU ko).f0),.string ((dB dU ko).f1),.int .i64 0,.slice none 0 0]) ?_ 2 _ rfl;(with_reducible repeat (first|refine dG ?_ _|refine dX ?_|refine dh ?_ _));refine bT (cs:=#[.int .i64 ((dB dU ko).f0),.string (⟨#[]⟩:ByteArray),.int .i64 0,.slice none 0 0]) ?_ 1 _ rfl;(with_reducible repeat (first|refine dG ?_ _|refine dX ?_|refine dh ?_ _));refine bT (cs:=#[.int .i64 0,.string (⟨#[]⟩:ByteArray),.int .i64 0,.slice none 0 0]) ?_ 0 _ rfl;(with_reducible repeat (first|refine dG ?_ _|refine dX ?_|refine dh ?_ _));exact tY.out) hb);have Bw:=Aside0.mk (dK iG hb);clear oL;clear tY;clear HB;have oL:=kM;have tY:=ny;have HB:=Bw;clear kM ny Bw;(try clear hb);(try clear hb2);(try clear hk);(try clear hi)));go_roundg k1
      case measure=>have:=JJ.out;omega
      case rel=>exact⟨(wrap64 (qg+t146)),(wrap64 (ko+1)),mU,mU,H',⟨vY⟩,⟨f_⟩,⟨iG⟩⟩
     ·rw[if_neg c6]at H
      exact absurd H qo
    ·exact Y2
   ·rw[if_neg c4]at H
    have Fa:decide (ko<(dU.length:Int))=false:=decide_eq_false c4;clear c4;obtain rfl:=Option.some.inj H;go_wp2;go_ret;exact⟨oK,tX⟩
def l5.f:Option (List ByteArray):=some (([(⟨#[112,97,114,115,101]⟩:ByteArray),(⟨#[112,114,105,110,116]⟩:ByteArray),(⟨#[112,117,115,104]⟩:ByteArray),(⟨#[114,101,97,100]⟩:ByteArray),(⟨#[116,101,120,116]⟩:ByteArray)]:List ByteArray))
theorem l5.calls (r:List ByteArray)(w:World)(h:l5.f=some r):
  Calls Tryz.prog 16 #[] w fun e w'=>∃Ut:Value,e= .returned (Ut)∧Kd.R Kd.string 9 w' w.heap.size (fun _=>True) Ut r∧Below w.heap.size w w':=by
 refine Vj ?_;intro HB H;clear h;obtain⟨amt,JV⟩:∃y_:List ByteArray,y_=(([(⟨#[112,97,114,115,101]⟩:ByteArray),(⟨#[112,114,105,110,116]⟩:ByteArray),(⟨#[112,117,115,104]⟩:ByteArray),(⟨#[114,101,97,100]⟩:ByteArray),(⟨#[116,101,120,116]⟩:ByteArray)]:List ByteArray)):=⟨_,rfl⟩
 replace H:(some amt)=some r:=by first|(rw[JV];with_reducible exact H)|(have tV:=(Option.bind_some _ _).symm.trans H;rw[JV];with_reducible exact tV)|(have tV:=(Option.bind_some _ _).symm.trans H;with_reducible exact tV)|with_reducible exact H|(rw[JV];exact H)|exact H
 have ac8:=Aside0.mk JV;clear JV;obtain rfl:=Option.some.inj H;go_enter Tryz.func16,Tryz.ntmps16;go_wp2_with (first|((with_reducible refine iY (N:=1) rfl ?_);refine Kd.zI Kd.string _ 9 ?hg (N:=1) ?hd (xs:=([(⟨#[112,97,114,115,101]⟩:ByteArray),(⟨#[112,114,105,110,116]⟩:ByteArray),(⟨#[112,117,115,104]⟩:ByteArray),(⟨#[114,101,97,100]⟩:ByteArray),(⟨#[116,101,120,116]⟩:ByteArray)]:List ByteArray)) (inner:=[.string (⟨#[112,97,114,115,101]⟩:ByteArray),.string (⟨#[112,114,105,110,116]⟩:ByteArray),.string (⟨#[112,117,115,104]⟩:ByteArray),.string (⟨#[114,101,97,100]⟩:ByteArray),.string (⟨#[116,101,120,116]⟩:ByteArray)]) (ok:=fun _=>True) (okp:=fun _=>True) ?hr ?hp (fun _ hk=>hk) trivial (Below.refl _ _) (Nat.le_refl _) qo ?_;(case hd=>rfl);(case hg=>rfl);(case hr=>first|(go_simp;done)|(go_simp;rfl));(case hp=>exact(bH.one (show Kd.M Kd.string _ _ _ (⟨#[112,97,114,115,101]⟩:ByteArray) [.string (⟨#[112,97,114,115,101]⟩:ByteArray)]from rfl) (bH.one (show Kd.M Kd.string _ _ _ (⟨#[112,114,105,110,116]⟩:ByteArray) [.string (⟨#[112,114,105,110,116]⟩:ByteArray)]from rfl) (bH.one (show Kd.M Kd.string _ _ _ (⟨#[112,117,115,104]⟩:ByteArray) [.string (⟨#[112,117,115,104]⟩:ByteArray)]from rfl) (bH.one (show Kd.M Kd.string _ _ _ (⟨#[114,101,97,100]⟩:ByteArray) [.string (⟨#[114,101,97,100]⟩:ByteArray)]from rfl) (bH.one (show Kd.M Kd.string _ _ _ (⟨#[116,101,120,116]⟩:ByteArray) [.string (⟨#[116,101,120,116]⟩:ByteArray)]from rfl) (bH.none _ _)))))));intro v148 w1 ho2 hb Ro qD;clear Ro qD;(first|rw[←ac8.out]at ho2|(simp only[Int.reduceToNat]at ho2;rw[←ac8.out]at ho2));have kM:=Aside0.mk (Kd.jK ho2 (dF ah));have ny:=Aside0.mk (dK ah hb);clear HB;have aii:=kM;have HB:=ny;clear kM ny;clear hb ho2));go_ret;exact⟨_,oK,by(with_reducible repeat (first|apply Kd.iU|apply Kd.jq|apply Kd.kY));exact aii.out,ah⟩
end Go.Proofs.YtldgmneijipbjaaGreatDoor.PScopeOwn
