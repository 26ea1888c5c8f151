import Derived.Test.YtldgmneijipbjaaGreatDoorBS1
import Derived.Laws.EntriesVeiled
import Derived.Test.YtldgmneijipbjaaGreatDoorBF0
import Derived.Test.YtldgmneijipbjaaGreatDoorBMac
set_option linter.unusedVariables false
set_option linter.unusedSimpArgs false
set_option maxRecDepth 100000
set_option maxHeartbeats 16000000
section
namespace Go.Proofs.YtldgmneijipbjaaGreatDoor.H
open Go.RowKit Go.Proofs.YtldgmneijipbjaaGreatDoorW.PrintWords Go.Proofs.YtldgmneijipbjaaGreatDoorW.PrintLast Go.Proofs.YtldgmneijipbjaaGreatDoorW.PrintMore
open PScopeOwn
abbrev nv (k:Int)(s:ByteArray)(n:Int)(A:Option Addr)(len c:Nat):Value:= .agg #[.int .i64 k,.string s,.int .i64 n,.slice A len c]
abbrev Tc (w:World)(f:Nat)(a:Array Value)(b:Bool):Prop:=∀W,Below w.heap.size w W→Calls Tryz.prog f a W (aH W b)
abbrev fw (f:Nat):Value:= .func (.func f) #[] #[]
abbrev Tq (w:World)(x:Value)(fs:List Nat)(b:Bool):Prop:=∀W,Below w.heap.size w W→Calls Tryz.prog 55 #[x,.slice (some ⟨W.heap.size,0,none⟩) fs.length fs.length] (W.alloc (.cells (fs.map fw).toArray 39)) (aH W b)
theorem bx (k:Int)(s:ByteArray)(n:Int)(A:Option Addr)(len c:Nat)(w:World):Aside0 (∀W,Below (w.alloc (.cells #[.int .i64 k,.string s,.int .i64 n,.slice A len c] 24)).heap.size (w.alloc (.cells #[.int .i64 k,.string s,.int .i64 n,.slice A len c] 24)) W→W.cell? ⟨w.heap.size,0,none⟩=some (.int .i64 k)∧W.cell? ⟨w.heap.size,1,none⟩=some (.string s)∧W.cell? ⟨w.heap.size,2,none⟩=some (.int .i64 n)∧W.cell? ⟨w.heap.size,3,none⟩=some (.slice A len c)∧Below w.heap.size w W)∧Aside0 (Below w.heap.size w (w.alloc (.cells #[.int .i64 k,.string s,.int .i64 n,.slice A len c] 24)))∧Aside0 (Below (w.alloc (.cells #[.int .i64 k,.string s,.int .i64 n,.slice A len c] 24)).heap.size (w.alloc (.cells #[.int .i64 k,.string s,.int .i64 n,.slice A len c] 24)) (w.alloc (.cells #[.int .i64 k,.string s,.int .i64 n,.slice A len c] 24))):=⟨hide fun W h=>ji h,hide (au (Below.refl _ _) _),hide (Below.refl _ _)⟩
theorem Di {G:Prop}(h:G:=by
 try have Hb:=hide hb
 try clear hb
 try have Hp:=hide hp
 try clear hp
 try have Hq:=hide hq
 try clear hq
 try have Hr:=hide hr
 try clear hr
 try have Hu:=hide hu
 try clear hu
 go_wp2_with (first|(go_at_call 107;refine(Hb.out _ HB.out).mono ?_;rintro e w1 ⟨rfl,h1⟩;have HD:=hide (HD.out.trans (h1.mono HD.out.size));obtain⟨c0,c1,c2,c3,hb⟩:=HX.out _ HD.out;have HB:=hide hb;clear h1 hb)|(go_at_call 71;refine(Hb.out _ HB.out).mono ?_;rintro e w1 ⟨rfl,h1⟩;have HD:=hide (HD.out.trans (h1.mono HD.out.size));obtain⟨c0,c1,c2,c3,hb⟩:=HX.out _ HD.out;have HB:=hide hb;clear h1 hb)|(go_at_call 54;refine(Hb.out _ HB.out).mono ?_;rintro e w1 ⟨rfl,h1⟩;have HD:=hide (HD.out.trans (h1.mono HD.out.size));obtain⟨c0,c1,c2,c3,hb⟩:=HX.out _ HD.out;have HB:=hide hb;clear h1 hb)|(go_at_call 66;refine(Hb.out _ HB.out).mono ?_;rintro e w1 ⟨rfl,h1⟩;have HD:=hide (HD.out.trans (h1.mono HD.out.size));obtain⟨c0,c1,c2,c3,hb⟩:=HX.out _ HD.out;have HB:=hide hb;clear h1 hb)|(go_at_call 35;refine(Hp.out _ HB.out).mono ?_;rintro e w1 ⟨rfl,h1⟩;have HD:=hide (HD.out.trans (h1.mono HD.out.size));obtain⟨c0,c1,c2,c3,hb⟩:=HX.out _ HD.out;have HB:=hide hb;clear h1 hb)|(go_at_call 32;refine(Hp.out _ HB.out).mono ?_;rintro e w1 ⟨rfl,h1⟩;have HD:=hide (HD.out.trans (h1.mono HD.out.size));obtain⟨c0,c1,c2,c3,hb⟩:=HX.out _ HD.out;have HB:=hide hb;clear h1 hb)|(go_at_call 27;refine(Hp.out _ HB.out).mono ?_;rintro e w1 ⟨rfl,h1⟩;have HD:=hide (HD.out.trans (h1.mono HD.out.size));obtain⟨c0,c1,c2,c3,hb⟩:=HX.out _ HD.out;have HB:=hide hb;clear h1 hb)|(go_at_call 108;refine(Hp.out _ HB.out).mono ?_;rintro e w1 ⟨rfl,h1⟩;have HD:=hide (HD.out.trans (h1.mono HD.out.size));obtain⟨c0,c1,c2,c3,hb⟩:=HX.out _ HD.out;have HB:=hide hb;clear h1 hb)|(go_at_call 28;refine(Hq.out _ HB.out).mono ?_;rintro e w1 ⟨rfl,h1⟩;have HD:=hide (HD.out.trans (h1.mono HD.out.size));obtain⟨c0,c1,c2,c3,hb⟩:=HX.out _ HD.out;have HB:=hide hb;clear h1 hb)|(go_at_call 63;refine(Hq.out _ HB.out).mono ?_;rintro e w1 ⟨rfl,h1⟩;have HD:=hide (HD.out.trans (h1.mono HD.out.size));obtain⟨c0,c1,c2,c3,hb⟩:=HX.out _ HD.out;have HB:=hide hb;clear h1 hb)|(go_at_call 33;refine(Hq.out _ HB.out).mono ?_;rintro e w1 ⟨rfl,h1⟩;have HD:=hide (HD.out.trans (h1.mono HD.out.size));obtain⟨c0,c1,c2,c3,hb⟩:=HX.out _ HD.out;have HB:=hide hb;clear h1 hb)|(go_at_call 59;refine(Hq.out _ HB.out).mono ?_;rintro e w1 ⟨rfl,h1⟩;have HD:=hide (HD.out.trans (h1.mono HD.out.size));obtain⟨c0,c1,c2,c3,hb⟩:=HX.out _ HD.out;have HB:=hide hb;clear h1 hb)|(go_at_call 56;refine(Hq.out _ HB.out).mono ?_;rintro e w1 ⟨rfl,h1⟩;have HD:=hide (HD.out.trans (h1.mono HD.out.size));obtain⟨c0,c1,c2,c3,hb⟩:=HX.out _ HD.out;have HB:=hide hb;clear h1 hb)|(go_at_call 35;refine(Hq.out _ HB.out).mono ?_;rintro e w1 ⟨rfl,h1⟩;have HD:=hide (HD.out.trans (h1.mono HD.out.size));obtain⟨c0,c1,c2,c3,hb⟩:=HX.out _ HD.out;have HB:=hide hb;clear h1 hb)|(go_at_call 29;refine(Hq.out _ HB.out).mono ?_;rintro e w1 ⟨rfl,h1⟩;have HD:=hide (HD.out.trans (h1.mono HD.out.size));obtain⟨c0,c1,c2,c3,hb⟩:=HX.out _ HD.out;have HB:=hide hb;clear h1 hb)|(go_at_call 32;refine(Hq.out _ HB.out).mono ?_;rintro e w1 ⟨rfl,h1⟩;have HD:=hide (HD.out.trans (h1.mono HD.out.size));obtain⟨c0,c1,c2,c3,hb⟩:=HX.out _ HD.out;have HB:=hide hb;clear h1 hb)|(go_at_call 36;refine(Hq.out _ HB.out).mono ?_;rintro e w1 ⟨rfl,h1⟩;have HD:=hide (HD.out.trans (h1.mono HD.out.size));obtain⟨c0,c1,c2,c3,hb⟩:=HX.out _ HD.out;have HB:=hide hb;clear h1 hb)|(go_at_call 73;refine(Hq.out _ HB.out).mono ?_;rintro e w1 ⟨rfl,h1⟩;have HD:=hide (HD.out.trans (h1.mono HD.out.size));obtain⟨c0,c1,c2,c3,hb⟩:=HX.out _ HD.out;have HB:=hide hb;clear h1 hb)|(go_at_call 55;refine(Hq.out _ HB.out).mono ?_;rintro e w1 ⟨rfl,h1⟩;have HD:=hide (HD.out.trans (h1.mono HD.out.size));obtain⟨c0,c1,c2,c3,hb⟩:=HX.out _ HD.out;have HB:=hide hb;clear h1 hb)|(go_at_call 34;refine(Hr.out _ HB.out).mono ?_;rintro e w1 ⟨rfl,h1⟩;have HD:=hide (HD.out.trans (h1.mono HD.out.size));obtain⟨c0,c1,c2,c3,hb⟩:=HX.out _ HD.out;have HB:=hide hb;clear h1 hb)|(go_at_call 67;refine(Hu.out _ HB.out).mono ?_;rintro e w1 ⟨rfl,h1⟩;have HD:=hide (HD.out.trans (h1.mono HD.out.size));obtain⟨c0,c1,c2,c3,hb⟩:=HX.out _ HD.out;have HB:=hide hb;clear h1 hb))
 all_goals
  go_ret;refine⟨aI ?_,HB.out⟩
  first|(simp[*];done)|(simp_all [unB,MO];done)):G:=h
section
variable (k:Int) (s:ByteArray) (n:Int) (A:Option Addr) (len c:Nat) (w:World)
theorem we8 (p q:Bool)(hp:Tc w 27 #[nv 8 s n A len c,.bool false,.bool false] p)(hq:Tc w 28 #[.slice A len c,.func (.func 35) #[] #[]] q):Calls Tryz.prog 35 #[nv 8 s n A len c] w (aH w (p&&q)):=by
 obtain⟨HX,HB,HD⟩:=bx 8 s n A len c w;exact sG
theorem we9 (p q:Bool)(hp:Tc w 27 #[nv 9 s n A len c,.bool false,.bool false] p)(hq:Tc w 28 #[.slice A len c,.func (.func 70) #[] #[]] q):Calls Tryz.prog 35 #[nv 9 s n A len c] w (aH w (p&&q)):=by
 obtain⟨HX,HB,HD⟩:=bx 9 s n A len c w;exact sG
theorem amA (p q:Bool)(hp:Tc w 27 #[nv 11 s n A len c,.bool false,.bool false] p)(hq:Tq w (nv 11 s n A len c) [62,61,63] q):Calls Tryz.prog 35 #[nv 11 s n A len c] w (aH w (p&&q)):=by
 obtain⟨HX,HB,HD⟩:=bx 11 s n A len c w;exact sG
theorem amB (p q:Bool)(z:Bool)(hz:(n==0)=z)(hp:Tc w 27 #[nv 15 s n A len c,.bool false,.bool false] p)(hq:Tq w (nv 15 s n A len c) [35] q):Calls Tryz.prog 35 #[nv 15 s n A len c] w (aH w ((z&&unB s)&&q)):=by
 obtain⟨HX,HB,HD⟩:=bx 15 s n A len c w;exact sG
theorem amC (p b q:Bool)(z:Bool)(hz:(n==0)=z)(hp:Tc w 27 #[nv 16 s n A len c,.bool false,.bool false] p)(hb:Tc w 71 #[.string s] b)(hq:Tq w (nv 16 s n A len c) [35,35] q):Calls Tryz.prog 35 #[nv 16 s n A len c] w (aH w ((z&&b)&&q)):=by
 obtain⟨HX,HB,HD⟩:=bx 16 s n A len c w;exact sG
theorem amD (p q:Bool)(hp:Tc w 27 #[nv 17 s n A len c,.bool false,.bool false] p)(hq:Tq w (nv 17 s n A len c) [35,35,35] q):Calls Tryz.prog 35 #[nv 17 s n A len c] w (aH w (p&&q)):=by
 obtain⟨HX,HB,HD⟩:=bx 17 s n A len c w;exact sG
theorem amE (p q:Bool)(hp:Tc w 27 #[nv 18 s n A len c,.bool false,.bool false] p)(hq:Tq w (nv 18 s n A len c) [72,35] q):Calls Tryz.prog 35 #[nv 18 s n A len c] w (aH w (p&&q)):=by
 obtain⟨HX,HB,HD⟩:=bx 18 s n A len c w;exact sG
theorem amF (p q:Bool)(z:Bool)(hz:decide (0<len)=z)(hp:Tc w 27 #[nv 19 s n A len c,.bool false,.bool false] p)(hq:Tc w 28 #[.slice A len c,.func (.func 35) #[] #[]] q):Calls Tryz.prog 35 #[nv 19 s n A len c] w (aH w ((p&&z)&&q)):=by
 obtain⟨HX,HB,HD⟩:=bx 19 s n A len c w;exact sG
theorem amG (p b q:Bool)(z:Bool)(hz:(n==0)=z)(hp:Tc w 27 #[nv 20 s n A len c,.bool false,.bool false] p)(hb:Tc w 54 #[.string s] b)(hq:Tc w 28 #[.slice A len c,.func (.func 35) #[] #[]] q):Calls Tryz.prog 35 #[nv 20 s n A len c] w (aH w ((z&&b)&&q)):=by
 obtain⟨HX,HB,HD⟩:=bx 20 s n A len c w;exact sG
theorem amH (p b q:Bool)(z:Bool)(hz:(n==0)=z)(hp:Tc w 27 #[nv 21 s n A len c,.bool false,.bool false] p)(hb:Tc w 66 #[.string s] b)(hq:Tq w (nv 21 s n A len c) [35] q):Calls Tryz.prog 35 #[nv 21 s n A len c] w (aH w ((z&&b)&&q)):=by
 obtain⟨HX,HB,HD⟩:=bx 21 s n A len c w;exact sG
theorem amI (p q:Bool)(hp:Tc w 27 #[nv 22 s n A len c,.bool false,.bool false] p)(hq:Tq w (nv 22 s n A len c) [35,35] q):Calls Tryz.prog 35 #[nv 22 s n A len c] w (aH w (p&&q)):=by
 obtain⟨HX,HB,HD⟩:=bx 22 s n A len c w;exact sG
theorem wed (p q:Bool)(y:Bool)(hy:((len:Int)==0)=y)(n8:(k==8)=false)(n9:(k==9)=false)(n11:(k==11)=false)(n15:(k==15)=false)(n16:(k==16)=false)(n17:(k==17)=false)(n18:(k==18)=false)(n19:(k==19)=false)(n20:(k==20)=false)(n21:(k==21)=false)(n22:(k==22)=false)(hp:Tc w 27 #[nv k s n A len c,.bool false,.bool false] p)(hq:Tc w 73 #[nv k s n A len c] q):Calls Tryz.prog 35 #[nv k s n A len c] w (aH w (y&&q)):=by
 refine V6 ?_;intro HX HB HD;exact sG
theorem amJ (p b:Bool)(z:Bool)(hz:(n==0)=z)(y:Bool)(hy:((len:Int)==0)=y)(hp:Tc w 27 #[nv 30 s n A len c,.bool false,.bool false] p)(hb:Tc w 54 #[.string s] b):Calls Tryz.prog 36 #[nv 30 s n A len c] w (aH w ((z&&y)&&(b||MO s))):=by
 obtain⟨HX,HB,HD⟩:=bx 30 s n A len c w;exact J3
theorem amK (p q:Bool)(hp:Tc w 27 #[nv 31 s n A len c,.bool false,.bool false] p)(hq:Tq w (nv 31 s n A len c) [36] q):Calls Tryz.prog 36 #[nv 31 s n A len c] w (aH w (p&&q)):=by
 obtain⟨HX,HB,HD⟩:=bx 31 s n A len c w;exact J3
theorem amL (p q:Bool)(z:Bool)(hz:decide ((2:Int)≤(len:Int))=z)(hp:Tc w 27 #[nv 32 s n A len c,.bool false,.bool false] p)(hq:Tc w 28 #[.slice A len c,.func (.func 74) #[] #[]] q):Calls Tryz.prog 36 #[nv 32 s n A len c] w (aH w ((p&&z)&&q)):=by
 obtain⟨HX,HB,HD⟩:=bx 32 s n A len c w;exact J3
theorem amM (p u q:Bool)(hp:Tc w 27 #[nv 33 s n A len c,.bool false,.bool false] p)(hu:Tc w 67 #[.slice A len c] u)(hq:Tc w 28 #[.slice A len c,.func (.func 75) #[] #[]] q):Calls Tryz.prog 36 #[nv 33 s n A len c] w (aH w ((p&&u)&&q)):=by
 obtain⟨HX,HB,HD⟩:=bx 33 s n A len c w;exact J3
theorem wtd (p:Bool)(n30:(k==30)=false)(n31:(k==31)=false)(n32:(k==32)=false)(n33:(k==33)=false)(n35:(k==35)=false)(hp:Tc w 27 #[nv k s n A len c,.bool false,.bool false] p):Calls Tryz.prog 36 #[nv k s n A len c] w (aH w (false)):=by
 refine V6 ?_;intro HX HB HD;exact J3
theorem amN (p b q:Bool)(z:Bool)(hz:(n==0)=z)(y:Bool)(hy:(n==1)=y)(hp:Tc w 27 #[nv 40 s n A len c,.bool false,.bool false] p)(hb:Tc w 54 #[.string s] b)(hq:Tq w (nv 40 s n A len c) [61,35] q):Calls Tryz.prog 32 #[nv 40 s n A len c] w (aH w ((b&&(z||y))&&q)):=by
 obtain⟨HX,HB,HD⟩:=bx 40 s n A len c w;exact xq
theorem amO (p b q:Bool)(z:Bool)(hz:(n==0)=z)(hp:Tc w 27 #[nv 41 s n A len c,.bool false,.bool false] p)(hb:Tc w 54 #[.string s] b)(hq:Tq w (nv 41 s n A len c) [62,61,63] q):Calls Tryz.prog 32 #[nv 41 s n A len c] w (aH w ((b&&z)&&q)):=by
 obtain⟨HX,HB,HD⟩:=bx 41 s n A len c w;exact xq
theorem amP (p q:Bool)(hp:Tc w 27 #[nv 47 s n A len c,.bool false,.bool false] p)(hq:Tq w (nv 47 s n A len c) [35] q):Calls Tryz.prog 32 #[nv 47 s n A len c] w (aH w (p&&q)):=by
 obtain⟨HX,HB,HD⟩:=bx 47 s n A len c w;exact xq
theorem amQ (p q:Bool)(hp:Tc w 27 #[nv 51 s n A len c,.bool false,.bool false] p)(hq:Tq w (nv 51 s n A len c) [35] q):Calls Tryz.prog 32 #[nv 51 s n A len c] w (aH w (p&&q)):=by
 obtain⟨HX,HB,HD⟩:=bx 51 s n A len c w;exact xq
theorem amR (p q:Bool)(hp:Tc w 27 #[nv 48 s n A len c,.bool false,.bool false] p)(hq:Tq w (nv 48 s n A len c) [35,63,64] q):Calls Tryz.prog 32 #[nv 48 s n A len c] w (aH w (p&&q)):=by
 obtain⟨HX,HB,HD⟩:=bx 48 s n A len c w;exact xq
theorem amS (p q:Bool)(hp:Tc w 27 #[nv 49 s n A len c,.bool false,.bool false] p)(hq:Tq w (nv 49 s n A len c) [35,63] q):Calls Tryz.prog 32 #[nv 49 s n A len c] w (aH w (p&&q)):=by
 obtain⟨HX,HB,HD⟩:=bx 49 s n A len c w;exact xq
theorem amT (p q:Bool)(hp:Tc w 27 #[nv 50 s n A len c,.bool false,.bool false] p)(hq:Tq w (nv 50 s n A len c) [65] q):Calls Tryz.prog 32 #[nv 50 s n A len c] w (aH w (p&&q)):=by
 obtain⟨HX,HB,HD⟩:=bx 50 s n A len c w;exact xq
theorem amU (p q:Bool)(hp:Tc w 27 #[nv 52 s n A len c,.bool false,.bool false] p)(hq:Tc w 28 #[.slice A len c,.func (.func 32) #[] #[]] q):Calls Tryz.prog 32 #[nv 52 s n A len c] w (aH w (p&&q)):=by
 obtain⟨HX,HB,HD⟩:=bx 52 s n A len c w;exact xq
theorem wsd (p:Bool)(n40:(k==40)=false)(n41:(k==41)=false)(n47:(k==47)=false)(n48:(k==48)=false)(n49:(k==49)=false)(n50:(k==50)=false)(n51:(k==51)=false)(n52:(k==52)=false)(hp:Tc w 27 #[nv k s n A len c,.bool false,.bool false] p):Calls Tryz.prog 32 #[nv k s n A len c] w (aH w (false)):=by
 refine V6 ?_;intro HX HB HD;exact xq
theorem wto (p q:Bool)(hp:Tc w 108 #[nv k s n A len c] p)(hq:Tc w 36 #[nv k s n A len c] q):Calls Tryz.prog 61 #[nv k s n A len c] w (aH w (p||q)):=by
 refine V6 ?_;intro HX HB HD;go_enter Tryz.func61,Tryz.ntmps61;exact Di
theorem weo (p q:Bool)(hp:Tc w 108 #[nv k s n A len c] p)(hq:Tc w 35 #[nv k s n A len c] q):Calls Tryz.prog 65 #[nv k s n A len c] w (aH w (p||q)):=by
 refine V6 ?_;intro HX HB HD;go_enter Tryz.func65,Tryz.ntmps65;exact Di
theorem wbo (p q:Bool)(hp:Tc w 108 #[nv k s n A len c] p)(hq:Tc w 63 #[nv k s n A len c] q):Calls Tryz.prog 64 #[nv k s n A len c] w (aH w (p||q)):=by
 refine V6 ?_;intro HX HB HD;go_enter Tryz.func64,Tryz.ntmps64;exact Di
theorem wb (q:Bool)(z0:Bool)(hz0:(k==52)=z0)(hq:Tc w 32 #[nv k s n A len c] q):Calls Tryz.prog 63 #[nv k s n A len c] w (aH w (z0&&q)):=by
 refine V6 ?_;intro HX HB HD;go_enter Tryz.func63,Tryz.ntmps63;exact Di
theorem wnm (q:Bool)(z0:Bool)(hz0:(k==6)=z0)(hq:Tc w 35 #[nv k s n A len c] q):Calls Tryz.prog 69 #[nv k s n A len c] w (aH w (z0&&q)):=by
 refine V6 ?_;intro HX HB HD;go_enter Tryz.func69,Tryz.ntmps69;exact Di
theorem wtg (q:Bool)(z0:Bool)(hz0:(k==6)=z0)(z1:Bool)(hz1:(k==21)=z1)(z2:Bool)(hz2:(k==22)=z2)(hq:Tc w 35 #[nv k s n A len c] q):Calls Tryz.prog 72 #[nv k s n A len c] w (aH w ((z0||(z1||z2))&&q)):=by
 refine V6 ?_;intro HX HB HD;go_enter Tryz.func72,Tryz.ntmps72;exact Di
theorem aij (p:Bool)(z0:Bool)(hz0:(k==14)=z0)(y:Bool)(hy:((len:Int)==0)=y)(hp:Tc w 27 #[nv k s n A len c,.bool false,.bool false] p):Calls Tryz.prog 108 #[nv k s n A len c] w (aH w (z0&&(p&&y))):=by
 refine V6 ?_;intro HX HB HD;go_enter Tryz.func108,Tryz.ntmps108;exact Di
theorem wpr (b q:Bool)(z0:Bool)(hz0:(k==10)=z0)(z:Bool)(hz:(n==0)=z)(hb:Tc w 66 #[.string s] b)(hq:Tq w (nv k s n A len c) [35] q):Calls Tryz.prog 70 #[nv k s n A len c] w (aH w (z0&&(b&&(z&&q)))):=by
 refine V6 ?_;intro HX HB HD;go_enter Tryz.func70,Tryz.ntmps70;exact Di
theorem amV (b q:Bool)(z0:Bool)(hz0:(k==34)=z0)(z:Bool)(hz:(n==0)=z)(hb:Tc w 66 #[.string s] b)(hq:Tq w (nv k s n A len c) [36] q):Calls Tryz.prog 75 #[nv k s n A len c] w (aH w (z0&&(b&&(z&&q)))):=by
 refine V6 ?_;intro HX HB HD;go_enter Tryz.func75,Tryz.ntmps75;exact Di
theorem wtu (q:Bool)(z0:Bool)(hz0:(k != 32)=z0)(hq:Tc w 36 #[nv k s n A len c] q):Calls Tryz.prog 74 #[nv k s n A len c] w (aH w (z0&&q)):=by
 refine V6 ?_;intro HX HB HD;go_enter Tryz.func74,Tryz.ntmps74;exact Di
theorem amW (b q:Bool)(z0:Bool)(hz0:(k==67)=z0)(z:Bool)(hz:(n==0)=z)(hb:Tc w 66 #[.string s] b)(hq:Tq w (nv k s n A len c) [69] q):Calls Tryz.prog 68 #[nv k s n A len c] w (aH w (z0&&(b&&(z&&q)))):=by
 refine V6 ?_;intro HX HB HD;go_enter Tryz.func68,Tryz.ntmps68;exact Di
theorem wsp (b q:Bool)(z0:Bool)(hz0:(k==66)=z0)(z:Bool)(hz:(n==0)=z)(hb:Tc w 54 #[.string s] b)(hq:Tc w 28 #[.slice A len c,.func (.func 68) #[] #[]] q):Calls Tryz.prog 34 #[nv k s n A len c] w (aH w (z0&&(b&&(z&&q)))):=by
 refine V6 ?_;intro HX HB HD;go_enter Tryz.func34,Tryz.ntmps34;exact Di
theorem wfo (p q r:Bool)(hp:Tc w 32 #[nv k s n A len c] p)(hq:Tc w 33 #[nv k s n A len c] q)(hr:Tc w 34 #[nv k s n A len c] r):Calls Tryz.prog 31 #[nv k s n A len c] w (aH w (p||(q||r))):=by
 refine V6 ?_;intro HX HB HD;go_enter Tryz.func31,Tryz.ntmps31;exact Di
theorem amX (p q:Bool)(hp:Tc w 27 #[nv 42 s n A len c,.bool false,.bool false] p)(hq:Tc w 33 #[nv 42 s n A len c] q):Calls Tryz.prog 29 #[nv 42 s n A len c] w (aH w (q)):=by
 obtain⟨HX,HB,HD⟩:=bx 42 s n A len c w;exact BI
theorem amY (p b q:Bool)(z:Bool)(hz:(n==0)=z)(hp:Tc w 27 #[nv 46 s n A len c,.bool false,.bool false] p)(hb:Tc w 54 #[.string s] b)(hq:Tq w (nv 46 s n A len c) [36] q):Calls Tryz.prog 29 #[nv 46 s n A len c] w (aH w ((b&&z)&&q)):=by
 obtain⟨HX,HB,HD⟩:=bx 46 s n A len c w;exact BI
theorem amZ (p q:Bool)(hp:Tc w 27 #[nv 60 s n A len c,.bool false,.bool false] p)(hq:Tc w 56 #[nv 60 s n A len c] q):Calls Tryz.prog 29 #[nv 60 s n A len c] w (aH w (q)):=by
 obtain⟨HX,HB,HD⟩:=bx 60 s n A len c w;exact BI
theorem am0 (p q:Bool)(hp:Tc w 27 #[nv 62 s n A len c,.bool false,.bool false] p)(hq:Tq w (nv 62 s n A len c) [57] q):Calls Tryz.prog 29 #[nv 62 s n A len c] w (aH w (p&&q)):=by
 obtain⟨HX,HB,HD⟩:=bx 62 s n A len c w;exact BI
theorem am1 (p q:Bool)(hp:Tc w 27 #[nv 63 s n A len c,.bool false,.bool false] p)(hq:Tq w (nv 63 s n A len c) [58] q):Calls Tryz.prog 29 #[nv 63 s n A len c] w (aH w (p&&q)):=by
 obtain⟨HX,HB,HD⟩:=bx 63 s n A len c w;exact BI
theorem am2 (p q:Bool)(hp:Tc w 27 #[nv 64 s n A len c,.bool false,.bool false] p)(hq:Tc w 59 #[nv 64 s n A len c] q):Calls Tryz.prog 29 #[nv 64 s n A len c] w (aH w (q)):=by
 obtain⟨HX,HB,HD⟩:=bx 64 s n A len c w;exact BI
theorem wid (p q:Bool)(n42:(k==42)=false)(n46:(k==46)=false)(n60:(k==60)=false)(n62:(k==62)=false)(n63:(k==63)=false)(n64:(k==64)=false)(hp:Tc w 27 #[nv k s n A len c,.bool false,.bool false] p)(hq:Tc w 32 #[nv k s n A len c] q):Calls Tryz.prog 29 #[nv k s n A len c] w (aH w (q)):=by
 refine V6 ?_;intro HX HB HD;exact BI
theorem wix (q:Bool)(z0:Bool)(hz0:(k==40)=z0)(z1:Bool)(hz1:(k==41)=z1)(z2:Bool)(hz2:(k==42)=z2)(z3:Bool)(hz3:(k==46)=z3)(hq:Tc w 29 #[nv k s n A len c] q):Calls Tryz.prog 57 #[nv k s n A len c] w (aH w ((z0||(z1||(z2||z3)))&&q)):=by
 refine V6 ?_;intro HX HB HD;go_enter Tryz.func57,Tryz.ntmps57;exact Di
theorem wiy (p q:Bool)(z0:Bool)(hz0:(k==41)=z0)(z1:Bool)(hz1:(k==42)=z1)(hp:Tc w 35 #[nv k s n A len c] p)(hq:Tc w 29 #[nv k s n A len c] q):Calls Tryz.prog 58 #[nv k s n A len c] w (aH w (p||((z0||z1)&&q))):=by
 refine V6 ?_;intro HX HB HD;go_enter Tryz.func58,Tryz.ntmps58;exact Di
theorem am3 (n40:(k==40)=false)(n41:(k==41)=false)(n42:(k==42)=false)(n46:(k==46)=false):Calls Tryz.prog 57 #[nv k s n A len c] w (aH w (false)):=by
 refine V6 ?_;intro HX HB HD;go_enter Tryz.func57,Tryz.ntmps57;exact Di
theorem am4 (p:Bool)(n41:(k==41)=false)(n42:(k==42)=false)(hp:Tc w 35 #[nv k s n A len c] p):Calls Tryz.prog 58 #[nv k s n A len c] w (aH w (p)):=by
 refine V6 ?_;intro HX HB HD;go_enter Tryz.func58,Tryz.ntmps58;exact Di
theorem wl2 (b:Bool)(z:Bool)(hz:(n==0)=z)(hb:Tc w 107 #[.string s] b):Calls Tryz.prog 73 #[nv 2 s n A len c] w (aH w (z&&b)):=by
 obtain⟨HX,HB,HD⟩:=bx 2 s n A len c w;exact zO
theorem wl6 (b:Bool)(z:Bool)(hz:(n==0)=z)(hb:Tc w 54 #[.string s] b):Calls Tryz.prog 73 #[nv 6 s n A len c] w (aH w (z&&b)):=by
 obtain⟨HX,HB,HD⟩:=bx 6 s n A len c w;exact zO
theorem wl1 (z:Bool)(hz:decide (0≤n)=z)(y:Bool)(hy:decide (n≤9007199254740991)=y):Calls Tryz.prog 73 #[nv 1 s n A len c] w (aH w (s.toList.isEmpty&&(z&&y))):=by
 obtain⟨HX,HB,HD⟩:=bx 1 s n A len c w;exact zO
theorem wl3 (z:Bool)(hz:(n==0)=z)(y:Bool)(hy:(n==1)=y):Calls Tryz.prog 73 #[nv 3 s n A len c] w (aH w (s.toList.isEmpty&&(z||y))):=by
 obtain⟨HX,HB,HD⟩:=bx 3 s n A len c w;exact zO
theorem wld (n1:(k==1)=false)(n2:(k==2)=false)(n3:(k==3)=false)(n4:(k==4)=false)(n5:(k==5)=false)(n6:(k==6)=false)(n7:(k==7)=false):Calls Tryz.prog 73 #[nv k s n A len c] w (aH w (false)):=by
 refine V6 ?_;intro HX HB HD;exact zO
theorem wl4 (p:Bool)(hp:Tc w 27 #[nv 4 s n A len c,.bool false,.bool false] p):Calls Tryz.prog 73 #[nv 4 s n A len c] w (aH w (p)):=by
 obtain⟨HX,HB,HD⟩:=bx 4 s n A len c w;exact zO
theorem wl5 (p:Bool)(hp:Tc w 27 #[nv 5 s n A len c,.bool false,.bool false] p):Calls Tryz.prog 73 #[nv 5 s n A len c] w (aH w (p)):=by
 obtain⟨HX,HB,HD⟩:=bx 5 s n A len c w;exact zO
theorem wl7 (p:Bool)(hp:Tc w 27 #[nv 7 s n A len c,.bool false,.bool false] p):Calls Tryz.prog 73 #[nv 7 s n A len c] w (aH w (p)):=by
 obtain⟨HX,HB,HD⟩:=bx 7 s n A len c w;exact zO
end
abbrev D9 (K:Nat):Value:= .func (.func K) #[] #[]
theorem xw (K:Nat)(w:World):Calls Tryz.prog 76 #[D9 K] w fun e w'=>e= .returned (.func (.func 112) #[] #[.pointer (some ⟨w.heap.size,0,none⟩)])∧w'.cell? ⟨w.heap.size,0,none⟩=some (D9 K)∧Below w.heap.size w w':=by
 have HC:=hide (show(w.alloc (.cells #[D9 K] 39)).cell? ⟨w.heap.size,0,none⟩=some (D9 K)from(aj (aR w _) 0).trans rfl);go_enter Tryz.func76,Tryz.ntmps76;go_wp2;go_ret;exact⟨rfl,HC.out,au (Below.refl _ _) _⟩
theorem wpp (k:Int)(s:ByteArray)(n:Int)(A:Option Addr)(len c:Nat)(w:World)(a:Addr)(p u q:Bool)(z0:Bool)(hz0:(k==12)=z0)
  (hp:∀W,Below w.heap.size w W→Calls Tryz.prog 27 #[.agg #[.int .i64 k,.string s,.int .i64 n,.slice A len c],.bool false,.bool false] W (aH W p))
  (hu:∀W,Below w.heap.size w W→Calls Tryz.prog 67 #[.slice A len c] W (aH W u))
  (hq:∀W,Below w.heap.size w W→Calls Tryz.prog 28 #[.slice A len c,.func (.func 113) #[] #[.pointer (some a)]] W (aH W q)):
  Calls Tryz.prog 112 #[.agg #[.int .i64 k,.string s,.int .i64 n,.slice A len c],.pointer (some a)] w (aH w (z0&&(p&&(u&&q)))):=by
 have Hp:=hide hp;have Hu:=hide hu;have Hq:=hide hq;clear hp hu hq;refine GD ?_;intro HB0;go_enter Tryz.func112,Tryz.ntmps112;go_wp2_with (first|(go_at_call 27;refine(Hp.out _ HB0.out).mono ?_;rintro e w1 ⟨rfl,h1⟩;obtain⟨c10,c11,c12,c13,hb⟩:=ji h1;have HB1:=hide hb;clear h1 hb)|(go_at_call 67;refine(Hu.out _ HB1.out).mono ?_;rintro e w2 ⟨rfl,h2⟩;have c20:=ak h2 c10;have c21:=ak h2 c11;have tH:=ak h2 c12;have c23:=ak h2 c13;have HB2:=hide (HB1.out.trans (h2.mono HB1.out.size));clear h2)|(go_at_call 28;refine(Hq.out _ HB2.out).mono ?_;rintro e w3 ⟨rfl,h3⟩;have HB3:=hide (HB2.out.trans (h3.mono HB2.out.size));clear h3))
 all_goals
  go_ret
  first|exact⟨aI MK,HB3.out⟩|exact⟨aI MK,HB2.out⟩|exact⟨aI MK,HB1.out⟩|exact⟨aI MK,HB0.out⟩
theorem am5 (k:Int)(s:ByteArray)(n:Int)(A:Option Addr)(len c:Nat)(w:World)(a:Addr)(K:Nat)(hc:w.cell? a=some (D9 K))(b q:Bool)(z0:Bool)(hz0:(k==13)=z0)(z:Bool)(hz:(n==0)=z)
  (hb:∀W,Below w.heap.size w W→Calls Tryz.prog 54 #[.string s] W (aH W b))
  (hq:∀W,Below w.heap.size w W→Calls Tryz.prog 55 #[.agg #[.int .i64 k,.string s,.int .i64 n,.slice A len c],.slice (some ⟨W.heap.size,0,none⟩) 1 1] (W.alloc (.cells #[D9 K] 39)) (aH W q)):
  Calls Tryz.prog 113 #[.agg #[.int .i64 k,.string s,.int .i64 n,.slice A len c],.pointer (some a)] w (aH w (z0&&(b&&(z&&q)))):=by
 have Hb:=hide hb;have Hq:=hide hq;have HC:=hide hc;clear hb hq hc;refine GD ?_;intro HB0;go_enter Tryz.func113,Tryz.ntmps113;go_wp2_with (first|(go_at_call 54;refine(Hb.out _ HB0.out).mono ?_;rintro e w1 ⟨rfl,h1⟩;obtain⟨c10,c11,c12,c13,hb⟩:=ji h1;have HB1:=hide hb;have cc:=ak hb HC.out;clear h1 hb)|(go_at_call 55;refine(Hq.out _ HB1.out).mono ?_;rintro e w3 ⟨rfl,h3⟩;have HB2:=hide (HB1.out.trans (h3.mono HB1.out.size));clear h3))
 all_goals
  go_ret
  first|exact⟨aI MK,HB2.out⟩|exact⟨aI MK,HB1.out⟩|exact⟨aI MK,HB0.out⟩
end Go.Proofs.YtldgmneijipbjaaGreatDoor.H
end
section
namespace Go.Proofs.YtldgmneijipbjaaGreatDoor.H
open Go.RowKit Go.Shelf Go.Proofs.YtldgmneijipbjaaGreatDoorW.PrintWords Go.Proofs.YtldgmneijipbjaaGreatDoorW.PrintLast Go.Proofs.YtldgmneijipbjaaGreatDoorW.PrintMore
open PScopeOwn
theorem ae7 {P:Program}{ops:Array Oper}{Q:Exit→Act→World→Prop}{oi:Oper}{N:Option Tmp}{a:Act}{w:World}{K:Act→World→Prop}{f:FuncId}{fn:Func}{g:Operand}{ars:Array Operand}{ts:Array TypeId}(hf:P.funcs[f]?=some fn)(hname:(fn.name== "runtime.NumGoroutine")=false)(hb:fn.body.isSome=true)(args caps ail:Array Value)(hall:args++caps=ail)
  (hw:Region.wanted oi (yielded ops a.tmps)=true)(hN:oi.dst=N)(hop:oi.op= .call {callee:= .value g,args:=ars,argTypes:=ts})(hg:a.eval g= .func (.func f) #[] caps)(hargs:ars.map a.eval=args)
  (h:Calls P f ail w fun e w'=>∃v,e= .returned v∧K (a.put N v) w'):if Region.wanted oi (yielded ops a.tmps)=true then Oper.wp P oi a w K Q else K (a.put N undef) w:=by
 subst hall;refine call_ f (args++caps) hw hN ?_ h;have he:=EW hf hname hb (args++caps) w;unfold execOp;simp[hop,resolve,hg,hargs,Deferred.ofValue,invoke,he]
section
variable (k:Int) (s:ByteArray) (n:Int) (A:Option Addr) (len c:Nat) (w:World)
theorem fF:∀W,Below (w.heap.size+1) (w.alloc (.cells #[.int .i64 k,.string s,.int .i64 n,.slice A len c] 24)) W→W.cell? ⟨w.heap.size,0,none⟩=some (.int .i64 k)∧W.cell? ⟨w.heap.size,1,none⟩=some (.string s)∧W.cell? ⟨w.heap.size,2,none⟩=some (.int .i64 n)∧W.cell? ⟨w.heap.size,3,none⟩=some (.slice A len c):=fun W h=>by
 have m:=(h.block w.heap.size aG).trans (aR w (.cells #[.int .i64 k,.string s,.int .i64 n,.slice A len c] 24));exact⟨(aj m 0).trans rfl,(aj m 1).trans rfl,(aj m 2).trans rfl,(aj m 3).trans rfl⟩
theorem aaS (q:Bool)(hq:∀W a,Below w.heap.size w W→W.cell? a=some (D9 61)→Calls Tryz.prog 112 #[.agg #[.int .i64 k,.string s,.int .i64 n,.slice A len c],.pointer (some a)] W (aH W q)):
  Calls Tryz.prog 62 #[.agg #[.int .i64 k,.string s,.int .i64 n,.slice A len c]] w (aH w q):=by
 have HW1:=hide (au (Below.refl w.heap.size w) (.cells #[.int .i64 k,.string s,.int .i64 n,.slice A len c] 24));refine Cv ?_;intro W1 hW1;have hc:=fF k s n A len c w;rw[hW1]at HW1 hc;have hs1:W1.heap.size=w.heap.size+1:=by rw[←hW1];simp
 have HC:=hide hc;have HS1:=hide hs1;have HZ:=hide (show w.heap.size+1≤W1.heap.size from aG);have Hq:=hide (fun W a (h:Below (w.heap.size+1) W1 W)=>hq W a (HW1.out.trans (h.mono aG)));clear hq hc hs1;go_enter Tryz.func62,Tryz.ntmps62;go_wp2;clear hW1;have hb0:Below (w.heap.size+1) W1 W1.drew:=bq (Below.refl _ _);refine bX (n:=4) (S:=fun w'=>w'.cell? ⟨w.heap.size,0,none⟩=some (.int .i64 k)∧w'.cell? ⟨w.heap.size,1,none⟩=some (.string s)∧w'.cell? ⟨w.heap.size,2,none⟩=some (.int .i64 n)∧w'.cell? ⟨w.heap.size,3,none⟩=some (.slice A len c)) (ds:=[]) #[false,false,false,false] dL rfl rfl ⟨(HC.out _ hb0).1,(HC.out _ hb0).2.1,(HC.out _ hb0).2.2.1,(HC.out _ hb0).2.2.2⟩ (fun hHeld=>?_);obtain⟨wd,hwd⟩:∃wd,wd=W1.drew:=⟨_,rfl⟩;rw[←hwd]at hHeld⊢;have B0:=hide (show Below (w.heap.size+1) W1 wd from gX);clear hwd hb0;refine tv 1 4 hHeld ?_;refine iw (i:=0) (N:=some 3) #[true,true,false,false] rfl rfl dL wN (fun K hK=>?_);refine nQ Tryz.func76 dL rfl #[D9 61] Nr rfl rfl jT ?_;with_reducible refine(xw 61 _).mono ?_
 rintro e w3 ⟨rfl,hcc,hk⟩;refine⟨_,rfl,?_⟩;have B1:=hide (B0.out.trans (hk.mono (Nat.le_trans HZ.out B0.out.size)));have HCC:=hide hcc;clear hk hcc;refine hK.out _ _ ⟨(HC.out _ B1.out).1,(HC.out _ B1.out).2.1,(HC.out _ B1.out).2.2.1,(HC.out _ B1.out).2.2.2⟩ (fun hHeld=>?_);clear hK K;refine cK (a':=?_) ?_ ?_;rotate_left
 ·show Act.put _ (some 3) _=_
  exact aad
 refine iw (i:=2) (N:=some 5) #[true,true,true,false] rfl rfl dL wN (fun K hK=>?_);refine ae7 Tryz.func112 dL rfl #[.agg #[.int .i64 k,.string s,.int .i64 n,.slice A len c]] #[.pointer (some ⟨wd.heap.size,0,none⟩)] #[.agg #[.int .i64 k,.string s,.int .i64 n,.slice A len c],.pointer (some ⟨wd.heap.size,0,none⟩)] Nr Nr rfl rfl Nr jT ?_;with_reducible refine(Hq.out _ _ (B1.out) HCC.out).mono ?_
 rintro e w4 ⟨rfl,hk⟩;refine⟨_,rfl,?_⟩;have B2:=hide (B1.out.trans (hk.mono (Nat.le_trans HZ.out B1.out.size)));clear hk;refine hK.out _ _ ⟨(HC.out _ B2.out).1,(HC.out _ B2.out).2.1,(HC.out _ B2.out).2.2.1,(HC.out _ B2.out).2.2.2⟩ (fun hHeld=>?_);clear hK K;refine cK (a':=?_) ?_ ?_;rotate_left
 ·show Act.put _ (some 5) _=_
  exact aad
 refine pv 3 2 ?_;refine dP dL ?_;go_wp2;go_ret;exact⟨rfl,HW1.out.trans (B2.out.mono aG)⟩
theorem ain (hp:∀W,Below w.heap.size w W→Calls Tryz.prog 27 #[.agg #[.int .i64 35,.string s,.int .i64 n,.slice A len c],.bool false,.bool false] W (aH W false)):
  Calls Tryz.prog 36 #[.agg #[.int .i64 35,.string s,.int .i64 n,.slice A len c]] w (aH w false):=by
 have Hp:=hide hp;have HB0:=hide (au (Below.refl w.heap.size w) (.cells #[.int .i64 35,.string s,.int .i64 n,.slice A len c] 24));clear hp;go_enter Tryz.func36,Tryz.ntmps36;go_wp2_with (go_at_call 27;refine(Hp.out _ HB0.out).mono ?_;rintro e W2 ⟨rfl,h1⟩;obtain⟨c10,c11,c12,c13,hb⟩:=ji h1;have HW2:=hide hb;clear h1 hb);refine Uq ?_;intro HC hb0;clear c10 c11 c12 c13;refine bX (n:=8) (S:=fun w'=>w'.cell? ⟨w.heap.size,0,none⟩=some (.int .i64 35)∧w'.cell? ⟨w.heap.size,1,none⟩=some (.string s)∧w'.cell? ⟨w.heap.size,2,none⟩=some (.int .i64 n)∧w'.cell? ⟨w.heap.size,3,none⟩=some (.slice A len c)) (ds:=[]) #[false,false,false,false,false,false,false,false] dL rfl rfl ⟨(HC.out _ hb0).1,(HC.out _ hb0).2.1,(HC.out _ hb0).2.2.1,(HC.out _ hb0).2.2.2⟩ (fun hHeld=>?_);refine OT ?_;intro wd hwd;rw[←hwd]at hHeld⊢;refine NC ?_;intro B0;clear hwd hb0;refine pv 0 71 ?_;refine pv 1 72 ?_;refine pu 2 73 ?_;refine pu 3 74 ?_;refine pu 4 75 ?_;refine pu 5 76 ?_;refine pv 6 77 ?_;refine pv 7 2 ?_;refine dP dL ?_;go_wp2;go_ret;exact⟨rfl,HW2.out.trans (B0.out.mono HW2.out.size)⟩
theorem am6 (q:Bool)(hp:∀W,Below w.heap.size w W→Calls Tryz.prog 27 #[.agg #[.int .i64 35,.string s,.int .i64 n,.slice A len c],.bool false,.bool false] W (aH W true))
  (hq:∀W a,Below w.heap.size w W→W.cell? a=some (D9 36)→Calls Tryz.prog 55 #[.agg #[.int .i64 35,.string s,.int .i64 n,.slice A len c],.slice (some ⟨W.heap.size,0,none⟩) 2 2] (W.alloc (.cells #[.func (.func 112) #[] #[.pointer (some a)],D9 36] 39)) (aH W q)):
  Calls Tryz.prog 36 #[.agg #[.int .i64 35,.string s,.int .i64 n,.slice A len c]] w (aH w q):=by
 have Hq:=hide hq;clear hq;have Hp:=hide hp;have HB0:=hide (au (Below.refl w.heap.size w) (.cells #[.int .i64 35,.string s,.int .i64 n,.slice A len c] 24));clear hp;go_enter Tryz.func36,Tryz.ntmps36;go_wp2_with (go_at_call 27;refine(Hp.out _ HB0.out).mono ?_;rintro e W2 ⟨rfl,h1⟩;obtain⟨c10,c11,c12,c13,hb⟩:=ji h1;have HW2:=hide hb;clear h1 hb);refine Uq ?_;intro HC hb0;clear c10 c11 c12 c13;refine bX (n:=8) (S:=fun w'=>w'.cell? ⟨w.heap.size,0,none⟩=some (.int .i64 35)∧w'.cell? ⟨w.heap.size,1,none⟩=some (.string s)∧w'.cell? ⟨w.heap.size,2,none⟩=some (.int .i64 n)∧w'.cell? ⟨w.heap.size,3,none⟩=some (.slice A len c)) (ds:=[]) #[false,false,false,false,false,false,false,false] dL rfl rfl ⟨(HC.out _ hb0).1,(HC.out _ hb0).2.1,(HC.out _ hb0).2.2.1,(HC.out _ hb0).2.2.2⟩ (fun hHeld=>?_);refine OT ?_;intro wd hwd;rw[←hwd]at hHeld⊢;refine NC ?_;intro B0;clear hwd hb0;refine pv 0 71 ?_;refine pv 1 72 ?_;refine tv 2 73 hHeld ?_;refine iw (i:=3) (N:=some 74) #[true,true,true,true,false,false,false,false] rfl rfl dL wN (fun K hK=>?_);refine nQ Tryz.func76 dL rfl #[D9 36] Nr rfl rfl jT ?_;with_reducible refine(xw 36 _).mono ?_
 rintro e w3 ⟨rfl,hcc,hk⟩;refine⟨_,rfl,?_⟩;have B1:=hide (B0.out.trans (hk.mono B0.out.size));have HCC:=hide hcc;clear hk hcc;refine hK.out _ _ ⟨(HC.out _ B1.out).1,(HC.out _ B1.out).2.1,(HC.out _ B1.out).2.2.1,(HC.out _ B1.out).2.2.2⟩ (fun hHeld=>?_);clear hK K;refine cK (a':=?_) ?_ ?_;rotate_left
 ·show Act.put _ (some 74) _=_
  exact aad
 refine iw (i:=4) (N:=some 75) #[true,true,true,true,true,false,false,false] rfl rfl dL wN (fun K hK=>?_);refine gW (w1:=?_) (v:=?_) Nr rfl ?_ ?_;rotate_left 2
 ·exact Xt
 have B2:=hide (B1.out.trans ((au (Below.refl w3.heap.size w3) (.cells #[.func (.func 112) #[] #[.pointer (some ⟨wd.heap.size,0,none⟩)],D9 36] 39)).mono B1.out.size));refine hK.out _ _ ⟨(HC.out _ B2.out).1,(HC.out _ B2.out).2.1,(HC.out _ B2.out).2.2.1,(HC.out _ B2.out).2.2.2⟩ (fun hHeld=>?_);clear hK K;refine cK (a':=?_) ?_ ?_;rotate_left
 ·show Act.put _ (some 75) _=_
  exact aad
 refine iw (i:=5) (N:=some 76) #[true,true,true,true,true,true,false,false] rfl rfl dL wN (fun K hK=>?_);refine nQ Tryz.func55 dL rfl #[.agg #[.int .i64 35,.string s,.int .i64 n,.slice A len c],.slice (some ⟨w3.heap.size,0,none⟩) 2 2] Nr rfl rfl jT ?_;with_reducible refine(Hq.out w3 _ (HW2.out.trans (B1.out.mono HW2.out.size)) HCC.out).mono ?_
 rintro e w4 ⟨rfl,hk⟩;refine⟨_,rfl,?_⟩;have B3:=hide (B1.out.trans (hk.mono B1.out.size));clear hk;refine hK.out _ _ ⟨(HC.out _ B3.out).1,(HC.out _ B3.out).2.1,(HC.out _ B3.out).2.2.1,(HC.out _ B3.out).2.2.2⟩ (fun hHeld=>?_);clear hK K;refine cK (a':=?_) ?_ ?_;rotate_left
 ·show Act.put _ (some 76) _=_
  exact aad
 refine pv 6 77 ?_;refine pv 7 2 ?_;refine dP dL ?_;go_wp2;go_ret;exact⟨rfl,HW2.out.trans (B3.out.mono HW2.out.size)⟩
end
end Go.Proofs.YtldgmneijipbjaaGreatDoor.H
end
