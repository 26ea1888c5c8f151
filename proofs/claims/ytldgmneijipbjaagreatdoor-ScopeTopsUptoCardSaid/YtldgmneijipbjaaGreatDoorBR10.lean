import Derived.Test.YtldgmneijipbjaaGreatDoorBR9
import Derived.Test.YtldgmneijipbjaaGreatDoorBMac
set_option linter.unusedVariables false
set_option linter.unusedSimpArgs false
set_option maxRecDepth 100000
set_option maxHeartbeats 16000000
namespace Go.Proofs.YtldgmneijipbjaaGreatDoor.H
open Go.RowKit Go.Shelf Go.Proofs.YtldgmneijipbjaaGreatDoorW.PrintWords Go.Proofs.YtldgmneijipbjaaGreatDoorW.PrintLast Go.Proofs.YtldgmneijipbjaaGreatDoorW.PrintMore
open PScopeOwn
theorem apM (s:ByteArray)(n:Int)(A:Option Addr)(len c:Nat)(w:World)(p:Bool)
  (hp:∀W,Below w.heap.size w W→Calls Tryz.prog 46 #[.agg #[.int .i64 42,.string s,.int .i64 n,.slice A len c]] W (aH W p)):
  Calls Tryz.prog 43 #[.agg #[.int .i64 42,.string s,.int .i64 n,.slice A len c]] w (aH w (p)):=by
 have Hp:=hide hp;clear hp;have HB0:=hide (au (Below.refl w.heap.size w) (.cells #[.int .i64 42,.string s,.int .i64 n,.slice A len c] 24));go_enter Tryz.func43,Tryz.ntmps43;go_wp2_with (first|(go_at_call 46;(with_reducible refine(Hp.out _ HB0.out).mono ?_);rintro e w1 ⟨rfl,h1⟩;obtain⟨c10,c11,c12,c13,hb⟩:=ji h1;have HB1:=hide hb;clear hb;clear h1))
 all_goals
  go_ret
  first|exact⟨aI MK,HB1.out⟩|exact⟨aI MK,HB0.out⟩
theorem apN (s:ByteArray)(n:Int)(A:Option Addr)(len c:Nat)(w:World)(p:Bool)
  (hp:∀W,Below w.heap.size w W→Calls Tryz.prog 94 #[.agg #[.int .i64 60,.string s,.int .i64 n,.slice A len c]] W (aH W p)):
  Calls Tryz.prog 43 #[.agg #[.int .i64 60,.string s,.int .i64 n,.slice A len c]] w (aH w (p)):=by
 have Hp:=hide hp;clear hp;have HB0:=hide (au (Below.refl w.heap.size w) (.cells #[.int .i64 60,.string s,.int .i64 n,.slice A len c] 24));go_enter Tryz.func43,Tryz.ntmps43;go_wp2_with (first|(go_at_call 94;(with_reducible refine(Hp.out _ HB0.out).mono ?_);rintro e w1 ⟨rfl,h1⟩;obtain⟨c10,c11,c12,c13,hb⟩:=ji h1;have HB1:=hide hb;clear hb;clear h1))
 all_goals
  go_ret
  first|exact⟨aI MK,HB1.out⟩|exact⟨aI MK,HB0.out⟩
theorem apO (s:ByteArray)(n:Int)(A:Option Addr)(len c:Nat)(w:World)(p:Bool)
  (hp:∀W,Below w.heap.size w W→Calls Tryz.prog 95 #[.agg #[.int .i64 64,.string s,.int .i64 n,.slice A len c]] W (aH W p)):
  Calls Tryz.prog 43 #[.agg #[.int .i64 64,.string s,.int .i64 n,.slice A len c]] w (aH w (p)):=by
 have Hp:=hide hp;clear hp;have HB0:=hide (au (Below.refl w.heap.size w) (.cells #[.int .i64 64,.string s,.int .i64 n,.slice A len c] 24));go_enter Tryz.func43,Tryz.ntmps43;go_wp2_with (first|(go_at_call 95;(with_reducible refine(Hp.out _ HB0.out).mono ?_);rintro e w1 ⟨rfl,h1⟩;obtain⟨c10,c11,c12,c13,hb⟩:=ji h1;have HB1:=hide hb;clear hb;clear h1))
 all_goals
  go_ret
  first|exact⟨aI MK,HB1.out⟩|exact⟨aI MK,HB0.out⟩
theorem apP (s:ByteArray)(n:Int)(ad:Addr)(c:Nat)(w:World)(k0:Int)(s0:ByteArray)(n0:Int)(A0:Option Addr)(l0 c0:Nat)(p q:Bool)(z:Bool)(hz:(n==0)=z)
  (hk:∀W,Below w.heap.size w W→W.cell? ad=some (.int .i64 k0)∧W.cell? ⟨ad.block,ad.off+1,none⟩=some (.string s0)∧W.cell? ⟨ad.block,ad.off+2,none⟩=some (.int .i64 n0)∧W.cell? ⟨ad.block,ad.off+3,none⟩=some (.slice A0 l0 c0))
  (hp:∀W,Below w.heap.size w W→Calls Tryz.prog 13 #[.string s] W (aH W p))
  (hq:∀W,Below w.heap.size w W→Calls Tryz.prog 41 #[.agg #[.int .i64 k0,.string s0,.int .i64 n0,.slice A0 l0 c0]] W (aH W q)):
  Calls Tryz.prog 43 #[.agg #[.int .i64 46,.string s,.int .i64 n,.slice (some ad) 1 c]] w (aH w (p&&(z&&q))):=by
 have HK:=hide hk;clear hk;have Hp:=hide hp;have Hq:=hide hq;clear hp hq;have HB0:=hide (au (Below.refl w.heap.size w) (.cells #[.int .i64 46,.string s,.int .i64 n,.slice (some ad) 1 c] 24));obtain⟨aci,acj,acn,aco⟩:=HK.out _ HB0.out;go_enter Tryz.func43,Tryz.ntmps43;go_wp2_with (first|(go_at_call 13;(with_reducible refine(Hp.out _ HB0.out).mono ?_);rintro e w1 ⟨rfl,h1⟩;obtain⟨c10,c11,c12,c13,hb⟩:=ji h1;have HB1:=hide hb;clear hb;obtain⟨LJ,LK,LM,LP⟩:=HK.out _ HB1.out;clear h1)|(go_at_call 41;(with_reducible refine(Hq.out _ HB1.out).mono ?_);rintro e w2 ⟨rfl,h2⟩;have c20:=ak h2 c10;have c21:=ak h2 c11;have tH:=ak h2 c12;have c23:=ak h2 c13;have HB2:=hide (HB1.out.trans (h2.mono HB1.out.size));obtain⟨OZ,O1,O4,O5⟩:=HK.out _ HB2.out;clear h2))
 all_goals
  go_ret
  first|exact⟨aI MK,HB2.out⟩|exact⟨aI MK,HB1.out⟩|exact⟨aI MK,HB0.out⟩
theorem akx (s:ByteArray)(n:Int)(A:Option Addr)(len c:Nat)(w:World)(p:Bool)(z:Bool)(hz:(n==0)=z)(hy:((len:Int)==1)=false)
  (hp:∀W,Below w.heap.size w W→Calls Tryz.prog 13 #[.string s] W (aH W p)):
  Calls Tryz.prog 43 #[.agg #[.int .i64 46,.string s,.int .i64 n,.slice A len c]] w (aH w (false)):=by
 have Hp:=hide hp;clear hp;have HB0:=hide (au (Below.refl w.heap.size w) (.cells #[.int .i64 46,.string s,.int .i64 n,.slice A len c] 24));go_enter Tryz.func43,Tryz.ntmps43;go_wp2_with (first|(go_at_call 13;(with_reducible refine(Hp.out _ HB0.out).mono ?_);rintro e w1 ⟨rfl,h1⟩;obtain⟨c10,c11,c12,c13,hb⟩:=ji h1;have HB1:=hide hb;clear hb;clear h1))
 all_goals
  go_ret
  first|exact⟨aI MK,HB1.out⟩|exact⟨aI MK,HB0.out⟩
theorem apQ (s:ByteArray)(n:Int)(ad:Addr)(c:Nat)(w:World)(k0:Int)(s0:ByteArray)(n0:Int)(A0:Option Addr)(l0 c0:Nat)(p q:Bool)(z40:Bool)(apR:(k0==40)=z40)(z41:Bool)(agY:(k0==41)=z41)(z42:Bool)(Dy:(k0==42)=z42)(z46:Bool)(Kh:(k0==46)=z46)
  (hk:∀W,Below w.heap.size w W→W.cell? ad=some (.int .i64 k0)∧W.cell? ⟨ad.block,ad.off+1,none⟩=some (.string s0)∧W.cell? ⟨ad.block,ad.off+2,none⟩=some (.int .i64 n0)∧W.cell? ⟨ad.block,ad.off+3,none⟩=some (.slice A0 l0 c0))
  (hp:∀W,Below w.heap.size w W→Calls Tryz.prog 44 #[.agg #[.int .i64 62,.string s,.int .i64 n,.slice (some ad) 1 c]] W (aH W p))
  (hq:∀W,Below w.heap.size w W→Calls Tryz.prog 43 #[.agg #[.int .i64 k0,.string s0,.int .i64 n0,.slice A0 l0 c0]] W (aH W q)):
  Calls Tryz.prog 43 #[.agg #[.int .i64 62,.string s,.int .i64 n,.slice (some ad) 1 c]] w (aH w (p&&((z40||(z41||(z42||z46)))&&q))):=by
 have HK:=hide hk;clear hk;have Hp:=hide hp;have Hq:=hide hq;clear hp hq;have HB0:=hide (au (Below.refl w.heap.size w) (.cells #[.int .i64 62,.string s,.int .i64 n,.slice (some ad) 1 c] 24));obtain⟨aci,acj,acn,aco⟩:=HK.out _ HB0.out;go_enter Tryz.func43,Tryz.ntmps43;go_wp2_with (first|(go_at_call 44;(with_reducible refine(Hp.out _ HB0.out).mono ?_);rintro e w1 ⟨rfl,h1⟩;obtain⟨c10,c11,c12,c13,hb⟩:=ji h1;have HB1:=hide hb;clear hb;obtain⟨LJ,LK,LM,LP⟩:=HK.out _ HB1.out;clear h1)|(go_at_call 43;(with_reducible refine(Hq.out _ HB1.out).mono ?_);rintro e w2 ⟨rfl,h2⟩;have c20:=ak h2 c10;have c21:=ak h2 c11;have tH:=ak h2 c12;have c23:=ak h2 c13;have HB2:=hide (HB1.out.trans (h2.mono HB1.out.size));obtain⟨OZ,O1,O4,O5⟩:=HK.out _ HB2.out;clear h2))
 all_goals
  go_ret
  first|exact⟨aI MK,HB2.out⟩|exact⟨aI MK,HB1.out⟩|exact⟨aI MK,HB0.out⟩
theorem aky (s:ByteArray)(n:Int)(ad:Addr)(c:Nat)(w:World)(k0:Int)(s0:ByteArray)(n0:Int)(A0:Option Addr)(l0 c0:Nat)(p:Bool)(apR:(k0==40)=false)(agY:(k0==41)=false)(Dy:(k0==42)=false)(Kh:(k0==46)=false)
  (hk:∀W,Below w.heap.size w W→W.cell? ad=some (.int .i64 k0)∧W.cell? ⟨ad.block,ad.off+1,none⟩=some (.string s0)∧W.cell? ⟨ad.block,ad.off+2,none⟩=some (.int .i64 n0)∧W.cell? ⟨ad.block,ad.off+3,none⟩=some (.slice A0 l0 c0))
  (hp:∀W,Below w.heap.size w W→Calls Tryz.prog 44 #[.agg #[.int .i64 62,.string s,.int .i64 n,.slice (some ad) 1 c]] W (aH W p)):
  Calls Tryz.prog 43 #[.agg #[.int .i64 62,.string s,.int .i64 n,.slice (some ad) 1 c]] w (aH w (false)):=by
 have HK:=hide hk;clear hk;have Hp:=hide hp;clear hp;have HB0:=hide (au (Below.refl w.heap.size w) (.cells #[.int .i64 62,.string s,.int .i64 n,.slice (some ad) 1 c] 24));obtain⟨aci,acj,acn,aco⟩:=HK.out _ HB0.out;go_enter Tryz.func43,Tryz.ntmps43;go_wp2_with (first|(go_at_call 44;(with_reducible refine(Hp.out _ HB0.out).mono ?_);rintro e w1 ⟨rfl,h1⟩;obtain⟨c10,c11,c12,c13,hb⟩:=ji h1;have HB1:=hide hb;clear hb;obtain⟨LJ,LK,LM,LP⟩:=HK.out _ HB1.out;clear h1))
 all_goals
  go_ret
  first|exact⟨aI MK,HB1.out⟩|exact⟨aI MK,HB0.out⟩
theorem akz (s:ByteArray)(n:Int)(A:Option Addr)(len c:Nat)(w:World)(p:Bool)(hy:((len:Int)==1)=false)
  (hp:∀W,Below w.heap.size w W→Calls Tryz.prog 44 #[.agg #[.int .i64 62,.string s,.int .i64 n,.slice A len c]] W (aH W p)):
  Calls Tryz.prog 43 #[.agg #[.int .i64 62,.string s,.int .i64 n,.slice A len c]] w (aH w (false)):=by
 have Hp:=hide hp;clear hp;have HB0:=hide (au (Below.refl w.heap.size w) (.cells #[.int .i64 62,.string s,.int .i64 n,.slice A len c] 24));exact aeu
theorem apS (s:ByteArray)(n:Int)(ad:Addr)(c:Nat)(w:World)(k0:Int)(s0:ByteArray)(n0:Int)(A0:Option Addr)(l0 c0:Nat)(p q r:Bool)(z41:Bool)(agY:(k0==41)=z41)(z42:Bool)(Dy:(k0==42)=z42)
  (hk:∀W,Below w.heap.size w W→W.cell? ad=some (.int .i64 k0)∧W.cell? ⟨ad.block,ad.off+1,none⟩=some (.string s0)∧W.cell? ⟨ad.block,ad.off+2,none⟩=some (.int .i64 n0)∧W.cell? ⟨ad.block,ad.off+3,none⟩=some (.slice A0 l0 c0))
  (hp:∀W,Below w.heap.size w W→Calls Tryz.prog 44 #[.agg #[.int .i64 63,.string s,.int .i64 n,.slice (some ad) 1 c]] W (aH W p))
  (hq:∀W,Below w.heap.size w W→Calls Tryz.prog 40 #[.agg #[.int .i64 k0,.string s0,.int .i64 n0,.slice A0 l0 c0]] W (aH W q))
  (hr:∀W,Below w.heap.size w W→Calls Tryz.prog 43 #[.agg #[.int .i64 k0,.string s0,.int .i64 n0,.slice A0 l0 c0]] W (aH W r)):
  Calls Tryz.prog 43 #[.agg #[.int .i64 63,.string s,.int .i64 n,.slice (some ad) 1 c]] w (aH w (p&&(q||((z41||z42)&&r)))):=by
 have HK:=hide hk;clear hk;have Hp:=hide hp;have Hq:=hide hq;have Hr:=hide hr;clear hp hq hr;have HB0:=hide (au (Below.refl w.heap.size w) (.cells #[.int .i64 63,.string s,.int .i64 n,.slice (some ad) 1 c] 24));obtain⟨aci,acj,acn,aco⟩:=HK.out _ HB0.out;go_enter Tryz.func43,Tryz.ntmps43;go_wp2_with (first|(go_at_call 44;(with_reducible refine(Hp.out _ HB0.out).mono ?_);rintro e w1 ⟨rfl,h1⟩;obtain⟨c10,c11,c12,c13,hb⟩:=ji h1;have HB1:=hide hb;clear hb;obtain⟨LJ,LK,LM,LP⟩:=HK.out _ HB1.out;clear h1)|(go_at_call 40;(with_reducible refine(Hq.out _ HB1.out).mono ?_);rintro e w2 ⟨rfl,h2⟩;have c20:=ak h2 c10;have c21:=ak h2 c11;have tH:=ak h2 c12;have c23:=ak h2 c13;have HB2:=hide (HB1.out.trans (h2.mono HB1.out.size));obtain⟨OZ,O1,O4,O5⟩:=HK.out _ HB2.out;clear h2)|(go_at_call 43;(with_reducible refine(Hr.out _ HB2.out).mono ?_);rintro e w3 ⟨rfl,h3⟩;have Rz:=ak h3 c20;have c31:=ak h3 c21;have c32:=ak h3 tH;have RA:=ak h3 c23;have HB3:=hide (HB2.out.trans (h3.mono HB2.out.size));obtain⟨acd,ace,acf,acg⟩:=HK.out _ HB3.out;clear h3))
 all_goals
  go_ret
  first|exact⟨aI MK,HB3.out⟩|exact⟨aI MK,HB2.out⟩|exact⟨aI MK,HB1.out⟩|exact⟨aI MK,HB0.out⟩
theorem akA (s:ByteArray)(n:Int)(ad:Addr)(c:Nat)(w:World)(k0:Int)(s0:ByteArray)(n0:Int)(A0:Option Addr)(l0 c0:Nat)(p q:Bool)(agY:(k0==41)=false)(Dy:(k0==42)=false)
  (hk:∀W,Below w.heap.size w W→W.cell? ad=some (.int .i64 k0)∧W.cell? ⟨ad.block,ad.off+1,none⟩=some (.string s0)∧W.cell? ⟨ad.block,ad.off+2,none⟩=some (.int .i64 n0)∧W.cell? ⟨ad.block,ad.off+3,none⟩=some (.slice A0 l0 c0))
  (hp:∀W,Below w.heap.size w W→Calls Tryz.prog 44 #[.agg #[.int .i64 63,.string s,.int .i64 n,.slice (some ad) 1 c]] W (aH W p))
  (hq:∀W,Below w.heap.size w W→Calls Tryz.prog 40 #[.agg #[.int .i64 k0,.string s0,.int .i64 n0,.slice A0 l0 c0]] W (aH W q)):
  Calls Tryz.prog 43 #[.agg #[.int .i64 63,.string s,.int .i64 n,.slice (some ad) 1 c]] w (aH w (p&&q)):=by
 have HK:=hide hk;clear hk;have Hp:=hide hp;have Hq:=hide hq;clear hp hq;have HB0:=hide (au (Below.refl w.heap.size w) (.cells #[.int .i64 63,.string s,.int .i64 n,.slice (some ad) 1 c] 24));obtain⟨aci,acj,acn,aco⟩:=HK.out _ HB0.out;go_enter Tryz.func43,Tryz.ntmps43;go_wp2_with (first|(go_at_call 44;(with_reducible refine(Hp.out _ HB0.out).mono ?_);rintro e w1 ⟨rfl,h1⟩;obtain⟨c10,c11,c12,c13,hb⟩:=ji h1;have HB1:=hide hb;clear hb;obtain⟨LJ,LK,LM,LP⟩:=HK.out _ HB1.out;clear h1)|(go_at_call 40;(with_reducible refine(Hq.out _ HB1.out).mono ?_);rintro e w2 ⟨rfl,h2⟩;have c20:=ak h2 c10;have c21:=ak h2 c11;have tH:=ak h2 c12;have c23:=ak h2 c13;have HB2:=hide (HB1.out.trans (h2.mono HB1.out.size));obtain⟨OZ,O1,O4,O5⟩:=HK.out _ HB2.out;clear h2))
 all_goals
  go_ret
  first|exact⟨aI MK,HB2.out⟩|exact⟨aI MK,HB1.out⟩|exact⟨aI MK,HB0.out⟩
theorem akB (s:ByteArray)(n:Int)(A:Option Addr)(len c:Nat)(w:World)(p:Bool)(hy:((len:Int)==1)=false)
  (hp:∀W,Below w.heap.size w W→Calls Tryz.prog 44 #[.agg #[.int .i64 63,.string s,.int .i64 n,.slice A len c]] W (aH W p)):
  Calls Tryz.prog 43 #[.agg #[.int .i64 63,.string s,.int .i64 n,.slice A len c]] w (aH w (false)):=by
 have Hp:=hide hp;clear hp;have HB0:=hide (au (Below.refl w.heap.size w) (.cells #[.int .i64 63,.string s,.int .i64 n,.slice A len c] 24));exact aeu
theorem rid (k:Int)(s:ByteArray)(n:Int)(A:Option Addr)(len c:Nat)(w:World)(p:Bool)(n42:(k==42)=false)(n46:(k==46)=false)(n60:(k==60)=false)(n62:(k==62)=false)(n63:(k==63)=false)(n64:(k==64)=false)
  (hp:∀W,Below w.heap.size w W→Calls Tryz.prog 42 #[.agg #[.int .i64 k,.string s,.int .i64 n,.slice A len c]] W (aH W p)):
  Calls Tryz.prog 43 #[.agg #[.int .i64 k,.string s,.int .i64 n,.slice A len c]] w (aH w (p)):=by
 have Hp:=hide hp;clear hp;refine GD ?_;intro HB0;go_enter Tryz.func43,Tryz.ntmps43;go_wp2_with (first|(go_at_call 42;(with_reducible refine(Hp.out _ HB0.out).mono ?_);rintro e w1 ⟨rfl,h1⟩;obtain⟨c10,c11,c12,c13,hb⟩:=ji h1;have HB1:=hide hb;clear hb;clear h1))
 all_goals
  go_ret
  first|exact⟨aI MK,HB1.out⟩|exact⟨aI MK,HB0.out⟩
theorem apT (k:Int)(s:ByteArray)(n:Int)(A:Option Addr)(len c:Nat)(w:World)(p z0 z1:Bool)(hz0:(k != 66)=z0)(hz1:(n != 0)=z1)(hp:∀W,Calls Tryz.prog 13 #[.string s] W (aH W p))(hbad:(z0||(!p||z1))=true):
  Calls Tryz.prog 47 #[.agg #[.int .i64 k,.string s,.int .i64 n,.slice A len c]] w (aH w false):=by
 have HP:=hide hp;have HBAD:=hide hbad;clear hp hbad;refine GD ?_;intro HB0;go_enter Tryz.func47,Tryz.ntmps47;exact aev
theorem akC (k:Int)(s:ByteArray)(n:Int)(A:Option Addr)(len c:Nat)(w:World)(v:Bool)(z1 z2:Bool)(hz1:(n != 0)=z1)(hz2:(n != 1)=z2)(hbad:(!v||(z1&&z2))=true)
  (hV:∀W,Calls Tryz.prog 85 #[.string s] W (aH W v)):
  Calls Tryz.prog 94 #[.agg #[.int .i64 k,.string s,.int .i64 n,.slice A len c]] w (aH w false):=by
 have HV:=hide hV;have HBAD:=hide hbad;clear hV hbad;refine GD ?_;intro HB0;go_enter Tryz.func94,Tryz.ntmps94;exact aen
theorem agZ (s:ByteArray)(c:Nat)(A:Option Addr)(w:World)(hV:∀W,Calls Tryz.prog 85 #[.string s] W (aH W true)):
  Calls Tryz.prog 94 #[.agg #[.int .i64 60,.string s,.int .i64 1,.slice A 0 c]] w (aH w false):=by
 have HV:=hide hV;clear hV;have HB0:=hide (au (Below.refl w.heap.size w) (.cells #[.int .i64 60,.string s,.int .i64 1,.slice A 0 c] 24));go_enter Tryz.func94,Tryz.ntmps94;go_wp2_with (go_at_call 85;refine(HV.out _).mono ?_;rintro e w1 ⟨rfl,h1⟩;obtain⟨c10,c11,c12,c13,hb⟩:=ji h1;have HB1:=hide hb;clear h1 hb);have dI:=hide c13;have pV:=hide c12;clear c10 c11 c12 c13;go_loopg [4] 1 (fun gk v4 wr=>v4= .int .i64 0∧wr=w1∧0<gk)
 case atStart=>exact⟨rfl,rfl,aG⟩
 case round=>
  obtain⟨rfl,rfl,lS⟩:=hrel;have c13:=dI.out;have c12:=pV.out;go_wp2;go_ret;exact⟨rfl,HB1.out⟩
theorem ag0 (k:Int)(s:ByteArray)(n:Int)(A:Option Addr)(len c:Nat)(w:World)(v:Bool)(z1 z2 y:Bool)(hz1:(n != 0)=z1)(hz2:(n != 1)=z2)(hy:((len:Int)==0)=y)(hbad:(!v||((z1&&z2)||y))=true)
  (hV:∀W,Calls Tryz.prog 85 #[.string s] W (aH W v)):
  Calls Tryz.prog 95 #[.agg #[.int .i64 k,.string s,.int .i64 n,.slice A len c]] w (aH w false):=by
 have HV:=hide hV;have HBAD:=hide hbad;clear hV hbad;refine GD ?_;intro HB0;go_enter Tryz.func95,Tryz.ntmps95;exact aen
theorem O7 (x:Tr)(hf:Fit x)(A:Option Addr)(c:Nat)(W:World)(hr:Rd W x A c):Calls Tryz.prog 47 #[nd x A c] W (aH W (oN x)):=by
 obtain⟨k,s,n,l⟩:=x;have HI:=fun W=>jy s Bz W
 cases hg:(k==66&&(nH s&&n==0))with
 |false=>
  refine aK (b:=false) ?_ (apT k s n A l.length c W (nH s) _ _ rfl rfl HI ?_)
  ·unfold oN;simp only
   revert hg
   cases(k==66)<;>cases nH s<;>cases(n==0)<;>simp
  ·revert hg
   generalize nH s=v
   cases(decEq k 66)<;>cases(decEq n 0)<;>cases v<;>simp_all
 |true=>
  have hb:oN (⟨k,s,n,l⟩:Tr)=l.all yN:=by
   unfold oN;simp only;revert hg
   cases(k==66)<;>cases nH s<;>cases(n==0)<;>simp
  simp only[Bool.and_eq_true,beq_iff_eq]at hg;obtain⟨rfl,hid,rfl⟩:=hg;rw[hb];exact akt s l hf A c W hr hid
theorem I5 (s:ByteArray)(n:Int)(l:List Tr)(hf:Fit ⟨60,s,n,l⟩)(A:Option Addr)(c:Nat)(W:World)(hr:Rd W ⟨60,s,n,l⟩ A c):Calls Tryz.prog 94 #[nd ⟨60,s,n,l⟩ A c] W (aH W (z_ ⟨60,s,n,l⟩)):=by
 have HV:=fun W=>su s Bz W
 cases hg:(eG s&&(n==0||n==1))with
 |false=>
  refine aK (b:=false) ?_ (akC 60 s n A l.length c W (eG s) _ _ rfl rfl ?_ HV)
  ·unfold z_;simp only
   revert hg
   cases(n==0)<;>cases(n==1)<;>cases eG s<;>simp
  ·revert hg
   generalize eG s=v
   cases(decEq n 0)<;>cases(decEq n 1)<;>cases v<;>simp_all
 |true=>
  simp only[Bool.and_eq_true,beq_iff_eq,Bool.or_eq_true]at hg;obtain⟨hv,hn⟩:=hg;rcases hn with rfl|rfl
  ·refine aK ?_ (aku s l hf A c W hr hv)
   rw[AU 0 l.length (o_ l) (.inl rfl) qo l 0 false qo qo];unfold z_;simp[hv]
  ·cases l with
   |nil=>exact aK (by unfold z_;simp) (agZ s c A W (fun W2=>aK hv (HV W2)))
   |cons y l=>
    refine aK ?_ (akw s (y::l) hf A c W hr hv qo);rw[AU 1 (y::l).length (o_ (y::l)) (.inr rfl) qo (y::l) 0 false qo qo];unfold z_;simp[hv]
theorem S_ (s:ByteArray)(n:Int)(l:List Tr)(hf:Fit ⟨64,s,n,l⟩)(A:Option Addr)(c:Nat)(W:World)(hr:Rd W ⟨64,s,n,l⟩ A c):Calls Tryz.prog 95 #[nd ⟨64,s,n,l⟩ A c] W (aH W (uD ⟨64,s,n,l⟩)):=by
 have HV:=fun W=>su s Bz W
 cases hg:(eG s&&((n==0||n==1)&&!l.isEmpty))with
 |false=>
  refine aK (b:=false) ?_ (ag0 64 s n A l.length c W (eG s) _ _ l.isEmpty rfl rfl (lH l) ?_ HV)
  ·unfold uD;simp only
   revert hg
   cases(n==0)<;>cases(n==1)<;>cases eG s<;>cases l.isEmpty<;>simp
  ·revert hg
   generalize eG s=v;generalize l.isEmpty=e
   cases(decEq n 0)<;>cases(decEq n 1)<;>cases v<;>cases e<;>simp_all
 |true=>
  simp only[Bool.and_eq_true,beq_iff_eq,Bool.or_eq_true,Bool.not_eq_true']at hg;obtain⟨hv,hn,he⟩:=hg;have hl0:0<l.length:=by cases l with|nil=>simp at he|cons a l=>simp
  rcases hn with rfl|rfl
  ·exact aK (by unfold uD;simp[hv,he]) (agW s l hf A c W hr hv hl0)
  ·exact aK (by unfold uD;simp[hv,he]) (agX s l hf A c W hr hv hl0)
theorem ag1:jA 40 (Q .E):=fun x hf A c W hr=>(yg _).E x (Nat.le_refl _) hf A c W hr
theorem akD:jA 41 (Q .T):=fun x hf A c W hr=>(yg _).T x (Nat.le_refl _) hf A c W hr
theorem ag2:jA 42 (Q .S):=fun x hf A c W hr=>(yg _).S x (Nat.le_refl _) hf A c W hr
theorem Zv (P:Tr→Bool)(x:Tr):yO P [x]=P x:=by unfold yO rO rO;simp
theorem Zw (P:Tr→Bool){l:List Tr}(h:l.length≠1):yO P l=false:=uh (by simpa using fun e=>h e.symm)
theorem O8 (x:Tr)(hf:Fit x)(A:Option Addr)(c:Nat)(W:World)(hr:Rd W x A c)(h1:x.f0≠62)(h2:x.f0≠63):Calls Tryz.prog 43 #[nd x A c] W (aH W (oO x)):=by
 obtain⟨k,s,n,l⟩:=x;simp only at h1 h2;have HI:=fun W=>jy s Bz W;unfold oO;simp only;by_cases lV:k=42
 ·subst lV;simp only[reduceIte];exact apM s n A l.length c W _ (fun W2 h=>C8 _ hf A c W2 (hr.below h))
 by_cases h46:k=46
 ·subst h46
  simp only[reduceIte,Int.reduceEq];by_cases hl:l.length=1
  ·obtain⟨a,rfl⟩:=lone hl
   obtain⟨ad,A0,c0,rfl,r0,q0⟩:=sw (x:=⟨46,s,n,[a]⟩) hr (y:=a) rfl;exact aK (by rw[QR1];simp only[Bool.and_assoc];rfl) (apP s n ad c W a.f0 a.f1 a.f2 A0 a.f3.length c0 (nH s) (Q .T a) _ rfl (fun W2 h=>⟨(q0.below h).1,(q0.below h).2.1,(q0.below h).2.2.1,(q0.below h).2.2.2⟩) (fun W2 _=>HI W2) (fun W2 h=>akD a (hf.kid qo) A0 c0 W2 (r0.below h)))
  ·exact aK (by rw[mI gY];simp) (akx s n A l.length c W _ _ rfl (mJ hl) (fun W2 _=>HI W2))
 by_cases mh:k=60
 ·subst mh;simp only[reduceIte,Int.reduceEq];exact apN s n A l.length c W _ (fun W2 h=>I5 s n l hf A c W2 (hr.below h))
 by_cases h64:k=64
 ·subst h64;simp only[reduceIte,Int.reduceEq];exact apO s n A l.length c W _ (fun W2 h=>S_ s n l hf A c W2 (hr.below h))
 simp only[lV,h46,mh,h64,if_false];exact rid k s n A l.length c W _ (by simpa using lV) (by simpa using h46) (by simpa using mh) Zu wz (by simpa using h64) (fun W2 h=>ag2 _ hf A c W2 (hr.below h))
theorem EJ:jA 43 iP:=fun x hf A c W hr=>by
 by_cases h1:x.f0=62
 ·obtain⟨k,s,n,l⟩:=x
  simp only at h1;subst h1;have hb:iP (⟨62,s,n,l⟩:Tr)=(lT s n&&yO BN l):=by unfold iP;simp
  by_cases hl:l.length=1
  ·obtain⟨a,rfl⟩:=lone hl
   obtain⟨ad,A0,c0,rfl,r0,q0⟩:=sw (x:=⟨62,s,n,[a]⟩) hr (y:=a) rfl;have hq:=fun W2 (h:Below W.heap.size W W2)=>(And.intro (q0.below h).1 (And.intro (q0.below h).2.1 (And.intro (q0.below h).2.2.1 (q0.below h).2.2.2)));rw[hb,Zv];by_cases hk:a.f0=40∨a.f0=41∨a.f0=42∨a.f0=46
   ·exact aK (by unfold BN;rfl) (apQ s n ad c W a.f0 a.f1 a.f2 A0 a.f3.length c0 (lT s n) (oO a) _ rfl _ rfl _ rfl _ rfl hq (fun W2 _=>bD _ s n _ _ c W2) (fun W2 h=>O8 a (hf.kid qo) A0 c0 W2 (r0.below h) aG aG))
   ·have n0:(a.f0==40)=false:=Oi
    have n1:(a.f0==41)=false:=Oi;have n2:(a.f0==42)=false:=Oi;have n3:(a.f0==46)=false:=Oi;exact aK (by unfold BN;rw[n0,n1,n2,n3];simp) (aky s n ad c W a.f0 a.f1 a.f2 A0 a.f3.length c0 (lT s n) n0 n1 n2 n3 hq (fun W2 _=>bD _ s n _ _ c W2))
  ·exact aK (by rw[hb,Zw _ hl];simp) (akz s n A l.length c W _ (mJ hl) (fun W2 _=>bD _ s n _ _ c W2))
 by_cases h2:x.f0=63
 ·obtain⟨k,s,n,l⟩:=x
  simp only at h2;subst h2;have hb:iP (⟨63,s,n,l⟩:Tr)=(lT s n&&yO BO l):=by unfold iP;simp
  by_cases hl:l.length=1
  ·obtain⟨a,rfl⟩:=lone hl
   obtain⟨ad,A0,c0,rfl,r0,q0⟩:=sw (x:=⟨63,s,n,[a]⟩) hr (y:=a) rfl;have hq:=fun W2 (h:Below W.heap.size W W2)=>(And.intro (q0.below h).1 (And.intro (q0.below h).2.1 (And.intro (q0.below h).2.2.1 (q0.below h).2.2.2)));rw[hb,Zv];by_cases hk:a.f0=41∨a.f0=42
   ·exact aK (by unfold BO;rfl) (apS s n ad c W a.f0 a.f1 a.f2 A0 a.f3.length c0 (lT s n) (Q .E a) (oO a) _ rfl _ rfl hq (fun W2 _=>bD _ s n _ _ c W2) (fun W2 h=>ag1 a (hf.kid qo) A0 c0 W2 (r0.below h)) (fun W2 h=>O8 a (hf.kid qo) A0 c0 W2 (r0.below h) aG aG))
   ·have n1:(a.f0==41)=false:=Oi
    have n2:(a.f0==42)=false:=Oi;exact aK (by unfold BO;rw[n1,n2];simp) (akA s n ad c W a.f0 a.f1 a.f2 A0 a.f3.length c0 (lT s n) (Q .E a) n1 n2 hq (fun W2 _=>bD _ s n _ _ c W2) (fun W2 h=>ag1 a (hf.kid qo) A0 c0 W2 (r0.below h)))
  ·exact aK (by rw[hb,Zw _ hl];simp) (akB s n A l.length c W _ (mJ hl) (fun W2 _=>bD _ s n _ _ c W2))
 exact aK (by unfold iP;rw[if_neg h1,if_neg h2]) (O8 x hf A c W hr h1 h2)
end Go.Proofs.YtldgmneijipbjaaGreatDoor.H
