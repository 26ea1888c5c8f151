import Derived.Test.YtldgmneijipbjaaGreatDoorBS10
import Derived.Test.YtldgmneijipbjaaGreatDoorBMac
set_option linter.unusedVariables false
set_option linter.unusedSimpArgs false
set_option maxRecDepth 100000
set_option maxHeartbeats 16000000
namespace Go.Proofs.YtldgmneijipbjaaGreatDoor.H
open Go.RowKit Go.Shelf Go.Proofs.YtldgmneijipbjaaGreatDoorW.PrintWords Go.Proofs.YtldgmneijipbjaaGreatDoorW.PrintLast Go.Proofs.YtldgmneijipbjaaGreatDoorW.PrintMore
open PScopeOwn
def pG (s:ByteArray):Bool:=s.toList==[42]
def MV (s:ByteArray):Bool:=s.toList==[100,101,102,97,117,108,116]
def o_ (l:List Tr):ByteArray:=match l with|[]=>⟨#[]⟩|x::_=>x.f1
def Tp (n:Int)(len:Nat)(fs:ByteArray)(i:Nat)(y:Tr):Bool:=(y.f0==61&&(y.f2==0&&QR [(.nm,.E)] y.f3))&&
 (if pG y.f1 then !(n==1)&&((i+1==len)&&(!decide (1<i)&&!(i==1&&!MV fs)))else eP y.f1)
def nR (n:Int)(len:Nat)(fs:ByteArray):Nat→List Tr→Bool
 |_,[]=>true
 |i,y::l=>Tp n len fs i y&&nR n len fs (i+1) l
def z_ (x:Tr):Bool:=(x.f0==60&&((x.f2==0||x.f2==1)&&(eG x.f1&&!(x.f2==1&&x.f3.isEmpty))))&&nR x.f2 x.f3.length (o_ x.f3) 0 x.f3
theorem kN (ad:Addr):ad.add (0*4)=ad:=by simp[Addr.add]
structure IQ (w:World)(n:Int)(l:List Tr)(i:Nat)(wr:World):Prop where
 below:Below w.heap.size w wr
 eq:nR n l.length (o_ l) 0 l=nR n l.length (o_ l) i (l.drop i)
theorem IQ.next {w wr w2:World}{n:Int}{l:List Tr}{i:Nat}{y:Tr}(q:IQ w n l i wr)(hy:l[i]?=some y)(hok:Tp n l.length (o_ l) i y=true)(hb:Below wr.heap.size wr w2):IQ w n l (i+1) w2:=
 ⟨q.below.trans (hb.mono q.below.size),by rw[q.eq,drop_at hy,nR,hok,Bool.true_and]⟩
theorem IQ.stop {w wr:World}{n:Int}{l:List Tr}{i:Nat}{y:Tr}(q:IQ w n l i wr)(hy:l[i]?=some y)(hok:Tp n l.length (o_ l) i y=false):nR n l.length (o_ l) 0 l=false:=by rw[q.eq,drop_at hy,nR,hok,Bool.false_and]
theorem air (s:ByteArray)(l:List Tr)(A:Option Addr)(c:Nat)(w:World)(hf:Fit ⟨60,s,0,l⟩)(hr:Rd w ⟨60,s,0,l⟩ A c)(hbig:l.length≤1099511627776)(hv:eG s=true):
  Calls Tryz.prog 56 #[.agg #[.int .i64 60,.string s,.int .i64 0,.slice A l.length c]] w (aH w (nR 0 l.length (o_ l) 0 l)):=by
 refine Vy ?_;intro HV;have HB0:=hide (au (Below.refl w.heap.size w) (.cells #[.int .i64 60,.string s,.int .i64 0,.slice A l.length c] 24));have uu:=uo (SizeOf.sizeOf (⟨60,s,0,l⟩:Tr));have jF:=hide hf;have PE:=hide hr;obtain⟨len,hlen⟩:∃len,l.length=len:=⟨_,rfl⟩;have hlb:len≤1099511627776:=by rw[←hlen];exact hbig
 have HL:=hide hlen;rw[hlen]at HB0⊢;clear hf hr hbig hlen hv;go_enter Tryz.func56,Tryz.ntmps56;go_wp2_with (go_at_call 107;refine(HV.out _ HB0.out).mono ?_;rintro e w1 ⟨rfl,h1⟩;obtain⟨c10,c11,c12,c13,hb⟩:=ji h1;have HB1:=hide hb;clear h1 hb);have dI:=hide (fun W (h:Below w1.heap.size w1 W)=>And.intro (ak h c12) (ak h c13));have Q0:=hide (show IQ w 0 l 0 w1∧Below w1.heap.size w1 w1 from⟨⟨HB1.out,qo⟩,Below.refl _ _⟩);clear c10 c11 c12 c13;go_loopg [38] (len+1) (fun gk v38 wr=>∃i:Nat,i≤len∧len-i<gk∧v38= .int .i64 i∧Aside0 (IQ w 0 l i wr∧Below w1.heap.size w1 wr))
 case atStart=>exact⟨0,Nat.zero_le _,aG,rfl,Q0⟩
 case round=>
  obtain⟨i,hi,lS,rfl,Q⟩:=hrel;clear Q0;by_cases hlt:i<len
  ·have eY:(i:Int)<(len:Int):=aG
   have hlp:(0:Int)<(len:Int):=aG;obtain⟨y,hy⟩:=eO (l:=l) (i:=i) (by rw[HL.out];exact hlt);obtain⟨ad,A',c',rfl,dR,k0,k1,k2,k3⟩:=(PE.out.below Q.out.1.below).kid hy;obtain⟨y0,hy0⟩:=eO (l:=l) (i:=0) (by rw[HL.out];omega);obtain⟨JB,A0,c0,e0,-,-,j1,-,-⟩:=(PE.out.below Q.out.1.below).kid hy0
   cases e0
   have hfs:y0.f1=o_ l:=by cases l with|nil=>simp at hy0|cons a l=>simp at hy0;rw[←hy0];rfl
   rw[hfs]at j1;obtain⟨fs,Du⟩:∃fs,o_ l=fs:=⟨_,rfl⟩;have HFS:=hide Du;rw[Du]at j1;have j1':wr.cell? ⟨ad.block,ad.off+1,none⟩=some (.string fs):=by rw[kN]at j1;exact j1
   have g_:=jF.out.kid (bZ (x:=(⟨60,s,0,l⟩:Tr)) hy);have HY:=hide hy;have kC:=hide dR;have Jo:=hide g_;have jL:=hide (fun w2 h hb=>Q.out.1.next (w2:=w2) hy h hb);have HST:=hide (Q.out.1.stop hy);rw[HL.out]at jL HST;obtain⟨yk,ys,yn,yl⟩:=y;simp only at k0 k1 k2 k3;have qK:=hide (fun W h=>pF (x:=⟨yk,ys,yn,yl⟩) g_ dR (W2:=W) h);simp only at qK;obtain⟨zk,vO⟩:∃z,(yk != 61)=z:=⟨_,rfl⟩;obtain⟨zn,hzn⟩:∃z,(yn != 0)=z:=⟨_,rfl⟩;obtain⟨zp,iO⟩:∃z,eP ys=!z:=⟨!eP ys,by simp⟩;obtain⟨q,hq⟩:∃q,QR [(.nm,.E)] yl=!q:=⟨!QR [(.nm,.E)] yl,by simp⟩;obtain⟨jd,fA⟩:∃z,yl.length=z:=⟨_,rfl⟩;have Jp:=hide fA;rw[iO]at qK;have HB:=hide (au (Below.refl wr.heap.size wr) (.cells #[.int .i64 yk,.string ys,.int .i64 yn,.slice A' jd c'] 24))
   have lq:=hide (show Calls Tryz.prog 55 #[.agg #[.int .i64 yk,.string ys,.int .i64 yn,.slice A' jd c'],.slice (some ⟨wr.heap.size+1,0,none⟩) 1 1] ((wr.alloc (.cells #[.int .i64 yk,.string ys,.int .i64 yn,.slice A' jd c'] 24)).alloc (.cells #[D9 69] 39)) (aH (wr.alloc (.cells #[.int .i64 yk,.string ys,.int .i64 yn,.slice A' jd c'] 24)) (!q))from by
    have h:=jP (jW.cons (f:=(69,(.nm,.E))) ae8 (ae' uu) jW.nil) wN ⟨yk,ys,yn,yl⟩ (fun z hz=>by have h1:=fJ (x:=(⟨yk,ys,yn,yl⟩:Tr)) hz;have h2:=fJ (x:=(⟨60,s,0,l⟩:Tr)) (bZ (x:=(⟨60,s,0,l⟩:Tr)) HY.out);omega) g_ A' c' (wr.alloc (.cells #[.int .i64 yk,.string ys,.int .i64 yn,.slice A' jd c'] 24)) (dR.below HB.out);rw[World.size_alloc]at h;rw[←hq,←fA];rw[←fA]at h;exact h)
   clear hy dR g_ hy0 hfs Du j1;simp only[fA]at k3;clear fA;have hok1:(yk==61&&(yn==0&&QR [(.nm,.E)] yl))=(!zk&&(!zn&&!q)):=by rw[←vO,←hzn,hq];simp[bne]
   by_cases hstar:ys.toList=[42]
   ·refine Xq ?_
    intro zs Aa z2 hz2 z3 hz3 z4 hz4 z5 hz5 J5
    have iy:=hide (show Tp 0 len fs i (⟨yk,ys,yn,yl⟩:Tr)=((!zk&&(!zn&&!q))&&(true&&(!z2&&(!z3&&!(z4&&z5)))))from by
     refine UZ ?_;intro e2 e4 e5;rfl)
    clear hstar Aa hok1 hq iO;go_wp2_with (go_at_call 55;refine lq.out.mono ?_;rintro e w2 ⟨rfl,h2⟩;obtain⟨c20,c21,tH,c23,hb⟩:=ji h2;obtain⟨b2,b3⟩:=dI.out _ (Q.out.2.trans (hb.mono Q.out.2.size));have d1:=ak hb j1';have HB2:=hide hb;clear h2 hb)
    all_goals try (go_ret;first|exact⟨aI (HST.out Yu).symm,Q.out.1.below.trans (HB2.out.mono Q.out.1.below.size)⟩|exact⟨aI (HST.out Yu).symm,Q.out.1.below.trans (HB.out.mono Q.out.1.below.size)⟩)
    all_goals
     have Q2:=hide (And.intro (jL.out _ Yu HB2.out) (Q.out.2.trans (HB2.out.mono Q.out.2.size)));go_roundg (len-i)
     case measure=>omega
     case rel=>exact⟨i+1,aG,aG,Nb,Q2⟩
   ·have zs:(ys.toList==[42])=false:=by simpa using hstar
    have Aa:pG ys=false:=zs
    have iy:=hide (show Tp 0 len fs i (⟨yk,ys,yn,yl⟩:Tr)=((!zk&&(!zn&&!q))&&!zp)from by
     unfold Tp;simp only;rw[Aa,if_neg qo,hok1,iO])
    exact adg
  ·exact adh
theorem ais (s:ByteArray)(l:List Tr)(A:Option Addr)(c:Nat)(w:World)(hf:Fit ⟨60,s,1,l⟩)(hr:Rd w ⟨60,s,1,l⟩ A c)(hbig:l.length≤1099511627776)(hv:eG s=true)(hl:0<l.length):
  Calls Tryz.prog 56 #[.agg #[.int .i64 60,.string s,.int .i64 1,.slice A l.length c]] w (aH w (nR 1 l.length (o_ l) 0 l)):=by
 refine Vy ?_;intro HV;have HB0:=hide (au (Below.refl w.heap.size w) (.cells #[.int .i64 60,.string s,.int .i64 1,.slice A l.length c] 24));have uu:=uo (SizeOf.sizeOf (⟨60,s,1,l⟩:Tr));refine Ip ?_;intro jF PE len hlen hlb hl0 HL;rw[hlen]at HB0⊢;clear hf hr hbig hlen hv hl;go_enter Tryz.func56,Tryz.ntmps56;go_wp2_with (go_at_call 107;refine(HV.out _ HB0.out).mono ?_;rintro e w1 ⟨rfl,h1⟩;obtain⟨c10,c11,c12,c13,hb⟩:=ji h1;have HB1:=hide hb;clear h1 hb);have dI:=hide (fun W (h:Below w1.heap.size w1 W)=>And.intro (ak h c12) (ak h c13));have Q0:=hide (show IQ w 1 l 0 w1∧Below w1.heap.size w1 w1 from⟨⟨HB1.out,qo⟩,Below.refl _ _⟩);clear c10 c11 c12 c13;go_loopg [38] (len+1) (fun gk v38 wr=>∃i:Nat,i≤len∧len-i<gk∧v38= .int .i64 i∧Aside0 (IQ w 1 l i wr∧Below w1.heap.size w1 wr))
 case atStart=>exact⟨0,Nat.zero_le _,aG,rfl,Q0⟩
 case round=>
  obtain⟨i,hi,lS,rfl,Q⟩:=hrel;clear Q0;by_cases hlt:i<len
  ·have eY:(i:Int)<(len:Int):=aG
   have hlp:(0:Int)<(len:Int):=aG;obtain⟨y,hy⟩:=eO (l:=l) (i:=i) (by rw[HL.out];exact hlt);obtain⟨ad,A',c',rfl,dR,k0,k1,k2,k3⟩:=(PE.out.below Q.out.1.below).kid hy;obtain⟨y0,hy0⟩:=eO (l:=l) (i:=0) (by rw[HL.out];omega);obtain⟨JB,A0,c0,e0,-,-,j1,-,-⟩:=(PE.out.below Q.out.1.below).kid hy0
   cases e0
   have hfs:y0.f1=o_ l:=by cases l with|nil=>simp at hy0|cons a l=>simp at hy0;rw[←hy0];rfl
   rw[hfs]at j1;obtain⟨fs,Du⟩:∃fs,o_ l=fs:=⟨_,rfl⟩;have HFS:=hide Du;rw[Du]at j1;have j1':wr.cell? ⟨ad.block,ad.off+1,none⟩=some (.string fs):=by rw[kN]at j1;exact j1
   have g_:=jF.out.kid (bZ (x:=(⟨60,s,1,l⟩:Tr)) hy);have HY:=hide hy;have kC:=hide dR;have Jo:=hide g_;have jL:=hide (fun w2 h hb=>Q.out.1.next (w2:=w2) hy h hb);have HST:=hide (Q.out.1.stop hy);rw[HL.out]at jL HST;obtain⟨yk,ys,yn,yl⟩:=y;simp only at k0 k1 k2 k3;have qK:=hide (fun W h=>pF (x:=⟨yk,ys,yn,yl⟩) g_ dR (W2:=W) h);simp only at qK;obtain⟨zk,vO⟩:∃z,(yk != 61)=z:=⟨_,rfl⟩;obtain⟨zn,hzn⟩:∃z,(yn != 0)=z:=⟨_,rfl⟩;obtain⟨zp,iO⟩:∃z,eP ys=!z:=⟨!eP ys,by simp⟩;obtain⟨q,hq⟩:∃q,QR [(.nm,.E)] yl=!q:=⟨!QR [(.nm,.E)] yl,by simp⟩;obtain⟨jd,fA⟩:∃z,yl.length=z:=⟨_,rfl⟩;have Jp:=hide fA;rw[iO]at qK;have HB:=hide (au (Below.refl wr.heap.size wr) (.cells #[.int .i64 yk,.string ys,.int .i64 yn,.slice A' jd c'] 24))
   have lq:=hide (show Calls Tryz.prog 55 #[.agg #[.int .i64 yk,.string ys,.int .i64 yn,.slice A' jd c'],.slice (some ⟨wr.heap.size+1,0,none⟩) 1 1] ((wr.alloc (.cells #[.int .i64 yk,.string ys,.int .i64 yn,.slice A' jd c'] 24)).alloc (.cells #[D9 69] 39)) (aH (wr.alloc (.cells #[.int .i64 yk,.string ys,.int .i64 yn,.slice A' jd c'] 24)) (!q))from by
    have h:=jP (jW.cons (f:=(69,(.nm,.E))) ae8 (ae' uu) jW.nil) wN ⟨yk,ys,yn,yl⟩ (fun z hz=>by have h1:=fJ (x:=(⟨yk,ys,yn,yl⟩:Tr)) hz;have h2:=fJ (x:=(⟨60,s,1,l⟩:Tr)) (bZ (x:=(⟨60,s,1,l⟩:Tr)) HY.out);omega) g_ A' c' (wr.alloc (.cells #[.int .i64 yk,.string ys,.int .i64 yn,.slice A' jd c'] 24)) (dR.below HB.out);rw[World.size_alloc]at h;rw[←hq,←fA];rw[←fA]at h;exact h)
   clear hy dR g_ hy0 hfs Du j1;simp only[fA]at k3;clear fA;have hok1:(yk==61&&(yn==0&&QR [(.nm,.E)] yl))=(!zk&&(!zn&&!q)):=by rw[←vO,←hzn,hq];simp[bne]
   by_cases hstar:ys.toList=[42]
   ·refine Xq ?_
    intro zs Aa z2 hz2 z3 hz3 z4 hz4 z5 hz5 J5
    have iy:=hide (show Tp 1 len fs i (⟨yk,ys,yn,yl⟩:Tr)=((!zk&&(!zn&&!q))&&(false&&(!z2&&(!z3&&!(z4&&z5)))))from by
     refine UZ ?_;intro e2 e4 e5;rfl)
    clear hstar Aa hok1 hq iO;go_wp2_with (go_at_call 55;refine lq.out.mono ?_;rintro e w2 ⟨rfl,h2⟩;obtain⟨c20,c21,tH,c23,hb⟩:=ji h2;obtain⟨b2,b3⟩:=dI.out _ (Q.out.2.trans (hb.mono Q.out.2.size));have d1:=ak hb j1';have HB2:=hide hb;clear h2 hb)
    all_goals try (go_ret;first|exact⟨aI (HST.out Yu).symm,Q.out.1.below.trans (HB2.out.mono Q.out.1.below.size)⟩|exact⟨aI (HST.out Yu).symm,Q.out.1.below.trans (HB.out.mono Q.out.1.below.size)⟩)
   ·have zs:(ys.toList==[42])=false:=by simpa using hstar
    have Aa:pG ys=false:=zs
    have iy:=hide (show Tp 1 len fs i (⟨yk,ys,yn,yl⟩:Tr)=((!zk&&(!zn&&!q))&&!zp)from by
     unfold Tp;simp only;rw[Aa,if_neg qo,hok1,iO])
    exact adg
  ·exact adh
theorem ait (k:Int)(s:ByteArray)(n:Int)(A:Option Addr)(len c:Nat)(w:World)(v:Bool)(z0 z1 z2 z3 y:Bool)(hz0:(k != 60)=z0)(hz1:(n != 0)=z1)(hz2:(n != 1)=z2)(hz3:(n==1)=z3)(hy:((len:Int)==0)=y)(hbad:(z0||((z1&&z2)||(!v||(z3&&y))))=true)
  (hV:∀W,Below w.heap.size w W→Calls Tryz.prog 107 #[.string s] W (aH W v)):
  Calls Tryz.prog 56 #[.agg #[.int .i64 k,.string s,.int .i64 n,.slice A len c]] w (aH w false):=by
 have HV:=hide hV;have HBAD:=hide hbad;clear hV hbad;refine GD ?_;intro HB0;go_enter Tryz.func56,Tryz.ntmps56;exact adi
theorem UU (x:Tr)(hf:Fit x)(A:Option Addr)(c:Nat)(w:World)(hr:Rd w x A c)(hbig:x.f3.length≤1099511627776):Calls Tryz.prog 56 #[nd x A c] w (aH w (z_ x)):=by
 obtain⟨k,s,n,l⟩:=x;have hbig':l.length≤1099511627776:=hbig;have HV:=fun W (h:Below w.heap.size w W)=>qG s W Jd (hr.below h).tab
 cases hg:(k==60&&((n==0||n==1)&&(eG s&&!(n==1&&l.isEmpty))))with
 |false=>
  refine aK (b:=false) (by unfold z_;simp only;rw[hg];rfl) (ait k s n A l.length c w (eG s) _ _ _ _ _ rfl rfl rfl rfl (lH l) ?_ HV);revert hg;generalize eG s=v;generalize l.isEmpty=e
  cases(decEq k 60)<;>cases(decEq n 0)<;>cases(decEq n 1)<;>cases v<;>cases e<;>simp_all
 |true=>
  have hb:z_ (⟨k,s,n,l⟩:Tr)=nR n l.length (o_ l) 0 l:=by unfold z_;simp only;rw[hg];rfl
  simp only[Bool.and_eq_true,beq_iff_eq,Bool.or_eq_true,Bool.not_eq_true']at hg;obtain⟨rfl,hn,hv,he⟩:=hg;rw[hb];rcases hn with rfl|rfl
  ·exact air s l A c w hf hr hbig' hv
  ·refine ais s l A c w hf hr hbig' hv ?_
   cases l with
   |nil=>simp at he
   |cons a l=>simp
def UW (ys:ByteArray)(t:Tr):Bool:=t.f0==6&&(t.f2==0&&(t.f3.isEmpty&&(eP t.f1&&!(t.f1.toList==ys.toList))))
def toB (ys:ByteArray)(l:List Tr):Bool:=match l with
 |[t]=>UW ys t||gT t
 |_=>false
def okF (s:ByteArray)(n:Int)(len:Nat)(y:Tr):Bool:=(y.f0==65&&(y.f2==0&&toB y.f1 y.f3))&&
 (if pG y.f1 then !decide (1<len)&&(!s.toList.isEmpty&&!(n==1))else eP y.f1&&!(s.toList.isEmpty&&!nH y.f1))
def uD (x:Tr):Bool:=(x.f0==64&&((x.f2==0||x.f2==1)&&(eG x.f1&&!x.f3.isEmpty)))&&x.f3.all (okF x.f1 x.f2 x.f3.length)
structure JQ (w:World)(P:Tr→Bool)(l:List Tr)(i:Nat)(wr:World):Prop where
 below:Below w.heap.size w wr
 eq:l.all P=(l.drop i).all P
theorem JQ.next {w wr w2:World}{P:Tr→Bool}{l:List Tr}{i:Nat}{y:Tr}(q:JQ w P l i wr)(hy:l[i]?=some y)(hok:P y=true)(hb:Below wr.heap.size wr w2):JQ w P l (i+1) w2:=
 ⟨q.below.trans (hb.mono q.below.size),by rw[q.eq,l6 hy,hok,Bool.true_and]⟩
theorem JQ.stop {w wr:World}{P:Tr→Bool}{l:List Tr}{i:Nat}{y:Tr}(q:JQ w P l i wr)(hy:l[i]?=some y)(hok:P y=false):l.all P=false:=by rw[q.eq,l6 hy,hok,Bool.false_and]
theorem aa1 {wr:World}{o1 o2:Array Value}{t:TypeId}:∀W,Below (wr.heap.size+2) ((wr.alloc (.cells o1 t)).alloc (.cells o2 t)) W→(∀j,W.cell? ⟨wr.heap.size,j,none⟩=o1[j]?)∧(∀j,W.cell? ⟨wr.heap.size+1,j,none⟩=o2[j]?):=fun W h=>by
 have m1:=(h.block wr.heap.size aG).trans (dh (aR wr (.cells o1 t)) (.cells o2 t));have e2:=aR (wr.alloc (.cells o1 t)) (.cells o2 t);rw[World.size_alloc]at e2;have m2:=(h.block (wr.heap.size+1) aG).trans e2;exact⟨fun j=>aj m1 j,fun j=>aj m2 j⟩
theorem afj (s:ByteArray)(l:List Tr)(A:Option Addr)(c:Nat)(w:World)(hf:Fit ⟨64,s,0,l⟩)(hr:Rd w ⟨64,s,0,l⟩ A c)(hbig:l.length≤1099511627776)(hv:eG s=true)(hl:0<l.length):
  Calls Tryz.prog 59 #[.agg #[.int .i64 64,.string s,.int .i64 0,.slice A l.length c]] w (aH w (l.all (okF s 0 l.length))):=by
 refine Vy ?_;intro HV;have HB0:=hide (au (Below.refl w.heap.size w) (.cells #[.int .i64 64,.string s,.int .i64 0,.slice A l.length c] 24));refine Ip ?_;intro jF PE len hlen hlb hl0 HL;obtain⟨P,hP⟩:∃P,okF s 0 len=P:=⟨_,rfl⟩;have HP:=hide hP;obtain⟨z1,hz1⟩:∃z,decide ((1:Int)<(len:Int))=z:=⟨_,rfl⟩;have hz1':decide (1<len)=z1:=by rw[←hz1,Bool.eq_iff_iff];simp only[decide_eq_true_eq];omega
 obtain⟨z2,hz2⟩:∃z,(s.toList==[])=z:=⟨_,rfl⟩;have hz2':s.toList.isEmpty=z2:=by rw[←hz2];cases s.toList<;>rfl
 rw[hlen]at HB0⊢;rw[hP];have HZ1:=hide hz1';clear hf hr hbig hlen hv hl hP hz1';go_enter Tryz.func59,Tryz.ntmps59;go_wp2_with (go_at_call 107;refine(HV.out _ HB0.out).mono ?_;rintro e w1 ⟨rfl,h1⟩;obtain⟨c10,c11,c12,c13,hb⟩:=ji h1;have HB1:=hide hb;clear h1 hb);refine WA ?_;intro dI Q0;clear c10 c11 c12 c13;go_loopg [35] (len+1) (fun gk v35 wr=>∃i:Nat,i≤len∧len-i<gk∧v35= .int .i64 i∧Aside0 (JQ w P l i wr∧Below w1.heap.size w1 wr))
 case atStart=>exact⟨0,Nat.zero_le _,aG,rfl,Q0⟩
 case round=>
  obtain⟨i,hi,lS,rfl,Q⟩:=hrel;clear Q0;by_cases hlt:i<len
  ·refine l7 ?_
   intro eY y hy;obtain⟨ad,A',c',rfl,dR,k0,k1,k2,k3⟩:=(PE.out.below Q.out.1.below).kid hy;have g_:=jF.out.kid (bZ (x:=(⟨64,s,0,l⟩:Tr)) hy);have HY:=hide hy;have kC:=hide dR;have Jo:=hide g_;have jL:=hide (fun w2 h hb=>Q.out.1.next (w2:=w2) hy h hb);have HST:=hide (Q.out.1.stop hy);obtain⟨yk,ys,yn,yl⟩:=y;simp only at k0 k1 k2 k3;have qK:=hide (fun W h=>pF (x:=⟨yk,ys,yn,yl⟩) g_ dR (W2:=W) h);have FE:=hide (fun W h=>vN (x:=⟨yk,ys,yn,yl⟩) g_ dR (W2:=W) h);simp only at qK FE;obtain⟨zk,vO⟩:∃z,(yk != 65)=z:=⟨_,rfl⟩;obtain⟨zn,hzn⟩:∃z,(yn != 0)=z:=⟨_,rfl⟩;obtain⟨zp,iO⟩:∃z,eP ys=!z:=⟨!eP ys,by simp⟩;obtain⟨zi,hzi⟩:∃z,nH ys=!z:=⟨!nH ys,by simp⟩;obtain⟨zs,hzs⟩:∃z,(ys.toList==[42])=z:=⟨_,rfl⟩;obtain⟨zt,Ec⟩:∃z,toB ys yl=z:=⟨_,rfl⟩;rw[iO]at qK;rw[hzi]at FE
   have iy:=hide (show P (⟨yk,ys,yn,yl⟩:Tr)=((!zk&&(!zn&&zt))&&(if zs=true then !z1&&(!z2&&true)else !zp&&!(z2&&zi)))from by
    rw[←HP.out];unfold okF pG;simp only;rw[hzs,Ec,iO,hzi,HZ1.out,hz2',←vO,←hzn];simp[bne])
   exact aiu
  ·exact adj
theorem afk (s:ByteArray)(l:List Tr)(A:Option Addr)(c:Nat)(w:World)(hf:Fit ⟨64,s,1,l⟩)(hr:Rd w ⟨64,s,1,l⟩ A c)(hbig:l.length≤1099511627776)(hv:eG s=true)(hl:0<l.length):
  Calls Tryz.prog 59 #[.agg #[.int .i64 64,.string s,.int .i64 1,.slice A l.length c]] w (aH w (l.all (okF s 1 l.length))):=by
 refine Vy ?_;intro HV;have HB0:=hide (au (Below.refl w.heap.size w) (.cells #[.int .i64 64,.string s,.int .i64 1,.slice A l.length c] 24));refine Ip ?_;intro jF PE len hlen hlb hl0 HL;obtain⟨P,hP⟩:∃P,okF s 1 len=P:=⟨_,rfl⟩;have HP:=hide hP;obtain⟨z1,hz1⟩:∃z,decide ((1:Int)<(len:Int))=z:=⟨_,rfl⟩;have hz1':decide (1<len)=z1:=by rw[←hz1,Bool.eq_iff_iff];simp only[decide_eq_true_eq];omega
 obtain⟨z2,hz2⟩:∃z,(s.toList==[])=z:=⟨_,rfl⟩;have hz2':s.toList.isEmpty=z2:=by rw[←hz2];cases s.toList<;>rfl
 rw[hlen]at HB0⊢;rw[hP];have HZ1:=hide hz1';clear hf hr hbig hlen hv hl hP hz1';go_enter Tryz.func59,Tryz.ntmps59;go_wp2_with (go_at_call 107;refine(HV.out _ HB0.out).mono ?_;rintro e w1 ⟨rfl,h1⟩;obtain⟨c10,c11,c12,c13,hb⟩:=ji h1;have HB1:=hide hb;clear h1 hb);refine WA ?_;intro dI Q0;clear c10 c11 c12 c13;go_loopg [35] (len+1) (fun gk v35 wr=>∃i:Nat,i≤len∧len-i<gk∧v35= .int .i64 i∧Aside0 (JQ w P l i wr∧Below w1.heap.size w1 wr))
 case atStart=>exact⟨0,Nat.zero_le _,aG,rfl,Q0⟩
 case round=>
  obtain⟨i,hi,lS,rfl,Q⟩:=hrel;clear Q0;by_cases hlt:i<len
  ·refine l7 ?_
   intro eY y hy;obtain⟨ad,A',c',rfl,dR,k0,k1,k2,k3⟩:=(PE.out.below Q.out.1.below).kid hy;have g_:=jF.out.kid (bZ (x:=(⟨64,s,1,l⟩:Tr)) hy);have HY:=hide hy;have kC:=hide dR;have Jo:=hide g_;have jL:=hide (fun w2 h hb=>Q.out.1.next (w2:=w2) hy h hb);have HST:=hide (Q.out.1.stop hy);obtain⟨yk,ys,yn,yl⟩:=y;simp only at k0 k1 k2 k3;have qK:=hide (fun W h=>pF (x:=⟨yk,ys,yn,yl⟩) g_ dR (W2:=W) h);have FE:=hide (fun W h=>vN (x:=⟨yk,ys,yn,yl⟩) g_ dR (W2:=W) h);simp only at qK FE;obtain⟨zk,vO⟩:∃z,(yk != 65)=z:=⟨_,rfl⟩;obtain⟨zn,hzn⟩:∃z,(yn != 0)=z:=⟨_,rfl⟩;obtain⟨zp,iO⟩:∃z,eP ys=!z:=⟨!eP ys,by simp⟩;obtain⟨zi,hzi⟩:∃z,nH ys=!z:=⟨!nH ys,by simp⟩;obtain⟨zs,hzs⟩:∃z,(ys.toList==[42])=z:=⟨_,rfl⟩;obtain⟨zt,Ec⟩:∃z,toB ys yl=z:=⟨_,rfl⟩;rw[iO]at qK;rw[hzi]at FE
   have iy:=hide (show P (⟨yk,ys,yn,yl⟩:Tr)=((!zk&&(!zn&&zt))&&(if zs=true then !z1&&(!z2&&false)else !zp&&!(z2&&zi)))from by
    rw[←HP.out];unfold okF pG;simp only;rw[hzs,Ec,iO,hzi,HZ1.out,hz2',←vO,←hzn];simp[bne])
   exact aiu
  ·exact adj
theorem afl (k:Int)(s:ByteArray)(n:Int)(A:Option Addr)(len c:Nat)(w:World)(v:Bool)(z0 z1 z2 y:Bool)(hz0:(k != 64)=z0)(hz1:(n != 0)=z1)(hz2:(n != 1)=z2)(hy:((len:Int)==0)=y)(hbad:(z0||((z1&&z2)||(!v||y)))=true)
  (hV:∀W,Below w.heap.size w W→Calls Tryz.prog 107 #[.string s] W (aH W v)):
  Calls Tryz.prog 59 #[.agg #[.int .i64 k,.string s,.int .i64 n,.slice A len c]] w (aH w false):=by
 have HV:=hide hV;have HBAD:=hide hbad;clear hV hbad;refine GD ?_;intro HB0;go_enter Tryz.func59,Tryz.ntmps59;exact adi
theorem RH (x:Tr)(hf:Fit x)(A:Option Addr)(c:Nat)(w:World)(hr:Rd w x A c)(hbig:x.f3.length≤1099511627776):Calls Tryz.prog 59 #[nd x A c] w (aH w (uD x)):=by
 obtain⟨k,s,n,l⟩:=x;have hbig':l.length≤1099511627776:=hbig;have HV:=fun W (h:Below w.heap.size w W)=>qG s W Jd (hr.below h).tab
 cases hg:(k==64&&((n==0||n==1)&&(eG s&&!l.isEmpty)))with
 |false=>
  refine aK (b:=false) (by unfold uD;simp only;rw[hg];rfl) (afl k s n A l.length c w (eG s) _ _ _ _ rfl rfl rfl (lH l) ?_ HV);revert hg;generalize eG s=v;generalize l.isEmpty=e
  cases(decEq k 64)<;>cases(decEq n 0)<;>cases(decEq n 1)<;>cases v<;>cases e<;>simp_all
 |true=>
  have hb:uD (⟨k,s,n,l⟩:Tr)=l.all (okF s n l.length):=by unfold uD;simp only;rw[hg];rfl
  simp only[Bool.and_eq_true,beq_iff_eq,Bool.or_eq_true,Bool.not_eq_true']at hg;obtain⟨rfl,hn,hv,he⟩:=hg
  have hl:0<l.length:=by
   cases l with
   |nil=>simp at he
   |cons a l=>simp
  rw[hb];rcases hn with rfl|rfl
  ·exact afj s l A c w hf hr hbig' hv hl
  ·exact afk s l A c w hf hr hbig' hv hl
def yN (x:Tr):Bool:=x.f0==67&&(eP x.f1&&(x.f2==0&&QR [(.nm,.E)] x.f3))
def oN (x:Tr):Bool:=x.f0==66&&(nH x.f1&&(x.f2==0&&x.f3.all yN))
def oO (x:Tr):Bool:=if x.f0=42 then l8 x else if x.f0=46 then(nH x.f1&&x.f2==0)&&QR [(.i,.T)] x.f3 else if x.f0=60 then z_ x else if x.f0=64 then uD x else Q .S x
def BN (y:Tr):Bool:=(y.f0==40||(y.f0==41||(y.f0==42||y.f0==46)))&&oO y
def BO (y:Tr):Bool:=Q .E y||((y.f0==41||y.f0==42)&&oO y)
def yO (P:Tr→Bool)(l:List Tr):Bool:=rO [P] l
def iP (x:Tr):Bool:=if x.f0=62 then lT x.f1 x.f2&&yO BN x.f3 else if x.f0=63 then lT x.f1 x.f2&&yO BO x.f3 else oO x
def foB (y:Tr):Bool:=Q .S y||(l8 y||oN y)
def eT (x:Tr):Int:=
 if x.f0=68 then(if lT x.f1 x.f2&&(x.f3.all iP&&!l9 x)then 5 else 0)
 else if x.f0=69 then(if lT x.f1 x.f2&&x.f3.all foB then 6 else 0)
 else if Q .E x then 1 else if Q .T x then 2 else if Q .S x then 3 else if iP x then 4 else 0
def jA (K:Nat)(P:Tr→Bool):Prop:=∀x:Tr,Fit x→∀A c W,Rd W x A c→Calls Tryz.prog K #[nd x A c] W (aH W (P x))
theorem tlE:jA 35 (Q .E):=fun x hf A c W hr=>(uo _).E x (Nat.le_refl _) hf A c W hr
theorem tlT:jA 36 (Q .T):=fun x hf A c W hr=>(uo _).T x (Nat.le_refl _) hf A c W hr
theorem tlS:jA 32 (Q .S):=fun x hf A c W hr=>(uo _).S x (Nat.le_refl _) hf A c W hr
theorem U1 {K:Nat}{P:Tr→Bool}(he:Enters Tryz.prog K)(hT:jA K P){x:Tr}(hf:Fit x)(A:Option Addr)(c:Nat)(W:World)(hr:Rd W x A c):Calls Tryz.prog 28 #[.slice A x.f3.length c,D9 K] W (aH W (x.f3.all P)):=
 BG K he x.f3 P hf.len A c W hr.kids hr.tab (fun y hy A2 c2 W2 _ hr2=>hT y (hf.kid hy) A2 c2 W2 hr2)
theorem PG {K:Nat}{P:Tr→Bool}(he:Enters Tryz.prog K)(hT:jA K P){x:Tr}(hf:Fit x)(A:Option Addr)(c:Nat)(W:World)(hr:Rd W x A c):
  Calls Tryz.prog 55 #[nd x A c,.slice (some ⟨W.heap.size,0,none⟩) 1 1] (W.alloc (.cells #[D9 K] 39)) (aH W (yO P x.f3)):=
 yG x [((⟨K,none⟩:FV),P)] 39 hf.len qo (fun f h=>by rw[List.mem_singleton.1 h];exact he) A c W hr (fun i f y hi hy=>by
  cases i with
  |zero=>
   simp only[List.getElem?_cons_zero,Option.some.injEq]at hi;subst hi;intro A2 c2 W2 _ hr2;exact hT y (hf.kid (bZ hy)) A2 c2 W2 hr2
  |succ i=>simp at hi)
theorem PI (t:Wr×Co)(l:List Tr):QR [t] l=yO (wq t) l:=by rw[vZ];rfl
theorem aiv:jA 69 (wq (.nm,.E)):=fun x hf A c W hr=>ae' (uo _) x (Nat.le_refl _) hf A c W hr
theorem anr:jA 36 (wq (.i,.T)):=fun x hf A c W hr=>tlT x hf A c W hr
theorem aiw:Enters Tryz.prog 68:=en Tryz.func68 dL rfl
theorem enI:Enters Tryz.prog 29:=en Tryz.func29 dL rfl
theorem ant:Enters Tryz.prog 57:=en Tryz.func57 dL rfl
theorem anu:Enters Tryz.prog 58:=en Tryz.func58 dL rfl
theorem anv:Enters Tryz.prog 31:=en Tryz.func31 dL rfl
theorem aix:jA 68 yN:=fun x hf A c W hr=>by
 obtain⟨k,s,n,l⟩:=x;exact amW k s n A l.length c W _ _ _ rfl _ rfl (fun W2 h=>pF hf hr h) (fun W2 h=>by rw[PI];exact PG ae8 aiv hf A c W2 (hr.below h))
theorem anw:jA 34 oN:=fun x hf A c W hr=>by
 obtain⟨k,s,n,l⟩:=x;exact wsp k s n A l.length c W _ _ _ rfl _ rfl (fun W2 h=>vN hf hr h) (fun W2 h=>U1 aiw aix hf A c W2 (hr.below h))
theorem tlC:jA 33 l8:=fun x hf A c W hr=>MS x hf A c W hr hf.len2
theorem MX (x:Tr)(hf:Fit x)(A:Option Addr)(c:Nat)(W:World)(hr:Rd W x A c)(h1:x.f0≠62)(h2:x.f0≠63):Calls Tryz.prog 29 #[nd x A c] W (aH W (oO x)):=by
 obtain⟨k,s,n,l⟩:=x;simp only at h1 h2;unfold oO;simp only;have HL:=fun k W2=>bI k s n A l.length c W2;by_cases lV:k=42
 ·subst lV;simp only[reduceIte];exact amX s n A l.length c W _ _ (fun W2 _=>HL _ W2) (fun W2 h=>tlC _ hf A c W2 (hr.below h))
 by_cases h46:k=46
 ·subst h46;simp only[reduceIte,Int.reduceEq];exact amY s n A l.length c W _ _ _ _ rfl (fun W2 _=>HL _ W2) (fun W2 h=>vN (x:=⟨46,s,n,l⟩) hf hr h) (fun W2 h=>by rw[PI];exact PG (x:=⟨46,s,n,l⟩) enT anr hf A c W2 (hr.below h))
 by_cases mh:k=60
 ·subst mh;simp only[reduceIte,Int.reduceEq];exact amZ s n A l.length c W _ _ (fun W2 _=>HL _ W2) (fun W2 h=>UU _ hf A c W2 (hr.below h) hf.len2)
 by_cases h64:k=64
 ·subst h64;simp only[reduceIte,Int.reduceEq];exact am2 s n A l.length c W _ _ (fun W2 _=>HL _ W2) (fun W2 h=>RH _ hf A c W2 (hr.below h) hf.len2)
 simp only[lV,h46,mh,h64,if_false];exact wid k s n A l.length c W _ _ (by simpa using lV) (by simpa using h46) (by simpa using mh) Zu wz (by simpa using h64) (fun W2 _=>HL _ W2) (fun W2 h=>tlS _ hf A c W2 (hr.below h))
theorem anx:jA 57 BN:=fun x hf A c W hr=>by
 obtain⟨k,s,n,l⟩:=x;by_cases hk:k=40∨k=41∨k=42∨k=46
 ·exact wix k s n A l.length c W _ _ rfl _ rfl _ rfl _ rfl (fun W2 h=>MX _ hf A c W2 (hr.below h) bN bN)
 ·have n0:(k==40)=false:=Oi
  have n1:(k==41)=false:=Oi;have n2:(k==42)=false:=Oi;have n3:(k==46)=false:=Oi;exact aK (by unfold BN;simp only;rw[n0,n1,n2,n3];rfl) (am3 k s n A l.length c W n0 n1 n2 n3)
theorem anz:jA 58 BO:=fun x hf A c W hr=>by
 obtain⟨k,s,n,l⟩:=x;by_cases hk:k=41∨k=42
 ·exact wiy k s n A l.length c W _ _ _ rfl _ rfl (fun W2 h=>tlE _ hf A c W2 (hr.below h)) (fun W2 h=>MX _ hf A c W2 (hr.below h) bN bN)
 ·have n1:(k==41)=false:=Oi
  have n2:(k==42)=false:=Oi;exact aK (by unfold BO;simp only;rw[n1,n2];simp) (am4 k s n A l.length c W _ n1 n2 (fun W2 h=>tlE _ hf A c W2 (hr.below h)))
theorem tlI:jA 29 iP:=fun x hf A c W hr=>by
 by_cases h1:x.f0=62
 ·obtain⟨k,s,n,l⟩:=x
  simp only at h1;subst h1;exact aK (by unfold iP;simp) (am0 s n A l.length c W _ _ (fun W2 _=>bI _ s n A l.length c W2) (fun W2 h=>PG (x:=⟨62,s,n,l⟩) ant anx hf A c W2 (hr.below h)))
 by_cases h2:x.f0=63
 ·obtain⟨k,s,n,l⟩:=x
  simp only at h2;subst h2;exact aK (by unfold iP;simp) (am1 s n A l.length c W _ _ (fun W2 _=>bI _ s n A l.length c W2) (fun W2 h=>PG (x:=⟨63,s,n,l⟩) anu anz hf A c W2 (hr.below h)))
 exact aK (by unfold iP;rw[if_neg h1,if_neg h2]) (MX x hf A c W hr h1 h2)
theorem anA:jA 31 foB:=fun x hf A c W hr=>by
 obtain⟨k,s,n,l⟩:=x;exact wfo k s n A l.length c W _ _ _ (fun W2 h=>tlS _ hf A c W2 (hr.below h)) (fun W2 h=>tlC _ hf A c W2 (hr.below h)) (fun W2 h=>anw _ hf A c W2 (hr.below h))
def Dv (w:World)(r:Int)(e:Ending)(w':World):Prop:=e= .returned (.int .i64 r)∧Below w.heap.size w w'
theorem qL {K:Nat}{args:Array Value}{w:World}{b b':Int}(e:b=b')(h:Calls Tryz.prog K args w (Dv w b)):Calls Tryz.prog K args w (Dv w b'):=e▸h
theorem fq {a b:Int}(h:a=b):Ending.returned (.int .i64 a)=Ending.returned (.int .i64 b):=by rw[h]
section
variable (s:ByteArray) (n:Int) (A:Option Addr) (len c:Nat) (w:World)
theorem anB (p q r:Bool)
  (hp:∀W,Below w.heap.size w W→Calls Tryz.prog 27 #[.agg #[.int .i64 68,.string s,.int .i64 n,.slice A len c],.bool false,.bool false] W (aH W p))
  (hq:∀W,Below w.heap.size w W→Calls Tryz.prog 28 #[.slice A len c,.func (.func 29) #[] #[]] W (aH W q))
  (hr:∀W,Below w.heap.size w W→Calls Tryz.prog 30 #[.agg #[.int .i64 68,.string s,.int .i64 n,.slice A len c]] W (aH W r)):
  Calls Tryz.prog 18 #[.agg #[.int .i64 68,.string s,.int .i64 n,.slice A len c]] w (Dv w (if p&&(q&&r)then 5 else 0)):=by
 have Hp:=hide hp;have Hq:=hide hq;have Hr:=hide hr;clear hp hq hr;have HB0:=hide (au (Below.refl w.heap.size w) (.cells #[.int .i64 68,.string s,.int .i64 n,.slice A len c] 24));go_enter Tryz.func18,Tryz.ntmps18;go_wp2_with (first|(go_at_call 27;refine(Hp.out _ HB0.out).mono ?_;rintro e w1 ⟨rfl,h1⟩;obtain⟨c10,c11,c12,c13,hb⟩:=ji h1;have HB1:=hide hb;clear h1 hb)|(go_at_call 28;refine(Hq.out _ HB1.out).mono ?_;rintro e w2 ⟨rfl,h2⟩;have c20:=ak h2 c10;have c21:=ak h2 c11;have tH:=ak h2 c12;have c23:=ak h2 c13;have HB2:=hide (HB1.out.trans (h2.mono HB1.out.size));clear h2)|(go_at_call 30;refine(Hr.out _ HB2.out).mono ?_;rintro e w3 ⟨rfl,h3⟩;have Rz:=ak h3 c20;have c31:=ak h3 c21;have c32:=ak h3 tH;have RA:=ak h3 c23;have HB3:=hide (HB2.out.trans (h3.mono HB2.out.size));clear h3))
 all_goals
  go_ret
  first|exact⟨fq MK,HB3.out⟩|exact⟨fq MK,HB2.out⟩|exact⟨fq MK,HB1.out⟩|exact⟨fq MK,HB0.out⟩
theorem anC (p q:Bool)
  (hp:∀W,Below w.heap.size w W→Calls Tryz.prog 27 #[.agg #[.int .i64 69,.string s,.int .i64 n,.slice A len c],.bool false,.bool false] W (aH W p))
  (hq:∀W,Below w.heap.size w W→Calls Tryz.prog 28 #[.slice A len c,.func (.func 31) #[] #[]] W (aH W q)):
  Calls Tryz.prog 18 #[.agg #[.int .i64 69,.string s,.int .i64 n,.slice A len c]] w (Dv w (if p&&q then 6 else 0)):=by
 have Hp:=hide hp;have Hq:=hide hq;clear hp hq;have HB0:=hide (au (Below.refl w.heap.size w) (.cells #[.int .i64 69,.string s,.int .i64 n,.slice A len c] 24));go_enter Tryz.func18,Tryz.ntmps18;go_wp2_with (first|(go_at_call 27;refine(Hp.out _ HB0.out).mono ?_;rintro e w1 ⟨rfl,h1⟩;obtain⟨c10,c11,c12,c13,hb⟩:=ji h1;have HB1:=hide hb;clear h1 hb)|(go_at_call 28;refine(Hq.out _ HB1.out).mono ?_;rintro e w2 ⟨rfl,h2⟩;have c20:=ak h2 c10;have c21:=ak h2 c11;have tH:=ak h2 c12;have c23:=ak h2 c13;have HB2:=hide (HB1.out.trans (h2.mono HB1.out.size));clear h2))
 all_goals
  go_ret
  first|exact⟨fq MK,HB2.out⟩|exact⟨fq MK,HB1.out⟩|exact⟨fq MK,HB0.out⟩
theorem wfx (k:Int)(p q r t:Bool)(n68:(k==68)=false)(n69:(k==69)=false)
  (hp:∀W,Below w.heap.size w W→Calls Tryz.prog 35 #[.agg #[.int .i64 k,.string s,.int .i64 n,.slice A len c]] W (aH W p))
  (hq:∀W,Below w.heap.size w W→Calls Tryz.prog 36 #[.agg #[.int .i64 k,.string s,.int .i64 n,.slice A len c]] W (aH W q))
  (hr:∀W,Below w.heap.size w W→Calls Tryz.prog 32 #[.agg #[.int .i64 k,.string s,.int .i64 n,.slice A len c]] W (aH W r))
  (ht:∀W,Below w.heap.size w W→Calls Tryz.prog 29 #[.agg #[.int .i64 k,.string s,.int .i64 n,.slice A len c]] W (aH W t)):
  Calls Tryz.prog 18 #[.agg #[.int .i64 k,.string s,.int .i64 n,.slice A len c]] w (Dv w (if p then 1 else if q then 2 else if r then 3 else if t then 4 else 0)):=by
 have Hp:=hide hp;have Hq:=hide hq;have Hr:=hide hr;have Ht:=hide ht;clear hp hq hr ht;refine GD ?_;intro HB0;go_enter Tryz.func18,Tryz.ntmps18;go_wp2_with (first|(go_at_call 35;refine(Hp.out _ HB0.out).mono ?_;rintro e w1 ⟨rfl,h1⟩;obtain⟨c10,c11,c12,c13,hb⟩:=ji h1;have HB1:=hide hb;clear h1 hb)|(go_at_call 36;refine(Hq.out _ HB1.out).mono ?_;rintro e w2 ⟨rfl,h2⟩;have c20:=ak h2 c10;have c21:=ak h2 c11;have tH:=ak h2 c12;have c23:=ak h2 c13;have HB2:=hide (HB1.out.trans (h2.mono HB1.out.size));clear h2)|(go_at_call 32;refine(Hr.out _ HB2.out).mono ?_;rintro e w3 ⟨rfl,h3⟩;have Rz:=ak h3 c20;have c31:=ak h3 c21;have c32:=ak h3 tH;have RA:=ak h3 c23;have HB3:=hide (HB2.out.trans (h3.mono HB2.out.size));clear h3)|(go_at_call 29;refine(Ht.out _ HB3.out).mono ?_;rintro e w4 ⟨rfl,h4⟩;have c40:=ak h4 Rz;have c41:=ak h4 c31;have c42:=ak h4 c32;have c43:=ak h4 RA;have jV:=hide (HB3.out.trans (h4.mono HB3.out.size));clear h4))
 all_goals
  go_ret
  first|exact⟨fq MK,jV.out⟩|exact⟨fq MK,HB3.out⟩|exact⟨fq MK,HB2.out⟩|exact⟨fq MK,HB1.out⟩|exact⟨fq MK,HB0.out⟩
end
theorem Ed (x:Tr)(hf:Fit x)(A:Option Addr)(c:Nat)(W:World)(hr:Rd W x A c):Calls Tryz.prog 18 #[nd x A c] W (Dv W (eT x)):=by
 obtain⟨k,s,n,l⟩:=x;by_cases h68:k=68
 ·subst h68
  exact qL (by unfold eT;simp) (anB s n A l.length c W _ _ _ (fun W2 _=>bI _ s n A l.length c W2) (fun W2 h=>U1 (x:=⟨68,s,n,l⟩) enI tlI hf A c W2 (hr.below h)) (fun W2 h=>RG _ _ (Nat.le_refl _) hf A c W2 (hr.below h)))
 by_cases h69:k=69
 ·subst h69
  exact qL (by unfold eT;simp) (anC s n A l.length c W _ _ (fun W2 _=>bI _ s n A l.length c W2) (fun W2 h=>U1 (x:=⟨69,s,n,l⟩) anv anA hf A c W2 (hr.below h)))
 exact qL (by unfold eT;simp only;rw[if_neg h68,if_neg h69]) (wfx s n A l.length c W k _ _ _ _ (by simpa using h68) (by simpa using h69) (fun W2 h=>tlE _ hf A c W2 (hr.below h)) (fun W2 h=>tlT _ hf A c W2 (hr.below h)) (fun W2 h=>tlS _ hf A c W2 (hr.below h)) (fun W2 h=>tlI _ hf A c W2 (hr.below h)))
end Go.Proofs.YtldgmneijipbjaaGreatDoor.H
