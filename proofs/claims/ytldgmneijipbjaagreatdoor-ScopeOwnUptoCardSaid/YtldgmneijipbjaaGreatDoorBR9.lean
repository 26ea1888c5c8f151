import Derived.Test.YtldgmneijipbjaaGreatDoorBR8
import Derived.Test.YtldgmneijipbjaaGreatDoorBF0
import Derived.Test.YtldgmneijipbjaaGreatDoorBS12
import Derived.Test.YtldgmneijipbjaaGreatDoorBMac
set_option linter.unusedVariables false
set_option linter.unusedSimpArgs false
set_option maxRecDepth 100000
set_option maxHeartbeats 16000000
namespace Go.Proofs.YtldgmneijipbjaaGreatDoor.H
open Go.RowKit Go.Shelf Go.Proofs.YtldgmneijipbjaaGreatDoorW.PrintWords Go.Proofs.YtldgmneijipbjaaGreatDoorW.PrintLast Go.Proofs.YtldgmneijipbjaaGreatDoorW.PrintMore
open PScopeOwn
def sP (lo:Bool)(x:Tr):Bool:=x.f0==6&&(x.f2==0&&(x.f3.isEmpty&&(nH x.f1||(lo&&eP x.f1))))
theorem akr (x:Tr):wq (.nm,.E) x=sP false x:=by
 obtain⟨k,s,n,l⟩:=x;unfold wq sP BH;simp only;by_cases h:k=6
 ·subst h
  rw[Q];simp only[reduceIte,Int.reduceEq,or_self,or_true,true_or,or_false,false_or,qH]
  cases(n==0)<;>cases nH s<;>cases l.isEmpty<;>rfl
 ·rw[show(k==6)=false from by simpa using h];rfl
theorem ach {s:ByteArray}(h:nH s=true):eP s=true:=by unfold nH at h;simp only[Bool.and_eq_true]at h;exact h.1
theorem aks (t:Tr):QR [(.nm,.E)] [t]=sP false t:=by rw[QR1,akr]
theorem agU (k:Int)(s:ByteArray)(n:Int)(A:Option Addr)(len c:Nat)(w:World)(lo:Bool)(z0 z1 y p q:Bool)(hz0:(k==6)=z0)(hz1:(n==0)=z1)(hy:(∀W,Calls Tryz.prog 84 #[.agg #[.int .i64 k,.string s,.int .i64 n,.slice A len c]] W (aH W y)))
  (hp:∀W,Calls Tryz.prog 13 #[.string s] W (aH W p))(hq:∀W,Calls Tryz.prog 87 #[.string s] W (aH W q)):
  Calls Tryz.prog 96 #[.agg #[.int .i64 k,.string s,.int .i64 n,.slice A len c],.bool lo] w (aH w (z0&&(z1&&(y&&(p||(lo&&q)))))):=by
 have HY:=hide hy;have HP:=hide hp;have HQ:=hide hq;clear hy hp hq;refine GD ?_;intro HB0;go_enter Tryz.func96,Tryz.ntmps96;go_wp2_with (first|(go_at_call 84;refine(HY.out _).mono ?_;rintro e w1 ⟨rfl,h1⟩;obtain⟨c10,c11,c12,c13,hb⟩:=ji h1;have HB1:=hide hb;clear h1 hb)|(go_at_call 13;refine(HP.out _).mono ?_;rintro e w2 ⟨rfl,h2⟩;have c20:=ak h2 c10;have c21:=ak h2 c11;have tH:=ak h2 c12;have c23:=ak h2 c13;have HB2:=hide (HB1.out.trans (h2.mono HB1.out.size));clear h2)|(go_at_call 87;refine(HQ.out _).mono ?_;rintro e w3 ⟨rfl,h3⟩;have HB3:=hide (HB2.out.trans (h3.mono HB2.out.size));clear h3))
 all_goals
  go_ret
  first|exact⟨aI MK,HB3.out⟩|exact⟨aI MK,HB2.out⟩|exact⟨aI MK,HB1.out⟩|exact⟨aI MK,HB0.out⟩
theorem zx (x:Tr)(hf:Fit x)(lo:Bool)(A:Option Addr)(c:Nat)(W:World):Calls Tryz.prog 96 #[nd x A c,.bool lo] W (aH W (sP lo x)):=by
 obtain⟨k,s,n,l⟩:=x;exact agU k s n A l.length c W lo _ _ _ _ _ rfl rfl (fun W2=>jG k s n A l c W2) (fun W2=>jy s Bz W2) (fun W2=>m_ s Bz W2)
structure SQ (w w0:World)(E:Nat→Bool)(i:Nat)(wr:World):Prop where
 b0:Below w.heap.size w wr
 b1:Below (w.heap.size+1) w0 wr
 sz:w.heap.size+1≤wr.heap.size
 eq:E 0=E i
theorem SQ.next {w w0 wr w2:World}{E:Nat→Bool}{i:Nat}(q:SQ w w0 E i wr){b:Bool}(he:E i=(b&&E (i+1)))(hok:b=true)(hb:Below wr.heap.size wr w2):SQ w w0 E (i+1) w2:=by
 subst hok;exact⟨q.b0.trans (hb.mono q.b0.size),q.b1.trans (hb.mono q.sz),Nat.le_trans q.sz hb.size,by rw[q.eq,he,Bool.true_and]⟩
theorem SQ.stop {w w0 wr:World}{E:Nat→Bool}{i:Nat}(q:SQ w w0 E i wr){b:Bool}(he:E i=(b&&E (i+1)))(hok:b=false):E 0=false:=by rw[q.eq,he,hok,Bool.false_and]
def okJ (len:Nat)(fs:ByteArray)(i:Nat)(y:Tr):Bool:=(y.f0==61&&(y.f2==0&&QR [(.nm,.E)] y.f3))&&
 (if pG y.f1 then !decide (1<i)&&(!(i==1&&!MV fs)&&!decide (i+1<len))else eP y.f1)
def vL (n:Int)(len:Nat)(fs:ByteArray):Nat→Bool→List Tr→Bool
 |_,t,[]=>n==0||(decide (0<len)&&!t)
 |i,t,y::l=>okJ len fs i y&&vL n len fs (i+1) (t||pG y.f1) l
theorem Zj (n:Int)(len:Nat)(fs:ByteArray)(hn:(n==0)=false):∀(l:List Tr) (i:Nat),vL n len fs i true l=false
 |[],i=>by simp[vL,hn]
 |y::l,i=>by rw[vL,Bool.true_or,Zj n len fs hn l (i+1),Bool.and_false]
theorem AU (n:Int)(len:Nat)(fs:ByteArray)(hn:n=0∨n=1)(h1:n=1→0<len):∀(l:List Tr) (i:Nat) (t:Bool),i+l.length=len→(n=1→t=false)→vL n len fs i t l=nR n len fs i l
 |[],i,t,_,ht=>by
  rw[vL,nR];rcases hn with rfl|rfl
  ·rfl
  ·rw[ht rfl];simp[h1 rfl]
 |y::l,i,t,hl,ht=>by
  rw[vL,nR];have hle:i+1≤len:=by simp at hl;omega
  have e1:(i+1==len)=!decide (i+1<len):=by rw[Bool.eq_iff_iff];simp;omega
  unfold okJ Tp;rw[e1]
  cases hs:pG y.f1 with
  |false=>
   rw[Bool.or_false,AU n len fs hn h1 l (i+1) t (by simp at hl;omega) ht];simp
  |true=>
   rcases hn with rfl|rfl
   ·rw[AU 0 len fs (.inl rfl) h1 l (i+1) (t||true) (by simp at hl;omega) qo]
    simp only[if_true,show((0:Int)==1)=false from rfl,Bool.not_false,Bool.true_and]
    congr 2
    cases decide (1<i)<;>cases(i==1&&!MV fs)<;>cases decide (i+1<len)<;>rfl
   ·rw[Bool.or_true,Zj 1 len fs wN]
    simp
def yj (l:List Tr):Bool:=l.any fun y=>pG y.f1
theorem EH {l:List Tr}{i:Nat}{y:Tr}(h:l[i]?=some y):yj (l.take (i+1))=(yj (l.take i)||pG y.f1):=by
 have hi:=(List.getElem?_eq_some_iff.1 h).1;unfold yj;rw[List.take_succ_eq_append_getElem hi,(List.getElem?_eq_some_iff.1 h).2,List.any_append];simp
theorem Zk (ys:ByteArray)(t:Tr):toB ys [t]=(gT t||(sP true t&&!(t.f1.toList==ys.toList))):=by
 unfold toB UW sP;simp only[Bool.true_and]
 have:(nH t.f1||eP t.f1)=eP t.f1:=by
  cases h:nH t.f1 with
  |true=>rw[ach h];rfl
  |false=>rfl
 rw[this]
 cases gT t<;>cases(t.f0==6)<;>cases(t.f2==0)<;>cases t.f3.isEmpty<;>cases eP t.f1<;>cases(t.f1.toList==ys.toList)<;>rfl
theorem akt (s:ByteArray)(l:List Tr)(hf:Fit ⟨66,s,0,l⟩)(A:Option Addr)(c:Nat)(w:World)(hr:Rd w ⟨66,s,0,l⟩ A c)(hid:nH s=true):
  Calls Tryz.prog 47 #[.agg #[.int .i64 66,.string s,.int .i64 0,.slice A l.length c]] w (aH w (l.all yN)):=by
 refine UR ?_;intro hl HC HTAB;have qm:=hide (fun y (hy:y∈l)=>hf.kid (x:=(⟨66,s,0,l⟩:Tr)) hy);have C_:=hide (fun W (_:Below w.heap.size w W)=>aK hid (jy s Bz W));have HB0:=hide (au (Below.refl w.heap.size w) (.cells #[.int .i64 66,.string s,.int .i64 0,.slice A l.length c] 24));obtain⟨E,hE⟩:∃E:Nat→Bool,(fun i=>(l.drop i).all yN)=E:=⟨_,rfl⟩;have HE:=hide hE;obtain⟨r,hres⟩:∃r,(l.all yN)=r:=⟨_,rfl⟩;have fH:=hide (show r=E 0 from by rw[←hres,←hE];simp);rw[hres];refine uj ?_;intro len hlen HL hlb;simp only[hlen]at HC;rw[hlen]at HB0⊢;have dI:=hide (fF 66 s 0 A len c w);clear hf hr hlen hl hE hres hid;go_enter Tryz.func47,Tryz.ntmps47;go_wp2_with (go_at_call 13;refine(C_.out _ HB0.out).mono ?_;rintro e w1 ⟨rfl,h1⟩;have HW1:=hide (show Below (w.heap.size+1) (w.alloc (.cells #[.int .i64 66,.string s,.int .i64 0,.slice A len c] 24)) w1 from h1.mono qo);obtain⟨b0,b1,b2,b3⟩:=dI.out _ HW1.out;clear h1);have Q0:=hide (show SQ w (w.alloc (.cells #[.int .i64 66,.string s,.int .i64 0,.slice A len c] 24)) E 0 w1 from⟨HB0.out.trans (HW1.out.mono aG),HW1.out,aqS,rfl⟩);clear b0 b1 b2 b3;go_loopg [3] (len+1) (fun gk v3 wr=>∃i:Nat,i≤len∧len-i<gk∧v3= .int .i64 i∧Aside0 (SQ w (w.alloc (.cells #[.int .i64 66,.string s,.int .i64 0,.slice A len c] 24)) E i wr))
 case atStart=>exact⟨0,Nat.zero_le _,aG,rfl,Q0⟩
 case round=>
  obtain⟨i,hi,lS,rfl,J⟩:=hrel;clear Q0;refine FD ?_;intro b0 b1 b2 b3;by_cases hlt:i<len
  ·refine l7 ?_
   intro eY y hy;obtain⟨ad,A',c',rfl,dR,k0,k1,k2,k3⟩:=jO Gs (HTAB.out.below J.out.b0) hy;have g_:=qm.out y (List.mem_of_getElem? hy);have HY:=hide hy;have hst:E i=(yN y&&E (i+1)):=by rw[←HE.out];exact l6 hy
   obtain⟨yk,ys,yn,yl⟩:=y;simp only at k0 k1 k2 k3;obtain⟨zk,vO⟩:∃z,(yk != 67)=z:=⟨_,rfl⟩;obtain⟨zn,hzn⟩:∃z,(yn != 0)=z:=⟨_,rfl⟩;obtain⟨zp,iO⟩:∃z,eP ys=!z:=⟨!eP ys,qo⟩;have Mj:=hide (fun W=>m_ ys (by have:=g_.str;simp only at this;omega) W);rw[iO]at Mj;by_cases hone:yl.length=1
   ·obtain⟨t,rfl⟩:=lone hone
    obtain⟨eB,A2,c2,rfl,hra,qa⟩:=sw (x:=⟨yk,ys,yn,[t]⟩) dR (y:=t) rfl;obtain⟨pn,hpn⟩:∃p,sP false t=!p:=⟨!(sP false t),qo⟩;have S9:=hide (fun W=>show Calls Tryz.prog 96 #[nd t A2 c2,.bool false] W (aH W (!pn))from by rw[←hpn];exact zx t (g_.kid (x:=(⟨yk,ys,yn,[t]⟩:Tr)) qo) false A2 c2 W);unfold nd at S9;have iI:=hide (fun W (h:Below wr.heap.size wr W)=>show W.cell? eB=some (.int .i64 t.f0)∧W.cell? ⟨eB.block,eB.off+1,none⟩=some (.string t.f1)∧W.cell? ⟨eB.block,eB.off+2,none⟩=some (.int .i64 t.f2)∧W.cell? ⟨eB.block,eB.off+3,none⟩=some (.slice A2 t.f3.length c2)from⟨(qa.below h).1,(qa.below h).2.1,(qa.below h).2.2.1,(qa.below h).2.2.2⟩);simp only[List.length_cons,List.length_nil,Nat.zero_add]at k3;refine GH ?_;intro pV o9;obtain⟨LJ,LK,LM,LP⟩:=iI.out _ o9.out;have iy:=hide (show yN (⟨yk,ys,yn,[t]⟩:Tr)=(!zk&&(!zp&&(!zn&&!pn)))from by unfold yN;simp only;rw[iO,aks,hpn,←vO,←hzn];simp[bne]);have jL:=hide (fun w2 h1 h2=>J.out.next (w2:=w2) hst h1 h2);have HST:=hide (J.out.stop hst);clear hpn;clear hy dR g_ hst iO hra qa
    go_wp2_with (first
     |(go_at_call 87;(with_reducible refine(Mj.out _).mono ?_);rintro e w2 ⟨rfl,h2⟩;have HD2:=hide (show Below (wr.heap.size+1) _ w2 from h2.mono qo);have HB2:=hide (o9.out.trans (HD2.out.mono aG));obtain⟨y20,y21,y22,y23⟩:=pV.out _ HD2.out;obtain⟨OZ,O1,O4,O5⟩:=iI.out _ HB2.out;clear h2)
     |(go_at_call 96;(with_reducible refine(S9.out _).mono ?_);rintro e w3 ⟨rfl,h3⟩;have HB3:=hide (HB2.out.trans (h3.mono HB2.out.size));have HD3:=hide (HD2.out.trans (h3.mono wm));obtain⟨y30,y31,y32,y33⟩:=pV.out _ HD3.out;obtain⟨acd,ace,acf,acg⟩:=iI.out _ HB3.out;clear h3))
    all_goals try (go_ret;first|(refine⟨aI ?_,J.out.b0.trans (HB3.out.mono J.out.b0.size)⟩;rw[fH.out,HST.out ?_];(try rfl);(try rw[iy.out]);simp[*];done)|(refine⟨aI ?_,J.out.b0.trans (HB2.out.mono J.out.b0.size)⟩;rw[fH.out,HST.out ?_];(try rfl);(try rw[iy.out]);simp[*];done)|(refine⟨aI ?_,J.out.b0.trans (o9.out.mono J.out.b0.size)⟩;rw[fH.out,HST.out ?_];(try rfl);(try rw[iy.out]);simp[*];done))
    all_goals
     have Q2:=hide (jL.out _ gu HB3.out);go_roundg (len-i)
     case measure=>omega
     case rel=>exact⟨i+1,aG,aG,Nb,Q2⟩
   ·have h1:((yl.length:Int) != 1)=true:=Oi
    have iy:=hide (show yN (⟨yk,ys,yn,yl⟩:Tr)=(!zk&&(!zp&&(!zn&&false)))from by unfold yN;simp only;rw[iO,mI (l:=yl) (by simpa using fun e=>hone e.symm),←vO,←hzn];simp[bne]);have jL:=hide (fun w2 h1 h2=>J.out.next (w2:=w2) hst h1 h2);have HST:=hide (J.out.stop hst);obtain⟨jd,fA⟩:∃z,yl.length=z:=⟨_,rfl⟩;rw[fA]at k3 h1;have pV:=hide (fun W (h:Below (wr.heap.size+1) (wr.alloc (.cells #[.int .i64 yk,.string ys,.int .i64 yn,.slice A' jd c'] 24)) W)=>fF yk ys yn A' jd c' wr W h);have o9:=hide (au (Below.refl wr.heap.size wr) (.cells #[.int .i64 yk,.string ys,.int .i64 yn,.slice A' jd c'] 24));clear hy dR g_ hst iO fA hone
    go_wp2_with (first
     |(go_at_call 87;(with_reducible refine(Mj.out _).mono ?_);rintro e w2 ⟨rfl,h2⟩;have HD2:=hide (show Below (wr.heap.size+1) _ w2 from h2.mono qo);have HB2:=hide (o9.out.trans (HD2.out.mono aG));obtain⟨y20,y21,y22,y23⟩:=pV.out _ HD2.out;clear h2))
    all_goals (go_ret;first|(refine⟨aI ?_,J.out.b0.trans (HB2.out.mono J.out.b0.size)⟩;rw[fH.out,HST.out ?_];(try rfl);(try rw[iy.out]);simp[*];done)|(refine⟨aI ?_,J.out.b0.trans (o9.out.mono J.out.b0.size)⟩;rw[fH.out,HST.out ?_];(try rfl);(try rw[iy.out]);simp[*];done))
  ·exact VL
theorem aku (s:ByteArray)(l:List Tr)(hf:Fit ⟨60,s,0,l⟩)(A:Option Addr)(c:Nat)(w:World)(hr:Rd w ⟨60,s,0,l⟩ A c)(hv:eG s=true):
  Calls Tryz.prog 94 #[.agg #[.int .i64 60,.string s,.int .i64 0,.slice A l.length c]] w (aH w (vL 0 l.length (o_ l) 0 false l)):=by
 refine UR ?_;intro hl HC HTAB;have qm:=hide (fun y (hy:y∈l)=>hf.kid (x:=(⟨60,s,0,l⟩:Tr)) hy);refine UY ?_;intro C_;have HB0:=hide (au (Below.refl w.heap.size w) (.cells #[.int .i64 60,.string s,.int .i64 0,.slice A l.length c] 24));obtain⟨E,hE⟩:∃E:Nat→Bool,(fun i=>vL 0 l.length (o_ l) i (yj (l.take i)) (l.drop i))=E:=⟨_,rfl⟩;have HE:=hide hE;obtain⟨r,hres⟩:∃r,(vL 0 l.length (o_ l) 0 false l)=r:=⟨_,rfl⟩;refine OL ?_;clear HC;intro fH len hlen HL hlb HC;rw[hlen]at HB0⊢;have dI:=hide (fF 60 s 0 A len c w);clear hf hr hlen hl hE hres hv;go_enter Tryz.func94,Tryz.ntmps94;go_wp2_with (go_at_call 85;refine(C_.out _ HB0.out).mono ?_;rintro e w1 ⟨rfl,h1⟩;have HW1:=hide (show Below (w.heap.size+1) (w.alloc (.cells #[.int .i64 60,.string s,.int .i64 0,.slice A len c] 24)) w1 from h1.mono qo);obtain⟨b0,b1,b2,b3⟩:=dI.out _ HW1.out;clear h1);have Q0:=hide (show SQ w (w.alloc (.cells #[.int .i64 60,.string s,.int .i64 0,.slice A len c] 24)) E 0 w1 from⟨HB0.out.trans (HW1.out.mono aG),HW1.out,aqS,rfl⟩);clear b0 b1 b2 b3;go_loopg [3,4] (len+1) (fun gk v3 v4 wr=>∃i:Nat,i≤len∧len-i<gk∧v4= .int .i64 i∧v3= .bool (yj (l.take i))∧Aside0 (SQ w (w.alloc (.cells #[.int .i64 60,.string s,.int .i64 0,.slice A len c] 24)) E i wr))
 case atStart=>exact⟨0,Nat.zero_le _,aG,rfl,by simp[yj],Q0⟩
 case round=>
  obtain⟨i,hi,lS,rfl,rfl,J⟩:=hrel;clear Q0;refine FD ?_;intro b0 b1 b2 b3;by_cases hlt:i<len
  ·exact akv
  ·obtain rfl:i=len:=aG
   obtain⟨zt,Ec⟩:∃z,yj (l.take i)=z:=⟨_,rfl⟩;have QM:=hide (show r=true from by rw[fH.out,J.out.eq,←HE.out];simp only;rw[List.drop_eq_nil_of_le OO,vL,Ec];rfl);exact aeo
theorem akw (s:ByteArray)(l:List Tr)(hf:Fit ⟨60,s,1,l⟩)(A:Option Addr)(c:Nat)(w:World)(hr:Rd w ⟨60,s,1,l⟩ A c)(hv:eG s=true)(h0:0<l.length):
  Calls Tryz.prog 94 #[.agg #[.int .i64 60,.string s,.int .i64 1,.slice A l.length c]] w (aH w (vL 1 l.length (o_ l) 0 false l)):=by
 refine UR ?_;intro hl HC HTAB;have qm:=hide (fun y (hy:y∈l)=>hf.kid (x:=(⟨60,s,1,l⟩:Tr)) hy);refine UY ?_;intro C_;have HB0:=hide (au (Below.refl w.heap.size w) (.cells #[.int .i64 60,.string s,.int .i64 1,.slice A l.length c] 24));obtain⟨E,hE⟩:∃E:Nat→Bool,(fun i=>vL 1 l.length (o_ l) i (yj (l.take i)) (l.drop i))=E:=⟨_,rfl⟩;have HE:=hide hE;obtain⟨r,hres⟩:∃r,(vL 1 l.length (o_ l) 0 false l)=r:=⟨_,rfl⟩;refine OL ?_;clear HC;intro fH len hlen HL hlb HC;rw[hlen]at HB0⊢;have dI:=hide (fF 60 s 1 A len c w);have hl0:decide ((0:Int)<(len:Int))=true:=by have:=h0;simp;omega
 clear hf hr hlen hl hE hres hv h0;go_enter Tryz.func94,Tryz.ntmps94;go_wp2_with (go_at_call 85;refine(C_.out _ HB0.out).mono ?_;rintro e w1 ⟨rfl,h1⟩;have HW1:=hide (show Below (w.heap.size+1) (w.alloc (.cells #[.int .i64 60,.string s,.int .i64 1,.slice A len c] 24)) w1 from h1.mono qo);obtain⟨b0,b1,b2,b3⟩:=dI.out _ HW1.out;clear h1);have Q0:=hide (show SQ w (w.alloc (.cells #[.int .i64 60,.string s,.int .i64 1,.slice A len c] 24)) E 0 w1 from⟨HB0.out.trans (HW1.out.mono aG),HW1.out,aqS,rfl⟩);clear b0 b1 b2 b3;go_loopg [3,4] (len+1) (fun gk v3 v4 wr=>∃i:Nat,i≤len∧len-i<gk∧v4= .int .i64 i∧v3= .bool (yj (l.take i))∧Aside0 (SQ w (w.alloc (.cells #[.int .i64 60,.string s,.int .i64 1,.slice A len c] 24)) E i wr))
 case atStart=>exact⟨0,Nat.zero_le _,aG,rfl,by simp[yj],Q0⟩
 case round=>
  obtain⟨i,hi,lS,rfl,rfl,J⟩:=hrel;clear Q0;refine FD ?_;intro b0 b1 b2 b3;by_cases hlt:i<len
  ·exact akv
  ·obtain rfl:i=len:=aG
   obtain⟨zt,Ec⟩:∃z,yj (l.take i)=z:=⟨_,rfl⟩;have QM:=hide (show r=!zt from by rw[fH.out,J.out.eq,←HE.out];simp only;rw[List.drop_eq_nil_of_le OO,vL,Ec];have:=hl0;simp only[decide_eq_true_eq]at this;rw[show decide (0<l.length)=true from by rw[HL.out];simp;omega];rfl);exact aeo
theorem agW (s:ByteArray)(l:List Tr)(hf:Fit ⟨64,s,0,l⟩)(A:Option Addr)(c:Nat)(w:World)(hr:Rd w ⟨64,s,0,l⟩ A c)(hv:eG s=true)(h0:0<l.length):
  Calls Tryz.prog 95 #[.agg #[.int .i64 64,.string s,.int .i64 0,.slice A l.length c]] w (aH w (l.all (okF s 0 l.length))):=by
 refine UR ?_;intro hl HC HTAB;have qm:=hide (fun y (hy:y∈l)=>hf.kid (x:=(⟨64,s,0,l⟩:Tr)) hy);refine UY ?_;intro C_;have HB0:=hide (au (Below.refl w.heap.size w) (.cells #[.int .i64 64,.string s,.int .i64 0,.slice A l.length c] 24));obtain⟨E,hE⟩:∃E:Nat→Bool,(fun i=>(l.drop i).all (okF s 0 l.length))=E:=⟨_,rfl⟩;have HE:=hide hE;obtain⟨r,hres⟩:∃r,(l.all (okF s 0 l.length))=r:=⟨_,rfl⟩;have fH:=hide (show r=E 0 from by rw[←hres,←hE];simp);rw[hres];refine uj ?_;intro len hlen HL hlb;simp only[hlen]at HC;rw[hlen]at HB0⊢;have dI:=hide (fF 64 s 0 A len c w);have hl0:((len:Int)==0)=false:=by have:=h0;simp;omega
 obtain⟨e0,he0⟩:∃z,(s.toList==[])=z:=⟨_,rfl⟩;have N7:=hide (show s.toList.isEmpty=e0 from by rw[←he0];cases s.toList<;>rfl);clear hf hr hlen hl hE hres hv h0;go_enter Tryz.func95,Tryz.ntmps95;go_wp2_with (go_at_call 85;refine(C_.out _ HB0.out).mono ?_;rintro e w1 ⟨rfl,h1⟩;have HW1:=hide (show Below (w.heap.size+1) (w.alloc (.cells #[.int .i64 64,.string s,.int .i64 0,.slice A len c] 24)) w1 from h1.mono qo);obtain⟨b0,b1,b2,b3⟩:=dI.out _ HW1.out;clear h1);have Q0:=hide (show SQ w (w.alloc (.cells #[.int .i64 64,.string s,.int .i64 0,.slice A len c] 24)) E 0 w1 from⟨HB0.out.trans (HW1.out.mono aG),HW1.out,aqS,rfl⟩);clear b0 b1 b2 b3;go_loopg [3] (len+1) (fun gk v3 wr=>∃i:Nat,i≤len∧len-i<gk∧v3= .int .i64 i∧Aside0 (SQ w (w.alloc (.cells #[.int .i64 64,.string s,.int .i64 0,.slice A len c] 24)) E i wr))
 case atStart=>exact⟨0,Nat.zero_le _,aG,rfl,Q0⟩
 case round=>
  obtain⟨i,hi,lS,rfl,J⟩:=hrel;clear Q0;refine FD ?_;intro b0 b1 b2 b3;by_cases hlt:i<len
  ·refine l7 ?_
   intro eY y hy;obtain⟨ad,A',c',rfl,dR,k0,k1,k2,k3⟩:=jO Gs (HTAB.out.below J.out.b0) hy;have g_:=qm.out y (List.mem_of_getElem? hy);have HY:=hide hy;have hst:E i=(okF s 0 l.length y&&E (i+1)):=by rw[←HE.out];exact l6 hy
   rw[HL.out]at hst;obtain⟨yk,ys,yn,yl⟩:=y;simp only at k0 k1 k2 k3;refine WE ?_;intro zk vO zn hzn zp iO Mj zi hzi EG zs hzs hss z6 hz6 yt I4 hn0
   cases zk with
   |true=>
    obtain⟨q,hq⟩:∃q,toB ys yl=q:=⟨_,rfl⟩;have iy:=hide (show okF s 0 len (⟨yk,ys,yn,yl⟩:Tr)=(((!true&&(!zn&&q))&&(if zs then !z6&&(!e0&&true)else !zp&&!(e0&&zi))))from FZ);exact Ul
   |false=>
   cases zn with
   |true=>
    obtain⟨q,hq⟩:∃q,toB ys yl=q:=⟨_,rfl⟩;have iy:=hide (show okF s 0 len (⟨yk,ys,yn,yl⟩:Tr)=(((!false&&(!true&&q))&&(if zs then !z6&&(!e0&&true)else !zp&&!(e0&&zi))))from FZ);exact Uj
   |false=>
   by_cases hone:yl.length=1
   case neg=>
    obtain⟨q,hqf,hq⟩:∃q,q=false∧toB ys yl=q:=⟨false,rfl,by unfold toB;match yl,hone with|[],_=>rfl|[a],h=>exact absurd rfl h|a::b::m,_=>rfl⟩;have h1:((yl.length:Int) != 1)=true:=by simp;omega
    have iy:=hide (show okF s 0 len (⟨yk,ys,yn,yl⟩:Tr)=(((!false&&(!false&&q))&&(if zs then !z6&&(!e0&&true)else !zp&&!(e0&&zi))))from FZ);exact Um
   obtain⟨t,rfl⟩:=lone hone;obtain⟨eB,A2,c2,rfl,hra,qa⟩:=sw (x:=⟨yk,ys,yn,[t]⟩) dR (y:=t) rfl;refine Nu ?_;clear k3;intro iI k3 po hpo HPO pn hpn S9 zq hzq;have iy:=hide (show okF s 0 len (⟨yk,ys,yn,[t]⟩:Tr)=(((!false&&(!false&&(!po||(!pn&&!zq))))&&(if zs then !z6&&(!e0&&true)else !zp&&!(e0&&zi))))from Pg);exact ac0
  ·exact VL
theorem agX (s:ByteArray)(l:List Tr)(hf:Fit ⟨64,s,1,l⟩)(A:Option Addr)(c:Nat)(w:World)(hr:Rd w ⟨64,s,1,l⟩ A c)(hv:eG s=true)(h0:0<l.length):
  Calls Tryz.prog 95 #[.agg #[.int .i64 64,.string s,.int .i64 1,.slice A l.length c]] w (aH w (l.all (okF s 1 l.length))):=by
 refine UR ?_;intro hl HC HTAB;have qm:=hide (fun y (hy:y∈l)=>hf.kid (x:=(⟨64,s,1,l⟩:Tr)) hy);refine UY ?_;intro C_;have HB0:=hide (au (Below.refl w.heap.size w) (.cells #[.int .i64 64,.string s,.int .i64 1,.slice A l.length c] 24));obtain⟨E,hE⟩:∃E:Nat→Bool,(fun i=>(l.drop i).all (okF s 1 l.length))=E:=⟨_,rfl⟩;have HE:=hide hE;obtain⟨r,hres⟩:∃r,(l.all (okF s 1 l.length))=r:=⟨_,rfl⟩;have fH:=hide (show r=E 0 from by rw[←hres,←hE];simp);rw[hres];refine uj ?_;intro len hlen HL hlb;simp only[hlen]at HC;rw[hlen]at HB0⊢;have dI:=hide (fF 64 s 1 A len c w);have hl0:((len:Int)==0)=false:=by have:=h0;simp;omega
 obtain⟨e0,he0⟩:∃z,(s.toList==[])=z:=⟨_,rfl⟩;have N7:=hide (show s.toList.isEmpty=e0 from by rw[←he0];cases s.toList<;>rfl);clear hf hr hlen hl hE hres hv h0;go_enter Tryz.func95,Tryz.ntmps95;go_wp2_with (go_at_call 85;refine(C_.out _ HB0.out).mono ?_;rintro e w1 ⟨rfl,h1⟩;have HW1:=hide (show Below (w.heap.size+1) (w.alloc (.cells #[.int .i64 64,.string s,.int .i64 1,.slice A len c] 24)) w1 from h1.mono qo);obtain⟨b0,b1,b2,b3⟩:=dI.out _ HW1.out;clear h1);have Q0:=hide (show SQ w (w.alloc (.cells #[.int .i64 64,.string s,.int .i64 1,.slice A len c] 24)) E 0 w1 from⟨HB0.out.trans (HW1.out.mono aG),HW1.out,aqS,rfl⟩);clear b0 b1 b2 b3;go_loopg [3] (len+1) (fun gk v3 wr=>∃i:Nat,i≤len∧len-i<gk∧v3= .int .i64 i∧Aside0 (SQ w (w.alloc (.cells #[.int .i64 64,.string s,.int .i64 1,.slice A len c] 24)) E i wr))
 case atStart=>exact⟨0,Nat.zero_le _,aG,rfl,Q0⟩
 case round=>
  obtain⟨i,hi,lS,rfl,J⟩:=hrel;clear Q0;refine FD ?_;intro b0 b1 b2 b3;by_cases hlt:i<len
  ·refine l7 ?_
   intro eY y hy;obtain⟨ad,A',c',rfl,dR,k0,k1,k2,k3⟩:=jO Gs (HTAB.out.below J.out.b0) hy;have g_:=qm.out y (List.mem_of_getElem? hy);have HY:=hide hy;have hst:E i=(okF s 1 l.length y&&E (i+1)):=by rw[←HE.out];exact l6 hy
   rw[HL.out]at hst;obtain⟨yk,ys,yn,yl⟩:=y;simp only at k0 k1 k2 k3;refine WE ?_;intro zk vO zn hzn zp iO Mj zi hzi EG zs hzs hss z6 hz6 yt I4 hn0
   cases zk with
   |true=>
    obtain⟨q,hq⟩:∃q,toB ys yl=q:=⟨_,rfl⟩;have iy:=hide (show okF s 1 len (⟨yk,ys,yn,yl⟩:Tr)=(((!true&&(!zn&&q))&&(if zs then !z6&&(!e0&&false)else !zp&&!(e0&&zi))))from FZ);exact Ul
   |false=>
   cases zn with
   |true=>
    obtain⟨q,hq⟩:∃q,toB ys yl=q:=⟨_,rfl⟩;have iy:=hide (show okF s 1 len (⟨yk,ys,yn,yl⟩:Tr)=(((!false&&(!true&&q))&&(if zs then !z6&&(!e0&&false)else !zp&&!(e0&&zi))))from FZ);exact Uj
   |false=>
   by_cases hone:yl.length=1
   case neg=>
    obtain⟨q,hqf,hq⟩:∃q,q=false∧toB ys yl=q:=⟨false,rfl,by unfold toB;match yl,hone with|[],_=>rfl|[a],h=>exact absurd rfl h|a::b::m,_=>rfl⟩;have h1:((yl.length:Int) != 1)=true:=by simp;omega
    have iy:=hide (show okF s 1 len (⟨yk,ys,yn,yl⟩:Tr)=(((!false&&(!false&&q))&&(if zs then !z6&&(!e0&&false)else !zp&&!(e0&&zi))))from FZ);exact Um
   obtain⟨t,rfl⟩:=lone hone;obtain⟨eB,A2,c2,rfl,hra,qa⟩:=sw (x:=⟨yk,ys,yn,[t]⟩) dR (y:=t) rfl;refine Nu ?_;clear k3;intro iI k3 po hpo HPO pn hpn S9 zq hzq;have iy:=hide (show okF s 1 len (⟨yk,ys,yn,[t]⟩:Tr)=(((!false&&(!false&&(!po||(!pn&&!zq))))&&(if zs then !z6&&(!e0&&false)else !zp&&!(e0&&zi))))from Pg);exact ac0
  ·exact VL
end Go.Proofs.YtldgmneijipbjaaGreatDoor.H
