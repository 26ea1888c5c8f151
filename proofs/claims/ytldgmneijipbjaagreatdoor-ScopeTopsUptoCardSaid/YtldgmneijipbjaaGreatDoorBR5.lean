import Derived.Test.YtldgmneijipbjaaGreatDoorBR4
import Derived.Test.YtldgmneijipbjaaGreatDoorBS12
import Derived.Test.YtldgmneijipbjaaGreatDoorBMac
set_option linter.unusedVariables false
set_option linter.unusedSimpArgs false
set_option maxRecDepth 100000
set_option maxHeartbeats 16000000
namespace Go.Proofs.YtldgmneijipbjaaGreatDoor.H
open Go.RowKit Go.Shelf Go.Proofs.YtldgmneijipbjaaGreatDoorW.PrintWords Go.Proofs.YtldgmneijipbjaaGreatDoorW.PrintLast Go.Proofs.YtldgmneijipbjaaGreatDoorW.PrintMore
open PScopeOwn
theorem bD (k:Int)(s:ByteArray)(n:Int)(A:Option Addr)(len c:Nat)(w:World):Calls Tryz.prog 44 #[.agg #[.int .i64 k,.string s,.int .i64 n,.slice A len c]] w (aH w (lT s n)):=ab7 k s n A len c w
theorem ab9 (l:List Tr)(hl:l.length≤1099511627776)(hfl:∀y,y∈l→Fit y)(A:Option Addr)(c:Nat)(w:World)(h:Kd.C KT w A l.length l)(ht:jU w)
  (hT:∀y,y∈l→∀A c W,Below w.heap.size w W→Rd W y A c→Calls Tryz.prog 40 #[nd y A c] W (aH W (Q .E y))):
  Calls Tryz.prog 86 #[.slice A l.length c] w (aH w (l.all (Q .E))):=by
 refine NA ?_;intro HT HC HTAB qm;obtain⟨P,hP⟩:∃P:Tr→Bool,Q .E=P:=⟨_,rfl⟩;have HP:=hide hP;have HB0:=hide (Below.refl w.heap.size w);rw[hP];refine uj ?_;intro len hlen HL hlb;rw[hlen];have Q0:=hide (show JQ w P l 0 w from⟨HB0.out,qo⟩);clear hT h ht hlen hl hfl hP;go_enter Tryz.func86,Tryz.ntmps86;go_wp2;go_loopg [3] (len+1) (fun gk vc wr=>∃i:Nat,i≤len∧len-i<gk∧vc= .int .i64 i∧Aside0 (JQ w P l i wr))
 case atStart=>exact⟨0,Nat.zero_le _,aG,rfl,Q0⟩
 case round=>
  obtain⟨i,hi,lS,rfl,J⟩:=hrel;clear Q0;by_cases hlt:i<len
  ·refine l7 ?_
   intro eY y hy;obtain⟨ad,A',c',rfl,dR,k0,k1,k2,k3⟩:=jO (kL HC.out J.out.below) (HTAB.out.below J.out.below) hy;have HY:=hide hy;have kC:=hide dR;have jL:=hide (fun w2 h hb=>J.out.next (w2:=w2) hy h hb);have HST:=hide (J.out.stop hy);obtain⟨p,hp⟩:∃p,P y=!p:=⟨!P y,qo⟩;have vU:=hide hp;have oF:=hide (show Calls Tryz.prog 40 #[nd y A' c'] wr (aH wr (!p))from by rw[←hp,←HP.out];exact HT.out y (List.mem_of_getElem? hy) A' c' wr J.out.below dR);unfold nd at oF;clear hy dR hp;go_wp2_with (go_at_call 40;refine oF.out.mono ?_;rintro e w2 ⟨rfl,h2⟩;have HB2:=hide h2;clear h2)
   ·go_ret
    exact⟨aI (by rw[HST.out zw]),J.out.below.trans (HB2.out.mono J.out.below.size)⟩
   ·have Q2:=hide (jL.out _ zw HB2.out)
    exact aeG
  ·obtain rfl:i=len:=aG
   go_wp2;go_ret;exact⟨aI (by rw[J.out.eq,List.drop_eq_nil_of_le OO];rfl),J.out.below⟩
theorem apk (s:ByteArray)(n:Int)(l:List Tr)(hl:l.length≤1099511627776)(hfl:∀y,y∈l→Fit y)(A:Option Addr)(c:Nat)(w:World)(h:Kd.C KT w A l.length l)(ht:jU w)
  (hT:∀y,y∈l→∀A c W,Below w.heap.size w W→Rd W y A c→Calls Tryz.prog 42 #[nd y A c] W (aH W (Q .S y))):
  Calls Tryz.prog 42 #[.agg #[.int .i64 52,.string s,.int .i64 n,.slice A l.length c]] w (aH w (l.all (Q .S)&&lT s n)):=by
 refine NA ?_;intro HT HC HTAB qm;obtain⟨P,hP⟩:∃P:Tr→Bool,Q .S=P:=⟨_,rfl⟩;have HP:=hide hP;have HB0:=hide (au (Below.refl w.heap.size w) (.cells #[.int .i64 52,.string s,.int .i64 n,.slice A l.length c] 24));rw[hP];refine uj ?_;intro len hlen HL hlb;rw[hlen]at HB0⊢;have Q0:=hide (show JQ w P l 0 (w.alloc (.cells #[.int .i64 52,.string s,.int .i64 n,.slice A len c] 24))∧Below (w.heap.size+1) (w.alloc (.cells #[.int .i64 52,.string s,.int .i64 n,.slice A len c] 24)) (w.alloc (.cells #[.int .i64 52,.string s,.int .i64 n,.slice A len c] 24))from⟨⟨HB0.out,qo⟩,Below.refl _ _⟩);clear hT h ht hlen hl hfl hP;have dI:=hide (fF 52 s n A len c w);go_enter Tryz.func42,Tryz.ntmps42;go_wp2;go_loopg [4] (len+1) (fun gk vc wr=>∃i:Nat,i≤len∧len-i<gk∧vc= .int .i64 i∧Aside0 (JQ w P l i wr∧Below (w.heap.size+1) (w.alloc (.cells #[.int .i64 52,.string s,.int .i64 n,.slice A len c] 24)) wr))
 case atStart=>exact⟨0,Nat.zero_le _,aG,rfl,Q0⟩
 case round=>
  obtain⟨i,hi,lS,rfl,J⟩:=hrel;clear Q0;by_cases hlt:i<len
  ·refine l7 ?_
   intro eY y hy;obtain⟨ad,A',c',rfl,dR,k0,k1,k2,k3⟩:=jO (kL HC.out J.out.1.below) (HTAB.out.below J.out.1.below) hy;refine Xh ?_;intro HY kC jL HST;obtain⟨p,hp⟩:∃p,P y=!p:=⟨!P y,qo⟩;have vU:=hide hp;have oF:=hide (show Calls Tryz.prog 42 #[nd y A' c'] wr (aH wr (!p))from by rw[←hp,←HP.out];exact HT.out y (List.mem_of_getElem? hy) A' c' wr J.out.1.below dR);unfold nd at oF;clear hy dR hp;go_wp2_with (go_at_call 42;refine oF.out.mono ?_;rintro e w2 ⟨rfl,h2⟩;have HB2:=hide h2;clear h2)
   ·go_ret
    exact⟨aI Ce,J.out.1.below.trans (HB2.out.mono J.out.1.below.size)⟩
   ·exact Zr
  ·exact aed
theorem apl (s:ByteArray)(n:Int)(l:List Tr)(hl:l.length≤1099511627776)(hfl:∀y,y∈l→Fit y)(A:Option Addr)(c:Nat)(w:World)(h:Kd.C KT w A l.length l)(ht:jU w)
  (hT:∀y,y∈l→∀A c W,Below w.heap.size w W→Rd W y A c→Calls Tryz.prog 41 #[nd y A c] W (aH W (Q .T y))):
  Calls Tryz.prog 41 #[.agg #[.int .i64 32,.string s,.int .i64 n,.slice A l.length c]] w (aH w (l.all (wq (.nu,.T))&&(lT s n&&decide (2≤l.length)))):=by
 refine NA ?_;intro HT HC HTAB qm;obtain⟨P,hP⟩:∃P:Tr→Bool,wq (.nu,.T)=P:=⟨_,rfl⟩;have HP:=hide hP;have HB0:=hide (au (Below.refl w.heap.size w) (.cells #[.int .i64 32,.string s,.int .i64 n,.slice A l.length c] 24));rw[hP];refine uj ?_;intro len hlen HL hlb;rw[hlen]at HB0⊢;have Q0:=hide (show JQ w P l 0 (w.alloc (.cells #[.int .i64 32,.string s,.int .i64 n,.slice A len c] 24))∧Below (w.heap.size+1) (w.alloc (.cells #[.int .i64 32,.string s,.int .i64 n,.slice A len c] 24)) (w.alloc (.cells #[.int .i64 32,.string s,.int .i64 n,.slice A len c] 24))from⟨⟨HB0.out,qo⟩,Below.refl _ _⟩);clear hT h ht hlen hl hfl hP;have dI:=hide (fF 32 s n A len c w);go_enter Tryz.func41,Tryz.ntmps41;go_wp2;go_loopg [4] (len+1) (fun gk vc wr=>∃i:Nat,i≤len∧len-i<gk∧vc= .int .i64 i∧Aside0 (JQ w P l i wr∧Below (w.heap.size+1) (w.alloc (.cells #[.int .i64 32,.string s,.int .i64 n,.slice A len c] 24)) wr))
 case atStart=>exact⟨0,Nat.zero_le _,aG,rfl,Q0⟩
 case round=>
  obtain⟨i,hi,lS,rfl,J⟩:=hrel;clear Q0;by_cases hlt:i<len
  ·refine l7 ?_
   intro eY y hy;obtain⟨ad,A',c',rfl,dR,k0,k1,k2,k3⟩:=jO (kL HC.out J.out.1.below) (HTAB.out.below J.out.1.below) hy;refine Xh ?_;intro HY kC jL HST;obtain⟨p,hp⟩:∃p,Q .T y=!p:=⟨!Q .T y,qo⟩;obtain⟨u,hu⟩:∃u,(y.f0==32)=u:=⟨_,rfl⟩;have vU:=hide (show P y=(!u&&!p)from by rw[←HP.out];simp only[wq,BH];rw[hp,hu]);have oF:=hide (show Calls Tryz.prog 41 #[nd y (A') c'] wr (aH wr (!p))from by rw[←hp];exact HT.out y (List.mem_of_getElem? hy) A' c' wr J.out.1.below dR);unfold nd at oF;have HK0:=hide k0;clear hy dR hp;go_wp2_with (go_at_call 41;refine oF.out.mono ?_;rintro e w2 ⟨rfl,h2⟩;have j0:=ak h2 HK0.out;have HB2:=hide h2;clear h2)
   all_goals try (go_ret;exact⟨aI Ce,J.out.1.below.trans (HB2.out.mono J.out.1.below.size)⟩)
   exact Zr
  ·obtain rfl:i=len:=aG
   obtain⟨c10,c11,c12,c13⟩:=dI.out _ J.out.2;have hall:l.all P=true:=by rw[J.out.1.eq,List.drop_eq_nil_of_le OO];rfl
   have wG:=hide hall;obtain⟨z,hz⟩:∃z,decide ((2:Int)≤(i:Int))=z:=⟨_,rfl⟩;have hz2:decide (2≤i)=z:=by rw[←hz,Bool.eq_iff_iff];simp only[decide_eq_true_eq];omega
   have HZ2:=hide hz2;clear hall hz2;go_wp2_with (go_at_call 44;refine(bD _ _ _ _ _ _ _).mono ?_;rintro e w2 ⟨rfl,h2⟩;have HB2:=hide (J.out.1.below.trans (h2.mono J.out.1.below.size));clear h2)
   all_goals
    go_ret;exact⟨aI (by rw[wG.out,HZ2.out];simp[*]),HB2.out⟩
theorem re9 (s:ByteArray)(n:Int)(l:List Tr)(hl:l.length≤1099511627776)(hfl:∀y,y∈l→Fit y)(A:Option Addr)(c:Nat)(w:World)(h:Kd.C KT w A l.length l)(ht:jU w)
  (hT:∀y,y∈l→∀t,t∈y.f3→∀A c W,Below w.heap.size w W→Rd W t A c→Calls Tryz.prog 40 #[nd t A c] W (aH W (Q .E t))):
  Calls Tryz.prog 40 #[.agg #[.int .i64 9,.string s,.int .i64 n,.slice A l.length c]] w (aH w (l.all (Q .Pr)&&lT s n)):=by
 refine NA ?_;intro HT HC HTAB qm;obtain⟨P,hP⟩:∃P:Tr→Bool,Q .Pr=P:=⟨_,rfl⟩;have HP:=hide hP;have HB0:=hide (au (Below.refl w.heap.size w) (.cells #[.int .i64 9,.string s,.int .i64 n,.slice A l.length c] 24));rw[hP];refine uj ?_;intro len hlen HL hlb;rw[hlen]at HB0⊢;have Q0:=hide (show JQ w P l 0 (w.alloc (.cells #[.int .i64 9,.string s,.int .i64 n,.slice A len c] 24))∧Below (w.heap.size+1) (w.alloc (.cells #[.int .i64 9,.string s,.int .i64 n,.slice A len c] 24)) (w.alloc (.cells #[.int .i64 9,.string s,.int .i64 n,.slice A len c] 24))from⟨⟨HB0.out,qo⟩,Below.refl _ _⟩);clear hT h ht hlen hl hfl hP;have dI:=hide (fF 9 s n A len c w);go_enter Tryz.func40,Tryz.ntmps40;go_wp2;go_loopg [4] (len+1) (fun gk vc wr=>∃i:Nat,i≤len∧len-i<gk∧vc= .int .i64 i∧Aside0 (JQ w P l i wr∧Below (w.heap.size+1) (w.alloc (.cells #[.int .i64 9,.string s,.int .i64 n,.slice A len c] 24)) wr))
 case atStart=>exact⟨0,Nat.zero_le _,aG,rfl,Q0⟩
 case round=>
  obtain⟨i,hi,lS,rfl,J⟩:=hrel;clear Q0;by_cases hlt:i<len
  ·refine l7 ?_
   intro eY y hy;obtain⟨ad,A',c',rfl,dR,k0,k1,k2,k3⟩:=jO (kL HC.out J.out.1.below) (HTAB.out.below J.out.1.below) hy;refine Xh ?_;intro HY kC jL HST;have g_:=qm.out y (List.mem_of_getElem? hy);have Jo:=hide g_;obtain⟨yk,ys,yn,yl⟩:=y;simp only at k0 k1 k2 k3;obtain⟨zk,vO⟩:∃z,(yk != 10)=z:=⟨_,rfl⟩;refine Oy ?_;intro zn hzn zp iO qK;have hPy:∀q,QR [(.i,.E)] yl=q→P (⟨yk,ys,yn,yl⟩:Tr)=(!zk&&(!zn&&(!zp&&q))):=fun q hq=>by rw[←HP.out,Q,iO,hq,←vO,←hzn];simp only[bne,Bool.not_not];cases(yk==10)<;>cases(yn==0)<;>cases zp<;>rfl
   have HK:=hide (And.intro k0 (And.intro k1 (And.intro k2 k3)));by_cases hone:yl.length=1
   ·obtain⟨t,rfl⟩:∃t,yl=[t]:=by match yl,hone with|[t],_=>exact⟨t,rfl⟩
    obtain⟨eB,A2,c2,rfl,hrt,m0,m1,m2,m3⟩:=dR.kid (i:=0) (y:=t) rfl;rw[show eB.add (0*4)=eB from kN eB]at m0 m1 m2 m3;obtain⟨p,hp⟩:∃p,Q .E t=!p:=⟨!Q .E t,qo⟩;have vU:=hide (hPy (!p) (by rw[QR,QR];simp[BH,hp]));have oF:=hide (fun W (h:Below wr.heap.size wr W)=>show Calls Tryz.prog 40 #[nd t A2 c2] W (aH W (!p))from by rw[←hp];exact HT.out _ (List.mem_of_getElem? hy) t qo A2 c2 W (J.out.1.below.trans (h.mono J.out.1.below.size)) (hrt.below h));unfold nd at oF;simp only[List.length_cons,List.length_nil,Nat.zero_add]at HK k3;have HM:=hide (And.intro m0 (And.intro m1 (And.intro m2 m3)));have iI:=hide (fun W (h:Below wr.heap.size wr W)=>And.intro (And.intro (ak h HK.out.1) (And.intro (ak h HK.out.2.1) (And.intro (ak h HK.out.2.2.1) (ak h HK.out.2.2.2)))) (And.intro (ak h HM.out.1) (And.intro (ak h HM.out.2.1) (And.intro (ak h HM.out.2.2.1) (ak h HM.out.2.2.2)))));clear hy dR hrt hp iO hPy g_;go_wp2_with (first|(go_at_call 87;refine(qK.out _).mono ?_;rintro e w2 ⟨rfl,h2⟩;obtain⟨⟨g0,g1,g2,g3⟩,x0,x1,x2,x3⟩:=iI.out _ h2;have HB2:=hide h2;clear h2)|(go_at_call 40;refine(oF.out _ HB2.out).mono ?_;rintro e w3 ⟨rfl,h3⟩;have HB3:=hide (HB2.out.trans (h3.mono HB2.out.size));clear h3))
    all_goals try (go_ret;first|exact⟨aI Ce,J.out.1.below.trans (HB3.out.mono J.out.1.below.size)⟩|exact⟨aI Ce,J.out.1.below.trans (HB2.out.mono J.out.1.below.size)⟩|exact⟨aI Ce,J.out.1.below⟩)
    have Q2:=hide (And.intro (jL.out _ zw HB3.out) (J.out.2.trans (HB3.out.mono (by have:=J.out.2.size;simp at this;omega))));exact aeG
   ·refine VK ?_
    clear k3 HK;intro vU jd HK h1 k3 fA iI;clear hy dR iO hPy hone fA g_;go_wp2_with (go_at_call 87;refine(qK.out _).mono ?_;rintro e w2 ⟨rfl,h2⟩;obtain⟨g0,g1,g2,g3⟩:=iI.out _ h2;have HB2:=hide h2;clear h2)
    all_goals
     go_ret
     first|exact⟨aI Ce,J.out.1.below.trans (HB2.out.mono J.out.1.below.size)⟩|exact⟨aI Ce,J.out.1.below⟩
  ·exact aed
end Go.Proofs.YtldgmneijipbjaaGreatDoor.H
