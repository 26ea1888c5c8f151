import Derived.Test.YtldgmneijipbjaaGreatDoorBR5
import Derived.Test.YtldgmneijipbjaaGreatDoorBMac
set_option linter.unusedVariables false
set_option linter.unusedSimpArgs false
set_option maxRecDepth 100000
set_option maxHeartbeats 16000000
namespace Go.Proofs.YtldgmneijipbjaaGreatDoor.H
open Go.RowKit Go.Shelf Go.Proofs.YtldgmneijipbjaaGreatDoorW.PrintWords Go.Proofs.YtldgmneijipbjaaGreatDoorW.PrintLast Go.Proofs.YtldgmneijipbjaaGreatDoorW.PrintMore
open PScopeOwn
structure NQ (w w0:World)(P:Tr→Bool)(l:List Tr)(i:Nat)(v5:Value)(wr:World):Prop where
 b0:Below w.heap.size w wr
 b1:Below (w.heap.size+1) w0 wr
 sz:w.heap.size+1≤wr.heap.size
 ok:(l.take i).all P=true
 nd:(texts (l.take i)).Nodup
 row:Kd.R Kd.string 9 wr (w.heap.size+1) (fun k=>w.heap.size+1≤k) v5 (texts (l.take i))
theorem Y5 {l:List Tr}{P:Tr→Bool}{i:Nat}{y:Tr}(h:l[i]?=some y):(l.take (i+1)).all P=((l.take i).all P&&P y):=by
 have hi:=(List.getElem?_eq_some_iff.1 h).1;rw[List.take_succ_eq_append_getElem hi,(List.getElem?_eq_some_iff.1 h).2,List.all_append];simp
theorem NQ.next {w w0 wr w2:World}{P:Tr→Bool}{l:List Tr}{i:Nat}{v5 v6:Value}{y:Tr}(q:NQ w w0 P l i v5 wr)(hy:l[i]?=some y)(hP:P y=true)(hin:jE (texts (l.take i)) y.f1=false)
  (hb:Below (w.heap.size+1) w0 w2)(hb0:Below w.heap.size w w2)(hs:w.heap.size+1≤w2.heap.size)(hr:Kd.R Kd.string 9 w2 (w.heap.size+1) (fun k=>w.heap.size+1≤k) v6 (texts (l.take i)++[y.f1])):NQ w w0 P l (i+1) v6 w2:=by
 refine⟨hb0,hb,hs,by rw[Y5 hy,q.ok,hP];rfl,?_,by rw[rH hy];exact hr⟩;rw[rH hy,List.nodup_append];exact adV
theorem NQ.Y6 {w w0 wr:World}{P:Tr→Bool}{l:List Tr}{i:Nat}{v5:Value}{y:Tr}(hy:l[i]?=some y)(hP:P y=false):(nN l&&l.all P)=false:=by
 have:l.all P=false:=by
  rw[List.all_eq_false];exact⟨y,List.mem_of_getElem? hy,by rw[hP];simp⟩
 rw[this,Bool.and_false]
theorem NQ.Y7 {P:Tr→Bool}{l:List Tr}{i:Nat}{y:Tr}(hy:l[i]?=some y)(hin:jE (texts (l.take i)) y.f1=true):(nN l&&l.all P)=false:=by
 have:nN l=false:=by
  cases hu:nN l with
  |false=>rfl
  |true=>
   have h1:=t_.1 hu;have e:texts l=texts (l.take i)++texts (l.drop i):=by unfold texts;rw[←List.map_append,List.take_append_drop]
   rw[e,List.nodup_append]at h1;exact absurd rfl (h1.2.2 _ (kV.1 hin) _ (by unfold texts;rw[drop_at hy];simp))
 rw[this,Bool.false_and]
theorem NQ.done {w w0 wr:World}{P:Tr→Bool}{l:List Tr}{v5:Value}{i:Nat}(q:NQ w w0 P l i v5 wr)(hi:l.length≤i):(nN l&&l.all P)=true:=by
 have h1:=q.ok;have h2:=q.nd;rw[List.take_of_length_le hi]at h1 h2;rw[h1,nN,t_.2 h2];rfl
theorem SL {t:Tr}(h:Q .T t=true):gT t=false:=by
 obtain⟨k,s,n,l⟩:=t;unfold gT;by_cases hk:k=14
 ·subst hk;rw[Q]at h;simp at h
 ·simp[hk]
theorem apm (s:ByteArray)(n:Int)(l:List Tr)(hl:l.length≤1099511627776)(hfl:∀y,y∈l→Fit y)(A:Option Addr)(c:Nat)(w:World)(h:Kd.C KT w A l.length l)(ht:jU w)
  (hT:∀y,y∈l→∀t,t∈y.f3→∀A c W,Below w.heap.size w W→Rd W t A c→Calls Tryz.prog 41 #[nd t A c] W (aH W ((Q .T) t))):
  Calls Tryz.prog 41 #[.agg #[.int .i64 33,.string s,.int .i64 n,.slice A l.length c]] w (aH w ((nN l&&l.all (Q .TPr))&&lT s n)):=by
 refine NA ?_;intro HT HC HTAB qm;obtain⟨P,hP⟩:∃P:Tr→Bool,Q .TPr=P:=⟨_,rfl⟩;have HP:=hide hP;have HB0:=hide (au (Below.refl w.heap.size w) (.cells #[.int .i64 33,.string s,.int .i64 n,.slice A l.length c] 24));rw[hP];refine uj ?_;intro len hlen HL hlb;rw[hlen]at HB0⊢;have Q0:=hide (show NQ w (w.alloc (.cells #[.int .i64 33,.string s,.int .i64 n,.slice A len c] 24)) P l 0 (.slice none 0 0) (w.alloc (.cells #[.int .i64 33,.string s,.int .i64 n,.slice A len c] 24))from⟨HB0.out,Below.refl _ _,qo,qo,by simp[texts],by simpa [texts]using Kd.jm _ _ _ _ _⟩);have dI:=hide (fF 33 s n A len c w);clear hT h ht hlen hl hfl hP;go_enter Tryz.func41,Tryz.ntmps41;go_wp2;go_loopg [5,6] (len+1) (fun gk v5 vc wr=>∃i:Nat,i≤len∧len-i<gk∧vc= .int .i64 i∧Aside0 (NQ w (w.alloc (.cells #[.int .i64 33,.string s,.int .i64 n,.slice A len c] 24)) P l i v5 wr))
 case atStart=>exact⟨0,Nat.zero_le _,aG,rfl,Q0⟩
 case round=>
  obtain⟨i,hi,lS,rfl,J⟩:=hrel;clear Q0;have _u:True:=trivial;by_cases hlt:i<len
  ·refine l7 ?_
   intro eY y hy;obtain⟨ad,A',c',rfl,dR,k0,k1,k2,k3⟩:=jO (kL HC.out J.out.b0) (HTAB.out.below J.out.b0) hy;obtain⟨A5,c5,e5,El,Cg⟩:=Kd.bL J.out.row;subst e5;refine Zn ?_;intro n5 Ah Y8 xV g_ HY SN jL sO HSN;rw[Ah]at xV⊢;obtain⟨zi,hzi⟩:∃z,jE (texts (l.take i)) y.f1=z:=⟨_,rfl⟩;have EG:=hide hzi;rw[hzi]at xV;obtain⟨yk,ys,yn,yl⟩:=y;simp only at k0 k1 k2 k3 xV;obtain⟨zk,vO⟩:∃z,(yk != 34)=z:=⟨_,rfl⟩;refine Oy ?_;intro zn hzn zp iO qK;have hPy:∀q,QR [(.i,.T)] yl=q→P (⟨yk,ys,yn,yl⟩:Tr)=(!zk&&(!zn&&(!zp&&q))):=fun q hq=>by rw[←HP.out,Q,iO,hq,←vO,←hzn];simp only[bne,Bool.not_not];cases(yk==34)<;>cases(yn==0)<;>cases zp<;>rfl
   have HK:=hide (And.intro k0 (And.intro k1 (And.intro k2 k3)));by_cases hone:yl.length=1
   ·obtain⟨t,rfl⟩:∃t,yl=[t]:=by match yl,hone with|[t],_=>exact⟨t,rfl⟩
    obtain⟨eB,A2,c2,rfl,hrt,m0,m1,m2,m3⟩:=dR.kid (i:=0) (y:=t) rfl;rw[show eB.add (0*4)=eB from kN eB]at m0 m1 m2 m3;obtain⟨p,hp⟩:∃p,Q .T t=!p:=⟨!Q .T t,qo⟩;have vU:=hide (hPy (!p) (by rw[QR,QR];simp[BH,hp]));have oF:=hide (fun W (h:Below wr.heap.size wr W)=>show Calls Tryz.prog 41 #[nd t A2 c2] W (aH W (!p))from by rw[←hp];exact HT.out _ (List.mem_of_getElem? hy) t qo A2 c2 W (J.out.b0.trans (h.mono J.out.b0.size)) (hrt.below h));unfold nd at oF;simp only[List.length_cons,List.length_nil,Nat.zero_add]at HK k3;have HM:=hide (And.intro m0 (And.intro m1 (And.intro m2 m3)));have iI:=hide (fun W (h:Below wr.heap.size wr W)=>And.intro (And.intro (ak h HK.out.1) (And.intro (ak h HK.out.2.1) (And.intro (ak h HK.out.2.2.1) (ak h HK.out.2.2.2)))) (And.intro (ak h HM.out.1) (And.intro (ak h HM.out.2.1) (And.intro (ak h HM.out.2.2.1) (ak h HM.out.2.2.2)))));clear hy dR hrt hp iO hPy g_ hzi Cg El Ah
    go_wp2_with (first
     |(go_at_call 87;(with_reducible refine(qK.out _).mono ?_);rintro e w2 ⟨rfl,h2⟩;have HB2:=hide h2;obtain⟨⟨g20,g21,g22,g23⟩,x20,x21,x22,x23⟩:=iI.out _ HB2.out;clear h2)
     |(go_at_call 41;(with_reducible refine(oF.out _ HB2.out).mono ?_);rintro e w3 ⟨rfl,h3⟩;have HB3:=hide (HB2.out.trans (h3.mono HB2.out.size));obtain⟨⟨g30,g31,g32,g33⟩,x30,x31,x32,x33⟩:=iI.out _ HB3.out;clear h3)
     |(go_at_call 89;(with_reducible refine(xV.out _ HB3.out).mono ?_);rintro e w4 ⟨rfl,h4⟩;have jV:=hide (HB3.out.trans ((eD (B:=w3.heap.size) h4).mono HB3.out.size));obtain⟨⟨g40,g41,g42,g43⟩,x40,x41,x42,x43⟩:=iI.out _ jV.out;clear h4)
     |((with_reducible refine cO (b:= .append) (xs:=#[.tmp 139,.tmp 145]) rfl ?_);at_builtin;refine Aside0.out ?_))
    all_goals try (go_ret;first|(refine⟨aI ?_,J.out.b0.trans (jV.out.mono J.out.b0.size)⟩;rw[sO.out ?_];(try rfl);rw[vU.out];simp[*];done)|(refine⟨aI ?_,J.out.b0.trans (HB3.out.mono J.out.b0.size)⟩;rw[sO.out ?_];(try rfl);rw[vU.out];simp[*];done)|(refine⟨aI ?_,J.out.b0.trans (HB2.out.mono J.out.b0.size)⟩;rw[sO.out ?_];(try rfl);rw[vU.out];simp[*];done)|(refine⟨aI ?_,J.out.b0⟩;rw[sO.out ?_];(try rfl);rw[vU.out];simp[*];done)|(refine⟨aI ?_,J.out.b0.trans (jV.out.mono J.out.b0.size)⟩;rw[HSN.out ?_];(try rfl);rw[EG.out];assumption))
    refine⟨?_⟩;refine GV ?_;intro Jr hsz;refine Kd.gP Kd.string (w0:=(w.alloc (.cells #[.int .i64 33,.string s,.int .i64 n,.slice (some ad) len c] 24))) (w.heap.size+1) rfl (.tmp 139) (.tmp 145) 48 9 (.string ⟨#[]⟩) 16 rfl Tryz.underlying48 Bj rfl wN aG (.slice A5 n5 c5) (texts (l.take i)) ys [.string ys] (fun k=>w.heap.size+1≤k) (fun _=>False) rfl rfl rfl (fun _ hk=>hk.elim) (fun k hk=>Nat.le_trans hsz hk) Gy Jr.out hsz (by rw[SN.out];omega) ?_;exact WC
   ·refine VK ?_
    clear k3 HK;intro vU jd HK h1 k3 fA iI;clear hy dR iO hPy hone fA g_ hzi Cg El Ah;go_wp2_with (go_at_call 87;refine(qK.out _).mono ?_;rintro e w2 ⟨rfl,h2⟩;obtain⟨g0,g1,g2,g3⟩:=iI.out _ h2;have HB2:=hide h2;clear h2)
    all_goals
     go_ret
     first|(refine⟨aI ?_,J.out.b0.trans (HB2.out.mono J.out.b0.size)⟩;rw[sO.out ?_];(try rfl);rw[vU.out];simp[*];done)|(refine⟨aI ?_,J.out.b0⟩;rw[sO.out ?_];(try rfl);rw[vU.out];simp[*];done)
  ·obtain rfl:i=len:=aG
   have QM:=hide (J.out.done OO);refine FD ?_;intro b0 b1 b2 b3;go_wp2_with (go_at_call 44;refine(bD _ _ _ _ _ _ _).mono ?_;rintro e w2 ⟨rfl,h2⟩;have HB2:=hide (J.out.b0.trans (h2.mono J.out.b0.size));clear h2);go_ret;exact⟨aI (by rw[QM.out];rfl),HB2.out⟩
theorem akh (s:ByteArray)(n:Int)(hpl:lT s n=true)(l:List Tr)(hl:l.length≤1099511627776)(hfl:∀y,y∈l→Fit y)(A:Option Addr)(c:Nat)(w:World)(h:Kd.C KT w A l.length l)(ht:jU w)
  (hT:∀y,y∈l→∀t,t∈y.f3→∀A c W,Below w.heap.size w W→Rd W t A c→Calls Tryz.prog 91 #[nd t A c] W (aH W ((fun t=>gT t||Q .T t) t)))
  (hN:∀t A c W,Calls Tryz.prog 93 #[nd t A c] W (aH W (gT t))):
  Calls Tryz.prog 90 #[.agg #[.int .i64 12,.string s,.int .i64 n,.slice A l.length c],.bool false] w (aH w (nN l&&l.all (Q .Pa))):=by
 refine NA ?_;intro HT HC HTAB qm;have HN:=hide hN;obtain⟨P,hP⟩:∃P:Tr→Bool,Q .Pa=P:=⟨_,rfl⟩;refine Vx ?_;intro HP HB0 HPL;refine uj ?_;intro len hlen HL hlb;rw[hlen]at HB0⊢HPL;have dI:=hide (fF 12 s n A len c w);clear hT h ht hlen hl hfl hP hpl hN;go_enter Tryz.func90,Tryz.ntmps90;go_wp2_with (go_at_call 44;refine HPL.out.mono ?_;rintro e w1 ⟨rfl,h1⟩;have HW1:=hide (show Below (w.heap.size+1) (w.alloc (.cells #[.int .i64 12,.string s,.int .i64 n,.slice A len c] 24)) w1 from h1.mono qo);clear h1);refine C9 ?_;intro Q0;go_loopg [5,6] (len+1) (fun gk v5 vc wr=>∃i:Nat,i≤len∧len-i<gk∧vc= .int .i64 i∧Aside0 (NQ w (w.alloc (.cells #[.int .i64 12,.string s,.int .i64 n,.slice A len c] 24)) P l i v5 wr))
 case atStart=>exact⟨0,Nat.zero_le _,aG,rfl,Q0⟩
 case round=>
  obtain⟨i,hi,lS,rfl,J⟩:=hrel;clear Q0;refine FD ?_;intro b0 b1 b2 b3;by_cases hlt:i<len
  ·refine l7 ?_
   intro eY y hy;obtain⟨ad,A',c',rfl,dR,k0,k1,k2,k3⟩:=jO (kL HC.out J.out.b0) (HTAB.out.below J.out.b0) hy;obtain⟨A5,c5,e5,El,Cg⟩:=Kd.bL J.out.row;subst e5;refine Zn ?_;intro n5 Ah Y8 xV g_ HY SN jL sO HSN;rw[Ah]at xV⊢;obtain⟨zi,hzi⟩:∃z,jE (texts (l.take i)) y.f1=z:=⟨_,rfl⟩;have EG:=hide hzi;rw[hzi]at xV;obtain⟨yk,ys,yn,yl⟩:=y;simp only at k0 k1 k2 k3 xV;obtain⟨zk,vO⟩:∃z,(yk != 13)=z:=⟨_,rfl⟩;obtain⟨zn,hzn⟩:∃z,(yn != 0)=z:=⟨_,rfl⟩;obtain⟨zp,iO⟩:∃z,nH ys=!z:=⟨!nH ys,by simp⟩;have qK:=hide (fun W=>jy ys (by have:=g_.str;simp only at this;omega) W);rw[iO]at qK;have hPy:∀q,QR [(.no,.T)] yl=q→P (⟨yk,ys,yn,yl⟩:Tr)=(!zk&&(!zn&&(!zp&&q))):=fun q hq=>by rw[←HP.out,Q,iO,hq,←vO,←hzn];simp only[bne,Bool.not_not];cases(yk==13)<;>cases(yn==0)<;>cases zp<;>rfl
   have HK:=hide (And.intro k0 (And.intro k1 (And.intro k2 k3)));by_cases hone:yl.length=1
   ·obtain⟨t,rfl⟩:∃t,yl=[t]:=by match yl,hone with|[t],_=>exact⟨t,rfl⟩
    obtain⟨eB,A2,c2,rfl,hrt,m0,m1,m2,m3⟩:=dR.kid (i:=0) (y:=t) rfl;rw[show eB.add (0*4)=eB from kN eB]at m0 m1 m2 m3;obtain⟨p,hp⟩:∃p,(gT t||Q .T t)=!p:=⟨!(gT t||Q .T t),qo⟩;have vU:=hide (hPy (!p) (by rw[QR,QR];simp only[BH,hp,Bool.and_true]));refine yZ ?_;intro oF;unfold nd at oF;simp only[List.length_cons,List.length_nil,Nat.zero_add]at HK k3;have HM:=hide (And.intro m0 (And.intro m1 (And.intro m2 m3)));have iI:=hide (fun W (h:Below wr.heap.size wr W)=>And.intro (And.intro (ak h HK.out.1) (And.intro (ak h HK.out.2.1) (And.intro (ak h HK.out.2.2.1) (ak h HK.out.2.2.2)))) (And.intro (ak h HM.out.1) (And.intro (ak h HM.out.2.1) (And.intro (ak h HM.out.2.2.1) (ak h HM.out.2.2.2)))));refine GH ?_;intro pV o9;have n0:=fun o=>bY o m0;have n1:=fun o=>bY o m1;have n2:=fun o=>bY o m2;have n3:=fun o=>bY o m3;clear hy dR hrt hp iO hPy g_ hzi Cg El Ah m0 m1 m2 m3
    go_wp2_with (first
     |(go_at_call 13;(with_reducible refine(qK.out _).mono ?_);rintro e w2 ⟨rfl,h2⟩;have HD2:=hide (show Below (wr.heap.size+1) _ w2 from h2.mono qo);have HB2:=hide (o9.out.trans (HD2.out.mono aG));obtain⟨⟨g20,g21,g22,g23⟩,x20,x21,x22,x23⟩:=iI.out _ HB2.out;obtain⟨y20,y21,y22,y23⟩:=pV.out _ HD2.out;obtain⟨q20,q21,q22,q23⟩:=dI.out _ (J.out.b1.trans (HB2.out.mono J.out.sz));clear h2)
     |(go_at_call 91;(with_reducible refine(oF.out _ HB2.out).mono ?_);rintro e w3 ⟨rfl,h3⟩;have HB3:=hide (HB2.out.trans (h3.mono HB2.out.size));have HD3:=hide (HD2.out.trans (h3.mono wm));obtain⟨⟨g30,g31,g32,g33⟩,x30,x31,x32,x33⟩:=iI.out _ HB3.out;obtain⟨y30,y31,y32,y33⟩:=pV.out _ HD3.out;obtain⟨q30,q31,q32,q33⟩:=dI.out _ (J.out.b1.trans (HB3.out.mono J.out.sz));clear h3)
     |(go_at_call 89;(with_reducible refine(xV.out _ HB3.out).mono ?_);rintro e w4 ⟨rfl,h4⟩;have jV:=hide (HB3.out.trans ((eD (B:=w3.heap.size) h4).mono HB3.out.size));have HD4:=hide (HD3.out.trans ((eD (B:=w3.heap.size) h4).mono BM));obtain⟨⟨g40,g41,g42,g43⟩,x40,x41,x42,x43⟩:=iI.out _ jV.out;obtain⟨y40,y41,y42,y43⟩:=pV.out _ HD4.out;obtain⟨q40,WS,q42,q43⟩:=dI.out _ (J.out.b1.trans (jV.out.mono J.out.sz));clear h4)
     |((with_reducible refine cO (b:= .append) (xs:=#[.tmp 72,.tmp 75]) rfl ?_);at_builtin;refine Aside0.out ?_))
    all_goals try (go_ret;first|(refine⟨aI ?_,J.out.b0.trans (jV.out.mono J.out.b0.size)⟩;rw[sO.out ?_];(try rfl);rw[vU.out];simp[*];done)|(refine⟨aI ?_,J.out.b0.trans (HB3.out.mono J.out.b0.size)⟩;rw[sO.out ?_];(try rfl);rw[vU.out];simp[*];done)|(refine⟨aI ?_,J.out.b0.trans (HB2.out.mono J.out.b0.size)⟩;rw[sO.out ?_];(try rfl);rw[vU.out];simp[*];done)|(refine⟨aI ?_,J.out.b0.trans (o9.out.mono J.out.b0.size)⟩;rw[sO.out ?_];(try rfl);rw[vU.out];simp[*];done)|(refine⟨aI ?_,J.out.b0.trans (jV.out.mono J.out.b0.size)⟩;rw[HSN.out ?_];(try rfl);rw[EG.out];assumption))
    refine⟨?_⟩;refine GV ?_;intro Jr hsz;refine Kd.gP Kd.string (w0:=(w.alloc (.cells #[.int .i64 12,.string s,.int .i64 n,.slice (some ad) len c] 24))) (w.heap.size+1) rfl (.tmp 72) (.tmp 75) 48 9 (.string ⟨#[]⟩) 16 rfl Tryz.underlying48 Bj rfl wN aG (.slice A5 n5 c5) (texts (l.take i)) ys [.string ys] (fun k=>w.heap.size+1≤k) (fun _=>False) rfl rfl rfl (fun _ hk=>hk.elim) (fun k hk=>Nat.le_trans hsz hk) Gy Jr.out hsz (by rw[SN.out];omega) ?_;exact WC
   ·exact aeh
  ·exact VP
theorem akm (s:ByteArray)(n:Int)(hpl:lT s n=true)(l:List Tr)(hl:l.length≤1099511627776)(hfl:∀y,y∈l→Fit y)(A:Option Addr)(c:Nat)(w:World)(h:Kd.C KT w A l.length l)(ht:jU w)
  (hT:∀y,y∈l→∀t,t∈y.f3→∀A c W,Below w.heap.size w W→Rd W t A c→Calls Tryz.prog 91 #[nd t A c] W (aH W ((fun t=>gT t||Q .T t) t)))
  (hN:∀t A c W,Calls Tryz.prog 93 #[nd t A c] W (aH W (gT t))):
  Calls Tryz.prog 90 #[.agg #[.int .i64 12,.string s,.int .i64 n,.slice A l.length c],.bool true] w (aH w (nN l&&l.all (Q .PaT))):=by
 refine NA ?_;intro HT HC HTAB qm;have HN:=hide hN;obtain⟨P,hP⟩:∃P:Tr→Bool,Q .PaT=P:=⟨_,rfl⟩;refine Vx ?_;intro HP HB0 HPL;refine uj ?_;intro len hlen HL hlb;rw[hlen]at HB0⊢HPL;have dI:=hide (fF 12 s n A len c w);clear hT h ht hlen hl hfl hP hpl hN;go_enter Tryz.func90,Tryz.ntmps90;go_wp2_with (go_at_call 44;refine HPL.out.mono ?_;rintro e w1 ⟨rfl,h1⟩;have HW1:=hide (show Below (w.heap.size+1) (w.alloc (.cells #[.int .i64 12,.string s,.int .i64 n,.slice A len c] 24)) w1 from h1.mono qo);clear h1);refine C9 ?_;intro Q0;go_loopg [5,6] (len+1) (fun gk v5 vc wr=>∃i:Nat,i≤len∧len-i<gk∧vc= .int .i64 i∧Aside0 (NQ w (w.alloc (.cells #[.int .i64 12,.string s,.int .i64 n,.slice A len c] 24)) P l i v5 wr))
 case atStart=>exact⟨0,Nat.zero_le _,aG,rfl,Q0⟩
 case round=>
  obtain⟨i,hi,lS,rfl,J⟩:=hrel;clear Q0;refine FD ?_;intro b0 b1 b2 b3;by_cases hlt:i<len
  ·refine l7 ?_
   intro eY y hy;obtain⟨ad,A',c',rfl,dR,k0,k1,k2,k3⟩:=jO (kL HC.out J.out.b0) (HTAB.out.below J.out.b0) hy;obtain⟨A5,c5,e5,El,Cg⟩:=Kd.bL J.out.row;subst e5;refine Zn ?_;intro n5 Ah Y8 xV g_ HY SN jL sO HSN;rw[Ah]at xV⊢;obtain⟨zi,hzi⟩:∃z,jE (texts (l.take i)) y.f1=z:=⟨_,rfl⟩;have EG:=hide hzi;rw[hzi]at xV;obtain⟨yk,ys,yn,yl⟩:=y;simp only at k0 k1 k2 k3 xV;obtain⟨zk,vO⟩:∃z,(yk != 13)=z:=⟨_,rfl⟩;obtain⟨zn,hzn⟩:∃z,(yn != 0)=z:=⟨_,rfl⟩;obtain⟨zp,iO⟩:∃z,nH ys=!z:=⟨!nH ys,by simp⟩;have qK:=hide (fun W=>jy ys (by have:=g_.str;simp only at this;omega) W);rw[iO]at qK;have hPy:∀q,QR [(.i,.T)] yl=q→P (⟨yk,ys,yn,yl⟩:Tr)=(!zk&&(!zn&&(!zp&&q))):=fun q hq=>by rw[←HP.out,Q,iO,hq,←vO,←hzn];simp only[bne,Bool.not_not];cases(yk==13)<;>cases(yn==0)<;>cases zp<;>rfl
   have HK:=hide (And.intro k0 (And.intro k1 (And.intro k2 k3)));by_cases hone:yl.length=1
   ·obtain⟨t,rfl⟩:∃t,yl=[t]:=by match yl,hone with|[t],_=>exact⟨t,rfl⟩
    obtain⟨eB,A2,c2,rfl,hrt,m0,m1,m2,m3⟩:=dR.kid (i:=0) (y:=t) rfl;rw[show eB.add (0*4)=eB from kN eB]at m0 m1 m2 m3;obtain⟨p,hp⟩:∃p,(gT t||Q .T t)=!p:=⟨!(gT t||Q .T t),qo⟩;obtain⟨u,hu⟩:∃u,gT t=u:=⟨_,rfl⟩;have vU:=hide (hPy (!p&&!u) (by rw[QR,QR];simp only[BH,Bool.and_true];rw[←hp,←hu];cases hT:Q .T t with|true=>rw[SL hT];rfl|false=>cases gT t<;>rfl));have gN:=hide (fun W=>show Calls Tryz.prog 93 #[nd t A2 c2] W (aH W u)from by rw[←hu];exact HN.out t A2 c2 W);unfold nd at gN;refine yZ ?_;intro oF;unfold nd at oF;simp only[List.length_cons,List.length_nil,Nat.zero_add]at HK k3;have HM:=hide (And.intro m0 (And.intro m1 (And.intro m2 m3)));have iI:=hide (fun W (h:Below wr.heap.size wr W)=>And.intro (And.intro (ak h HK.out.1) (And.intro (ak h HK.out.2.1) (And.intro (ak h HK.out.2.2.1) (ak h HK.out.2.2.2)))) (And.intro (ak h HM.out.1) (And.intro (ak h HM.out.2.1) (And.intro (ak h HM.out.2.2.1) (ak h HM.out.2.2.2)))));refine GH ?_;intro pV o9;have n0:=fun o=>bY o m0;have n1:=fun o=>bY o m1;have n2:=fun o=>bY o m2;have n3:=fun o=>bY o m3;clear hy dR hrt hp iO hPy g_ hzi Cg El Ah hu m0 m1 m2 m3
    go_wp2_with (first
     |(go_at_call 13;(with_reducible refine(qK.out _).mono ?_);rintro e w2 ⟨rfl,h2⟩;have HD2:=hide (show Below (wr.heap.size+1) _ w2 from h2.mono qo);have HB2:=hide (o9.out.trans (HD2.out.mono aG));obtain⟨⟨g20,g21,g22,g23⟩,x20,x21,x22,x23⟩:=iI.out _ HB2.out;obtain⟨y20,y21,y22,y23⟩:=pV.out _ HD2.out;obtain⟨q20,q21,q22,q23⟩:=dI.out _ (J.out.b1.trans (HB2.out.mono J.out.sz));clear h2)
     |(go_at_call 91;(with_reducible refine(oF.out _ HB2.out).mono ?_);rintro e w3 ⟨rfl,h3⟩;have HB3:=hide (HB2.out.trans (h3.mono HB2.out.size));have HD3:=hide (HD2.out.trans (h3.mono wm));obtain⟨⟨g30,g31,g32,g33⟩,x30,x31,x32,x33⟩:=iI.out _ HB3.out;obtain⟨y30,y31,y32,y33⟩:=pV.out _ HD3.out;obtain⟨q30,q31,q32,q33⟩:=dI.out _ (J.out.b1.trans (HB3.out.mono J.out.sz));clear h3)
     |(go_at_call 93;(with_reducible refine(gN.out _).mono ?_);rintro e w4 ⟨rfl,h4⟩;have jV:=hide (HB3.out.trans (h4.mono HB3.out.size));have HD4:=hide (HD3.out.trans (h4.mono BM));obtain⟨⟨g40,g41,g42,g43⟩,x40,x41,x42,x43⟩:=iI.out _ jV.out;obtain⟨y40,y41,y42,y43⟩:=pV.out _ HD4.out;obtain⟨q40,WS,q42,q43⟩:=dI.out _ (J.out.b1.trans (jV.out.mono J.out.sz));clear h4)
     |(go_at_call 89;(with_reducible refine(xV.out _ jV.out).mono ?_);rintro e w5 ⟨rfl,h5⟩;have vB:=hide (jV.out.trans ((eD (B:=w4.heap.size) h5).mono jV.out.size));have HD5:=hide (HD4.out.trans ((eD (B:=w4.heap.size) h5).mono (by have:=HD4.out.size;simp at this;omega)));obtain⟨⟨g50,g51,g52,g53⟩,x50,x51,x52,x53⟩:=iI.out _ vB.out;obtain⟨y50,y51,y52,y53⟩:=pV.out _ HD5.out;obtain⟨q50,q51,q52,q53⟩:=dI.out _ (J.out.b1.trans (vB.out.mono J.out.sz));clear h5)
     |((with_reducible refine cO (b:= .append) (xs:=#[.tmp 72,.tmp 75]) rfl ?_);at_builtin;refine Aside0.out ?_))
    all_goals try (go_ret;first|(refine⟨aI ?_,J.out.b0.trans (vB.out.mono J.out.b0.size)⟩;rw[sO.out ?_];(try rfl);rw[vU.out];simp[*];done)|(refine⟨aI ?_,J.out.b0.trans (jV.out.mono J.out.b0.size)⟩;rw[sO.out ?_];(try rfl);rw[vU.out];simp[*];done)|(refine⟨aI ?_,J.out.b0.trans (HB3.out.mono J.out.b0.size)⟩;rw[sO.out ?_];(try rfl);rw[vU.out];simp[*];done)|(refine⟨aI ?_,J.out.b0.trans (HB2.out.mono J.out.b0.size)⟩;rw[sO.out ?_];(try rfl);rw[vU.out];simp[*];done)|(refine⟨aI ?_,J.out.b0.trans (o9.out.mono J.out.b0.size)⟩;rw[sO.out ?_];(try rfl);rw[vU.out];simp[*];done)|(refine⟨aI ?_,J.out.b0.trans (vB.out.mono J.out.b0.size)⟩;rw[HSN.out ?_];(try rfl);rw[EG.out];assumption))
    refine⟨?_⟩;have Jr:=hide (J.out.b1.trans (vB.out.mono J.out.sz));have hsz:=Nat.le_trans J.out.sz vB.out.size;refine Kd.gP Kd.string (w0:=(w.alloc (.cells #[.int .i64 12,.string s,.int .i64 n,.slice (some ad) len c] 24))) (w.heap.size+1) rfl (.tmp 72) (.tmp 75) 48 9 (.string ⟨#[]⟩) 16 rfl Tryz.underlying48 Bj rfl wN aG (.slice A5 n5 c5) (texts (l.take i)) ys [.string ys] (fun k=>w.heap.size+1≤k) (fun _=>False) rfl rfl rfl (fun _ hk=>hk.elim) (fun k hk=>Nat.le_trans hsz hk) (by rw[←SN.out];exact Kd.bS J.out.row vB.out) Jr.out hsz (by rw[SN.out];omega) ?_;exact WC
   ·exact aeh
  ·exact VP
end Go.Proofs.YtldgmneijipbjaaGreatDoor.H
